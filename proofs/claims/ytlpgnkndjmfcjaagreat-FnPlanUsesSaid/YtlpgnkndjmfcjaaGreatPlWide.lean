/- How wide each kind's part is. -/
import Derived.Test.YtlpgnkndjmfcjaaGreatPlShaped
namespace Go.Proofs.YtlpgnkndjmfcjaaGreat.PFnPlanUses
open Go.RowKit Go.Proofs.YtlpgnkndjmfcjaaGreatW.PrintWords Go.Proofs.YtlpgnkndjmfcjaaGreatW.PrintLast Go.Proofs.YtlpgnkndjmfcjaaGreatW.PrintMore
attribute [local go_sem] max2_int min2_int max_two min_two max_three min_three max_four min_four   -- for this text's walks alone
set_option linter.unusedVariables false
set_option linter.unusedSimpArgs false
namespace Pl
theorem range_mid {W : World} {g e o : Nat} {cs pre seg post : List Value} (h : W.heap[g]? = some (.cells cs.toArray e (0, 0))) (hc : cs = pre ++ (seg ++ post)) (hp : pre.length = o) : W.rangeAt g o seg := fun j v hj => by
  rw [blk_cell h, hc]
  subst hp
  have hj' := (List.getElem?_eq_some_iff.1 hj).1
  simp only [List.getElem?_toArray]
  rw [List.getElem?_append_right (by omega), Nat.add_sub_cancel_left, List.getElem?_append_left hj']
  exact hj
set_option maxHeartbeats 8000000 in
set_option maxRecDepth 100000 in
theorem bothWide_c (x : S39) (cs : List Value) (w : World) (hK : k39.K w x cs) (gk n c : Nat) (k0 : Int) (k1 : Int) (hn : 2 ≤ n) (q0 : w.cell? ⟨gk, 0, none⟩ = some (.int .i64 k0)) (q1 : w.cell? ⟨gk, 1, none⟩ = some (.int .i64 k1)) :
    Calls Tryz.prog 115 #[.agg #[], .agg cs.toArray, .slice (some ⟨gk, 0, none⟩) n c] w fun e w' => e = .returned (.int .i64 (ifW (decide (k0 = k1)) k0)) ∧ Below w.heap.size w w' := by
  obtain ⟨A12, c12, A15, c15, A18, c18, hcs, l12, g12, l15, g15, l18, g18⟩ := k39_open hK
  have Q0 := Aside0.mk q0
  have Q1 := Aside0.mk q1
  have t0 : 0 < n := by omega
  have t1 : (1 : Int) < (n : Int) := by omega
  clear hcs l12 g12 l15 g15 l18 g18 hK q0 q1
  go_enter Tryz.func115, Tryz.ntmps115
  go_wp2_with (first
    | ((with_reducible refine gate_dst (N := 3) rfl ?_); refine box_ 96 (.tmp 0) rfl rfl #[] rfl ?_; intro g0 hg w0 hb hB; have B0 := Aside0.mk hB; clear hg hb hB)
    | ((with_reducible refine gate_dst (N := 4) rfl ?_); refine box_ 39 (.tmp 1) rfl rfl cs.toArray rfl ?_; intro g hg w1 hb hB; have X1 := Aside0.mk hb; have B1 := Aside0.mk (below_step B0.out hB); clear hb hB B0 hg))
  refine start_ (n := 12) (S := fun w' => w'.cell? ⟨gk, 0, none⟩ = some (.int .i64 k0) ∧ w'.cell? ⟨gk, 1, none⟩ = some (.int .i64 k1) ∧ Below w.heap.size w w') (ds := []) (zm 12 0) (by kernel_rfl) rfl rfl ⟨(zhs (below_drew B1.out) Q0.out), (zhs (below_drew B1.out) Q1.out), (below_drew B1.out)⟩ (fun hHeld => ?_)
  refine zpk 0 7 12 1 ?_
  refine zpk 1 8 12 3 ?_
  refine zpk 3 10 12 11 ?_
  refine zpk 4 11 12 27 ?_
  refine zpk 7 14 12 155 ?_
  refine zpk 8 15 12 411 ?_
  refine ztk 2 9 12 415 ?_
  refine ztk 5 12 12 447 ?_
  refine zpk 6 13 12 511 ?_
  refine ztk 9 16 12 1023 ?_
  refine one_ (i := 10) (N := some 17) (zm 12 2047) rfl rfl (by kernel_rfl) (by decide) (fun K hK => ?_)
  refine goes_ Tryz.func37 (by kernel_rfl) rfl #[.bool (k0 == k1), .int .i64 k0] (by rfl) rfl rfl (by simp only [List.map_toArray, List.map_cons, List.map_nil]; rfl) ?_
  refine (wideIf_c _ _ _).mono ?_
  rintro e w' ⟨rfl, hb⟩
  refine ⟨_, rfl, ?_⟩
  refine hK.out _ _ ⟨(pw_cell_below hb hHeld.1), (pw_cell_below hb hHeld.2.1), (below_step hHeld.2.2 hb)⟩ (fun hHeld => ?_)
  clear hK K
  refine norm_ (a' := ?_) ?_ ?_
  rotate_left
  · show Act.put _ (some 17) _ = _
    simp only [Act.put, List.setIfInBounds_toArray, List.set_cons_zero, List.set_cons_succ, i64_w, i32_w]
    rfl
  refine zpk 11 6 12 4095 ?_
  refine done_ (by kernel_rfl) ?_
  have B9 := Aside0.mk hHeld.2.2
  clear hHeld
  go_wp2
  go_ret
  exact ⟨by rw [show decide (k0 = k1) = (k0 == k1) by rw [Bool.eq_iff_iff]; simp]; rfl, B9.out⟩
set_option maxHeartbeats 8000000 in
set_option maxRecDepth 100000 in
theorem whereWide_c (x : S39) (cs : List Value) (w : World) (hK : k39.K w x cs) (gk n c : Nat) (k0 : Int) (hn : 1 ≤ n) (q0 : w.cell? ⟨gk, 0, none⟩ = some (.int .i64 k0)) :
    Calls Tryz.prog 93 #[.agg #[], .agg cs.toArray, .slice (some ⟨gk, 0, none⟩) n c] w fun e w' => e = .returned (.int .i64 (ifW (testB' x.f2 k0) k0)) ∧ Below w.heap.size w w' := by
  obtain ⟨A12, c12, A15, c15, A18, c18, hcs, l12, g12, l15, g15, l18, g18⟩ := k39_open hK
  have Q0 := Aside0.mk q0
  have t0 : 0 < n := by omega
  have HA := Aside0.mk (show cs = [.int .i64 x.f0, .int .i64 x.f1] ++ (testCells x.f2 ++ [.slice A12 x.f3.length c12, .int .i64 x.f4, .int .i64 x.f5, .slice A15 x.f6.length c15, .int .i64 x.f7, .int .i64 x.f8, .slice A18 x.f9.length c18]) from hcs)
  clear hcs l12 g12 l15 g15 l18 g18 hK q0
  go_enter Tryz.func93, Tryz.ntmps93
  go_wp2_with (first
    | ((with_reducible refine gate_dst (N := 3) rfl ?_); refine box_ 93 (.tmp 0) rfl rfl #[] rfl ?_; intro g0 hg w0 hb hB; have B0 := Aside0.mk hB; clear hg hb hB)
    | ((with_reducible refine gate_dst (N := 4) rfl ?_); refine box_ 39 (.tmp 1) rfl rfl cs.toArray rfl ?_; intro g hg w1 hb hB; have X1 := Aside0.mk hb; have B1 := Aside0.mk (below_step B0.out hB); clear hb hB B0 hg))
  refine start_ (n := 11) (S := fun w' => w'.cell? ⟨gk, 0, none⟩ = some (.int .i64 k0) ∧ w'.heap[g]? = some (.cells cs.toArray 39 (0, 0)) ∧ Below w.heap.size w w') (ds := []) (zm 11 0) (by kernel_rfl) rfl rfl ⟨(zhs (below_drew B1.out) Q0.out), X1.out, (below_drew B1.out)⟩ (fun hHeld => ?_)
  refine zpk 0 7 11 1 ?_
  refine zpk 2 9 11 5 ?_
  refine zpk 3 10 11 13 ?_
  refine zpk 6 13 11 77 ?_
  refine zpk 7 14 11 205 ?_
  refine take_ (i := 1) (N := some 8) (v := _) (a' := ?_) (zm 11 207) rfl rfl (by kernel_rfl) (fun _ _ _ h => h) (yieldsIf_load_mid (by rfl) 35 (.tmp 7) rfl g 2 rfl (testCells x.f2) _ (fun W h => range_mid h.2.1 HA.out rfl) Tryz.underlying35 rfl (by kernel_rfl)) hHeld ?_ ?_
  rotate_left
  · simp only [Act.put, List.setIfInBounds_toArray, List.set_cons_zero, List.set_cons_succ, i64_w, i32_w]
    rfl
  refine ztk 4 11 11 223 ?_
  refine ztk 8 15 11 479 ?_
  refine one_ (i := 5) (N := some 12) (zm 11 511) rfl rfl (by kernel_rfl) (by decide) (fun K hK => ?_)
  refine goes_ Tryz.func94 (by kernel_rfl) rfl #[.agg (testCells x.f2).toArray, .int .i64 k0] (by rfl) rfl rfl (by simp only [List.map_toArray, List.map_cons, List.map_nil]; rfl) ?_
  refine (implTestOk_c _ _ _).mono ?_
  rintro e w' ⟨rfl, hb⟩
  refine ⟨_, rfl, ?_⟩
  refine hK.out _ _ ⟨(pw_cell_below hb hHeld.1), ((hb.block _ (blk_lt hHeld.2.1)).trans hHeld.2.1), (below_step hHeld.2.2 hb)⟩ (fun hHeld => ?_)
  clear hK K
  refine norm_ (a' := ?_) ?_ ?_
  rotate_left
  · show Act.put _ (some 12) _ = _
    simp only [Act.put, List.setIfInBounds_toArray, List.set_cons_zero, List.set_cons_succ, i64_w, i32_w]
    rfl
  refine one_ (i := 9) (N := some 16) (zm 11 1023) rfl rfl (by kernel_rfl) (by decide) (fun K hK => ?_)
  refine goes_ Tryz.func37 (by kernel_rfl) rfl #[.bool (testB' x.f2 k0), .int .i64 k0] (by rfl) rfl rfl (by simp only [List.map_toArray, List.map_cons, List.map_nil]; rfl) ?_
  refine (wideIf_c _ _ _).mono ?_
  rintro e w' ⟨rfl, hb⟩
  refine ⟨_, rfl, ?_⟩
  refine hK.out _ _ ⟨(pw_cell_below hb hHeld.1), ((hb.block _ (blk_lt hHeld.2.1)).trans hHeld.2.1), (below_step hHeld.2.2 hb)⟩ (fun hHeld => ?_)
  clear hK K
  refine norm_ (a' := ?_) ?_ ?_
  rotate_left
  · show Act.put _ (some 16) _ = _
    simp only [Act.put, List.setIfInBounds_toArray, List.set_cons_zero, List.set_cons_succ, i64_w, i32_w]
    rfl
  refine zpk 10 6 11 2047 ?_
  refine done_ (by kernel_rfl) ?_
  have B9 := Aside0.mk hHeld.2.2
  clear hHeld
  go_wp2
  go_ret
  exact ⟨rfl, B9.out⟩
set_option maxHeartbeats 8000000 in
set_option maxRecDepth 100000 in
theorem onceWide_c (x : S39) (cs : List Value) (w : World) (hK : k39.K w x cs) (gk n c : Nat) (k0 : Int) (hn : 1 ≤ n) (q0 : w.cell? ⟨gk, 0, none⟩ = some (.int .i64 k0)) :
    Calls Tryz.prog 120 #[.agg #[], .agg cs.toArray, .slice (some ⟨gk, 0, none⟩) n c] w fun e w' => e = .returned (.int .i64 (k0)) ∧ Below w.heap.size w w' := by
  obtain ⟨A12, c12, A15, c15, A18, c18, hcs, l12, g12, l15, g15, l18, g18⟩ := k39_open hK
  have Q0 := Aside0.mk q0
  have t0 : 0 < n := by omega
  clear hcs l12 g12 l15 g15 l18 g18 hK q0
  go_enter Tryz.func120, Tryz.ntmps120
  go_wp2_with (first
    | ((with_reducible refine gate_dst (N := 3) rfl ?_); refine box_ 97 (.tmp 0) rfl rfl #[] rfl ?_; intro g0 hg w0 hb hB; have B0 := Aside0.mk hB; clear hg hb hB)
    | ((with_reducible refine gate_dst (N := 4) rfl ?_); refine box_ 39 (.tmp 1) rfl rfl cs.toArray rfl ?_; intro g hg w1 hb hB; have X1 := Aside0.mk hb; have B1 := Aside0.mk (below_step B0.out hB); have q0 := zhs B1.out Q0.out; clear hb hB B0 hg))
  go_ret
  exact ⟨rfl, B1.out⟩
set_option maxHeartbeats 8000000 in
set_option maxRecDepth 100000 in
theorem joinTWide_c (x : S39) (cs : List Value) (w : World) (hK : k39.K w x cs) (gk n c : Nat) (k0 : Int) (k1 : Int) (hn : 2 ≤ n) (q0 : w.cell? ⟨gk, 0, none⟩ = some (.int .i64 k0)) (q1 : w.cell? ⟨gk, 1, none⟩ = some (.int .i64 k1)) (h4 : colB x.f4 k0 = true) :
    Calls Tryz.prog 109 #[.agg #[], .agg cs.toArray, .slice (some ⟨gk, 0, none⟩) n c] w fun e w' => e = .returned (.int .i64 (ifW (colB x.f5 k1) (wrap64 (k0 + k1)))) ∧ Below w.heap.size w w' := by
  obtain ⟨A12, c12, A15, c15, A18, c18, hcs, l12, g12, l15, g15, l18, g18⟩ := k39_open hK
  have E13 := Aside0.mk (show cs[13]? = some (.int .i64 x.f4) by rw [hcs]; rfl)
  have E14 := Aside0.mk (show cs[14]? = some (.int .i64 x.f5) by rw [hcs]; rfl)
  have Q0 := Aside0.mk q0
  have Q1 := Aside0.mk q1
  have t0 : 0 < n := by omega
  have t1 : (1 : Int) < (n : Int) := by omega
  have C1 := Aside0.mk (fun W => show Calls Tryz.prog 110 #[.int .i64 x.f4, .int .i64 k0] W fun e w' => e = .returned (.bool true) ∧ Below W.heap.size W w' from h4 ▸ isPlace_c x.f4 k0 W)
  clear h4
  clear hcs l12 g12 l15 g15 l18 g18 hK q0 q1
  go_enter Tryz.func109, Tryz.ntmps109
  go_wp2_with (first
    | ((with_reducible refine gate_dst (N := 3) rfl ?_); refine box_ 95 (.tmp 0) rfl rfl #[] rfl ?_; intro g0 hg w0 hb hB; have B0 := Aside0.mk hB; clear hg hb hB)
    | ((with_reducible refine gate_dst (N := 4) rfl ?_); refine box_ 39 (.tmp 1) rfl rfl cs.toArray rfl ?_; intro g hg w1 hb hB; have X1 := Aside0.mk hb; have B1 := Aside0.mk (below_step B0.out hB); clear hb hB B0 hg))
  refine start_ (n := 23) (S := fun w' => w'.cell? ⟨gk, 0, none⟩ = some (.int .i64 k0) ∧ w'.cell? ⟨gk, 1, none⟩ = some (.int .i64 k1) ∧ w'.cell? ⟨g, 13, none⟩ = some (.int .i64 x.f4) ∧ w'.cell? ⟨g, 14, none⟩ = some (.int .i64 x.f5) ∧ Below w.heap.size w w') (ds := []) (zm 23 0) (by kernel_rfl) rfl rfl ⟨(zhs (below_drew B1.out) Q0.out), (zhs (below_drew B1.out) Q1.out), (cell_of_range X1.out E13.out), (cell_of_range X1.out E14.out), (below_drew B1.out)⟩ (fun hHeld => ?_)
  refine zpk 0 7 23 1 ?_
  refine zpk 2 9 23 5 ?_
  refine zpk 3 10 23 13 ?_
  refine zpk 14 21 23 16397 ?_
  refine zpk 15 22 23 49165 ?_
  refine zpk 17 24 23 180237 ?_
  refine zpk 18 25 23 442381 ?_
  refine ztk 1 8 23 442383 ?_
  refine ztk 4 11 23 442399 ?_
  refine ztk 16 23 23 507935 ?_
  refine ztk 19 26 23 1032223 ?_
  refine zpk 20 27 23 2080799 ?_
  refine one_ (i := 5) (N := some 12) (zm 23 2080831) rfl rfl (by kernel_rfl) (by decide) (fun K hK => ?_)
  refine goes_ Tryz.func110 (by kernel_rfl) rfl #[.int .i64 x.f4, .int .i64 k0] (by rfl) rfl rfl (by simp only [List.map_toArray, List.map_cons, List.map_nil]; rfl) ?_
  refine (C1.out _).mono ?_
  rintro e w' ⟨rfl, hb⟩
  refine ⟨_, rfl, ?_⟩
  refine hK.out _ _ ⟨(pw_cell_below hb hHeld.1), (pw_cell_below hb hHeld.2.1), (pw_cell_below hb hHeld.2.2.1), (pw_cell_below hb hHeld.2.2.2.1), (below_step hHeld.2.2.2.2 hb)⟩ (fun hHeld => ?_)
  clear hK K
  refine norm_ (a' := ?_) ?_ ?_
  rotate_left
  · show Act.put _ (some 12) _ = _
    simp only [Act.put, List.setIfInBounds_toArray, List.set_cons_zero, List.set_cons_succ, i64_w, i32_w]
    rfl
  refine zpk 6 13 23 2080895 ?_
  refine zpk 7 14 23 2081023 ?_
  refine zpk 9 16 23 2081535 ?_
  refine zpk 10 17 23 2082559 ?_
  refine ztk 8 15 23 2082815 ?_
  refine ztk 11 18 23 2084863 ?_
  refine one_ (i := 12) (N := some 19) (zm 23 2088959) rfl rfl (by kernel_rfl) (by decide) (fun K hK => ?_)
  refine goes_ Tryz.func110 (by kernel_rfl) rfl #[.int .i64 x.f5, .int .i64 k1] (by rfl) rfl rfl (by simp only [List.map_toArray, List.map_cons, List.map_nil]; rfl) ?_
  refine (isPlace_c _ _ _).mono ?_
  rintro e w' ⟨rfl, hb⟩
  refine ⟨_, rfl, ?_⟩
  refine hK.out _ _ ⟨(pw_cell_below hb hHeld.1), (pw_cell_below hb hHeld.2.1), (pw_cell_below hb hHeld.2.2.1), (pw_cell_below hb hHeld.2.2.2.1), (below_step hHeld.2.2.2.2 hb)⟩ (fun hHeld => ?_)
  clear hK K
  refine norm_ (a' := ?_) ?_ ?_
  rotate_left
  · show Act.put _ (some 19) _ = _
    simp only [Act.put, List.setIfInBounds_toArray, List.set_cons_zero, List.set_cons_succ, i64_w, i32_w]
    rfl
  refine zpk 13 20 23 2097151 ?_
  refine one_ (i := 21) (N := some 28) (zm 23 4194303) rfl rfl (by kernel_rfl) (by decide) (fun K hK => ?_)
  refine goes_ Tryz.func37 (by kernel_rfl) rfl #[.bool (colB x.f5 k1), .int .i64 (wrap64 (k0 + k1))] (by rfl) rfl rfl (by simp only [List.map_toArray, List.map_cons, List.map_nil]; rfl) ?_
  refine (wideIf_c _ _ _).mono ?_
  rintro e w' ⟨rfl, hb⟩
  refine ⟨_, rfl, ?_⟩
  refine hK.out _ _ ⟨(pw_cell_below hb hHeld.1), (pw_cell_below hb hHeld.2.1), (pw_cell_below hb hHeld.2.2.1), (pw_cell_below hb hHeld.2.2.2.1), (below_step hHeld.2.2.2.2 hb)⟩ (fun hHeld => ?_)
  clear hK K
  refine norm_ (a' := ?_) ?_ ?_
  rotate_left
  · show Act.put _ (some 28) _ = _
    simp only [Act.put, List.setIfInBounds_toArray, List.set_cons_zero, List.set_cons_succ, i64_w, i32_w]
    rfl
  refine zpk 22 6 23 8388607 ?_
  refine done_ (by kernel_rfl) ?_
  have B9 := Aside0.mk hHeld.2.2.2.2
  clear hHeld
  go_wp2
  go_ret
  exact ⟨rfl, B9.out⟩
set_option maxHeartbeats 8000000 in
set_option maxRecDepth 100000 in
theorem joinFWide_c (x : S39) (cs : List Value) (w : World) (hK : k39.K w x cs) (gk n c : Nat) (k0 : Int) (k1 : Int) (hn : 2 ≤ n) (q0 : w.cell? ⟨gk, 0, none⟩ = some (.int .i64 k0)) (q1 : w.cell? ⟨gk, 1, none⟩ = some (.int .i64 k1)) (h4 : colB x.f4 k0 = false) :
    Calls Tryz.prog 109 #[.agg #[], .agg cs.toArray, .slice (some ⟨gk, 0, none⟩) n c] w fun e w' => e = .returned (.int .i64 (ifW false (wrap64 (k0 + k1)))) ∧ Below w.heap.size w w' := by
  obtain ⟨A12, c12, A15, c15, A18, c18, hcs, l12, g12, l15, g15, l18, g18⟩ := k39_open hK
  have E13 := Aside0.mk (show cs[13]? = some (.int .i64 x.f4) by rw [hcs]; rfl)
  have E14 := Aside0.mk (show cs[14]? = some (.int .i64 x.f5) by rw [hcs]; rfl)
  have Q0 := Aside0.mk q0
  have Q1 := Aside0.mk q1
  have t0 : 0 < n := by omega
  have t1 : (1 : Int) < (n : Int) := by omega
  have C1 := Aside0.mk (fun W => show Calls Tryz.prog 110 #[.int .i64 x.f4, .int .i64 k0] W fun e w' => e = .returned (.bool false) ∧ Below W.heap.size W w' from h4 ▸ isPlace_c x.f4 k0 W)
  clear h4
  clear hcs l12 g12 l15 g15 l18 g18 hK q0 q1
  go_enter Tryz.func109, Tryz.ntmps109
  go_wp2_with (first
    | ((with_reducible refine gate_dst (N := 3) rfl ?_); refine box_ 95 (.tmp 0) rfl rfl #[] rfl ?_; intro g0 hg w0 hb hB; have B0 := Aside0.mk hB; clear hg hb hB)
    | ((with_reducible refine gate_dst (N := 4) rfl ?_); refine box_ 39 (.tmp 1) rfl rfl cs.toArray rfl ?_; intro g hg w1 hb hB; have X1 := Aside0.mk hb; have B1 := Aside0.mk (below_step B0.out hB); clear hb hB B0 hg))
  refine start_ (n := 23) (S := fun w' => w'.cell? ⟨gk, 0, none⟩ = some (.int .i64 k0) ∧ w'.cell? ⟨gk, 1, none⟩ = some (.int .i64 k1) ∧ w'.cell? ⟨g, 13, none⟩ = some (.int .i64 x.f4) ∧ w'.cell? ⟨g, 14, none⟩ = some (.int .i64 x.f5) ∧ Below w.heap.size w w') (ds := []) (zm 23 0) (by kernel_rfl) rfl rfl ⟨(zhs (below_drew B1.out) Q0.out), (zhs (below_drew B1.out) Q1.out), (cell_of_range X1.out E13.out), (cell_of_range X1.out E14.out), (below_drew B1.out)⟩ (fun hHeld => ?_)
  refine zpk 0 7 23 1 ?_
  refine zpk 2 9 23 5 ?_
  refine zpk 3 10 23 13 ?_
  refine zpk 14 21 23 16397 ?_
  refine zpk 15 22 23 49165 ?_
  refine zpk 17 24 23 180237 ?_
  refine zpk 18 25 23 442381 ?_
  refine ztk 1 8 23 442383 ?_
  refine ztk 4 11 23 442399 ?_
  refine ztk 16 23 23 507935 ?_
  refine ztk 19 26 23 1032223 ?_
  refine zpk 20 27 23 2080799 ?_
  refine one_ (i := 5) (N := some 12) (zm 23 2080831) rfl rfl (by kernel_rfl) (by decide) (fun K hK => ?_)
  refine goes_ Tryz.func110 (by kernel_rfl) rfl #[.int .i64 x.f4, .int .i64 k0] (by rfl) rfl rfl (by simp only [List.map_toArray, List.map_cons, List.map_nil]; rfl) ?_
  refine (C1.out _).mono ?_
  rintro e w' ⟨rfl, hb⟩
  refine ⟨_, rfl, ?_⟩
  refine hK.out _ _ ⟨(pw_cell_below hb hHeld.1), (pw_cell_below hb hHeld.2.1), (pw_cell_below hb hHeld.2.2.1), (pw_cell_below hb hHeld.2.2.2.1), (below_step hHeld.2.2.2.2 hb)⟩ (fun hHeld => ?_)
  clear hK K
  refine norm_ (a' := ?_) ?_ ?_
  rotate_left
  · show Act.put _ (some 12) _ = _
    simp only [Act.put, List.setIfInBounds_toArray, List.set_cons_zero, List.set_cons_succ, i64_w, i32_w]
    rfl
  refine zpk 6 13 23 2080895 ?_
  refine zqk 7 14 23 2081023 ?_
  refine zqk 8 15 23 2081279 ?_
  refine zqk 9 16 23 2081791 ?_
  refine zqk 10 17 23 2082815 ?_
  refine zqk 11 18 23 2084863 ?_
  refine zqk 12 19 23 2088959 ?_
  refine zpk 13 20 23 2097151 ?_
  refine one_ (i := 21) (N := some 28) (zm 23 4194303) rfl rfl (by kernel_rfl) (by decide) (fun K hK => ?_)
  refine goes_ Tryz.func37 (by kernel_rfl) rfl #[.bool false, .int .i64 (wrap64 (k0 + k1))] (by rfl) rfl rfl (by simp only [List.map_toArray, List.map_cons, List.map_nil]; rfl) ?_
  refine (wideIf_c _ _ _).mono ?_
  rintro e w' ⟨rfl, hb⟩
  refine ⟨_, rfl, ?_⟩
  refine hK.out _ _ ⟨(pw_cell_below hb hHeld.1), (pw_cell_below hb hHeld.2.1), (pw_cell_below hb hHeld.2.2.1), (pw_cell_below hb hHeld.2.2.2.1), (below_step hHeld.2.2.2.2 hb)⟩ (fun hHeld => ?_)
  clear hK K
  refine norm_ (a' := ?_) ?_ ?_
  rotate_left
  · show Act.put _ (some 28) _ = _
    simp only [Act.put, List.setIfInBounds_toArray, List.set_cons_zero, List.set_cons_succ, i64_w, i32_w]
    rfl
  refine zpk 22 6 23 8388607 ?_
  refine done_ (by kernel_rfl) ?_
  have B9 := Aside0.mk hHeld.2.2.2.2
  clear hHeld
  go_wp2
  go_ret
  exact ⟨rfl, B9.out⟩
set_option maxHeartbeats 8000000 in
set_option maxRecDepth 100000 in
theorem groupAWide_c (x : S39) (cs : List Value) (w : World) (hK : k39.K w x cs) (gk n c : Nat) (k0 : Int) (hn : 1 ≤ n) (q0 : w.cell? ⟨gk, 0, none⟩ = some (.int .i64 k0)) (hs6 : x.f6.length ≤ 1048576) (h7 : x.f7 < 0) :
    Calls Tryz.prog 125 #[.agg #[], .agg cs.toArray, .slice (some ⟨gk, 0, none⟩) n c] w fun e w' => e = .returned (.int .i64 (ifW false ((x.f6.length : Int) + 1))) ∧ Below w.heap.size w w' := by
  obtain ⟨A12, c12, A15, c15, A18, c18, hcs, l12, g12, l15, g15, l18, g18⟩ := k39_open hK
  have E16 := Aside0.mk (show cs[16]? = some (.int .i64 x.f7) by rw [hcs]; rfl)
  have E15 := Aside0.mk (show cs[15]? = some (.slice A15 x.f6.length c15) by rw [hcs]; rfl)
  have E17 := Aside0.mk (show cs[17]? = some (.int .i64 x.f8) by rw [hcs]; rfl)
  have Q0 := Aside0.mk q0
  have t0 : 0 < n := by omega
  have G15 := Aside0.mk g15
  have L15 := Aside0.mk l15
  have S6 := hs6
  have d7 : decide (0 ≤ x.f7) = false := by simp; omega
  clear h7
  clear hcs l12 g12 l15 g15 l18 g18 hK q0
  go_enter Tryz.func125, Tryz.ntmps125
  go_wp2_with (first
    | ((with_reducible refine gate_dst (N := 3) rfl ?_); refine box_ 98 (.tmp 0) rfl rfl #[] rfl ?_; intro g0 hg w0 hb hB; have B0 := Aside0.mk hB; clear hg hb hB)
    | ((with_reducible refine gate_dst (N := 4) rfl ?_); refine box_ 39 (.tmp 1) rfl rfl cs.toArray rfl ?_; intro g hg w1 hb hB; have X1 := Aside0.mk hb; have B1 := Aside0.mk (below_step B0.out hB); clear hb hB B0 hg))
  refine start_ (n := 25) (S := fun w' => w'.cell? ⟨gk, 0, none⟩ = some (.int .i64 k0) ∧ w'.cell? ⟨g, 16, none⟩ = some (.int .i64 x.f7) ∧ w'.cell? ⟨g, 15, none⟩ = some (.slice A15 x.f6.length c15) ∧ w'.cell? ⟨g, 17, none⟩ = some (.int .i64 x.f8) ∧ Below w.heap.size w w') (ds := []) (zm 25 0) (by kernel_rfl) rfl rfl ⟨(zhs (below_drew B1.out) Q0.out), (cell_of_range X1.out E16.out), (cell_of_range X1.out E15.out), (cell_of_range X1.out E17.out), (below_drew B1.out)⟩ (fun hHeld => ?_)
  refine zpk 0 8 25 1 ?_
  refine ztk 1 9 25 3 ?_
  refine zpk 2 10 25 7 ?_
  refine zpk 3 11 25 15 ?_
  refine zqk 4 12 25 31 ?_
  refine zqk 5 13 25 63 ?_
  refine zqk 6 14 25 127 ?_
  refine zpk 7 15 25 255 ?_
  refine zpk 8 16 25 511 ?_
  refine zqk 9 17 25 1023 ?_
  refine zqk 10 18 25 2047 ?_
  refine zqk 11 19 25 4095 ?_
  refine zqk 12 20 25 8191 ?_
  refine zqk 13 21 25 16383 ?_
  refine zqk 14 22 25 32767 ?_
  refine zpk 15 23 25 65535 ?_
  refine zpk 16 24 25 131071 ?_
  refine zqk 17 25 25 262143 ?_
  refine zqk 18 26 25 524287 ?_
  refine zqk 19 27 25 1048575 ?_
  refine zqk 20 28 25 2097151 ?_
  refine zqk 21 29 25 4194303 ?_
  refine zqk 22 30 25 8388607 ?_
  refine zpk 23 31 25 16777215 ?_
  refine zpk 24 7 25 33554431 ?_
  refine done_ (by kernel_rfl) ?_
  have B9 := Aside0.mk hHeld.2.2.2.2
  have q6 := hHeld.2.2.1
  clear hHeld
  go_wp2_with (go_at_call 37; refine (wideIf_c _ _ _).mono ?_; rintro e w9 ⟨rfl, hb⟩; have B10 := Aside0.mk (below_step B9.out hb); clear hb)
  go_ret
  exact ⟨rfl, B10.out⟩
set_option maxHeartbeats 8000000 in
set_option maxRecDepth 100000 in
theorem groupBWide_c (x : S39) (cs : List Value) (w : World) (hK : k39.K w x cs) (gk n c : Nat) (k0 : Int) (hn : 1 ≤ n) (q0 : w.cell? ⟨gk, 0, none⟩ = some (.int .i64 k0)) (hs6 : x.f6.length ≤ 1048576) (h7 : 0 ≤ x.f7) (h73 : 3 < x.f7) :
    Calls Tryz.prog 125 #[.agg #[], .agg cs.toArray, .slice (some ⟨gk, 0, none⟩) n c] w fun e w' => e = .returned (.int .i64 (ifW false ((x.f6.length : Int) + 1))) ∧ Below w.heap.size w w' := by
  obtain ⟨A12, c12, A15, c15, A18, c18, hcs, l12, g12, l15, g15, l18, g18⟩ := k39_open hK
  have E16 := Aside0.mk (show cs[16]? = some (.int .i64 x.f7) by rw [hcs]; rfl)
  have E15 := Aside0.mk (show cs[15]? = some (.slice A15 x.f6.length c15) by rw [hcs]; rfl)
  have E17 := Aside0.mk (show cs[17]? = some (.int .i64 x.f8) by rw [hcs]; rfl)
  have Q0 := Aside0.mk q0
  have t0 : 0 < n := by omega
  have G15 := Aside0.mk g15
  have L15 := Aside0.mk l15
  have S6 := hs6
  have d7 : decide (0 ≤ x.f7) = true := by simp; omega
  have d73 : decide (x.f7 ≤ 3) = false := by simp; omega
  clear h7 h73
  clear hcs l12 g12 l15 g15 l18 g18 hK q0
  go_enter Tryz.func125, Tryz.ntmps125
  go_wp2_with (first
    | ((with_reducible refine gate_dst (N := 3) rfl ?_); refine box_ 98 (.tmp 0) rfl rfl #[] rfl ?_; intro g0 hg w0 hb hB; have B0 := Aside0.mk hB; clear hg hb hB)
    | ((with_reducible refine gate_dst (N := 4) rfl ?_); refine box_ 39 (.tmp 1) rfl rfl cs.toArray rfl ?_; intro g hg w1 hb hB; have X1 := Aside0.mk hb; have B1 := Aside0.mk (below_step B0.out hB); clear hb hB B0 hg))
  refine start_ (n := 25) (S := fun w' => w'.cell? ⟨gk, 0, none⟩ = some (.int .i64 k0) ∧ w'.cell? ⟨g, 16, none⟩ = some (.int .i64 x.f7) ∧ w'.cell? ⟨g, 15, none⟩ = some (.slice A15 x.f6.length c15) ∧ w'.cell? ⟨g, 17, none⟩ = some (.int .i64 x.f8) ∧ Below w.heap.size w w') (ds := []) (zm 25 0) (by kernel_rfl) rfl rfl ⟨(zhs (below_drew B1.out) Q0.out), (cell_of_range X1.out E16.out), (cell_of_range X1.out E15.out), (cell_of_range X1.out E17.out), (below_drew B1.out)⟩ (fun hHeld => ?_)
  refine zpk 0 8 25 1 ?_
  refine ztk 1 9 25 3 ?_
  refine zpk 2 10 25 7 ?_
  refine zpk 3 11 25 15 ?_
  refine zpk 4 12 25 31 ?_
  refine ztk 5 13 25 63 ?_
  refine zpk 6 14 25 127 ?_
  refine zpk 7 15 25 255 ?_
  refine zpk 8 16 25 511 ?_
  refine zqk 9 17 25 1023 ?_
  refine zqk 10 18 25 2047 ?_
  refine zqk 11 19 25 4095 ?_
  refine zqk 12 20 25 8191 ?_
  refine zqk 13 21 25 16383 ?_
  refine zqk 14 22 25 32767 ?_
  refine zpk 15 23 25 65535 ?_
  refine zpk 16 24 25 131071 ?_
  refine zqk 17 25 25 262143 ?_
  refine zqk 18 26 25 524287 ?_
  refine zqk 19 27 25 1048575 ?_
  refine zqk 20 28 25 2097151 ?_
  refine zqk 21 29 25 4194303 ?_
  refine zqk 22 30 25 8388607 ?_
  refine zpk 23 31 25 16777215 ?_
  refine zpk 24 7 25 33554431 ?_
  refine done_ (by kernel_rfl) ?_
  have B9 := Aside0.mk hHeld.2.2.2.2
  have q6 := hHeld.2.2.1
  clear hHeld
  go_wp2_with (go_at_call 37; refine (wideIf_c _ _ _).mono ?_; rintro e w9 ⟨rfl, hb⟩; have B10 := Aside0.mk (below_step B9.out hb); clear hb)
  go_ret
  exact ⟨rfl, B10.out⟩
set_option maxHeartbeats 8000000 in
set_option maxRecDepth 100000 in
theorem groupCWide_c (x : S39) (cs : List Value) (w : World) (hK : k39.K w x cs) (gk n c : Nat) (k0 : Int) (hn : 1 ≤ n) (q0 : w.cell? ⟨gk, 0, none⟩ = some (.int .i64 k0)) (hs6 : x.f6.length ≤ 1048576) (h7 : 0 ≤ x.f7) (h73 : x.f7 ≤ 3) (h6 : keysB x.f6 k0 = false) :
    Calls Tryz.prog 125 #[.agg #[], .agg cs.toArray, .slice (some ⟨gk, 0, none⟩) n c] w fun e w' => e = .returned (.int .i64 (ifW false ((x.f6.length : Int) + 1))) ∧ Below w.heap.size w w' := by
  obtain ⟨A12, c12, A15, c15, A18, c18, hcs, l12, g12, l15, g15, l18, g18⟩ := k39_open hK
  have E16 := Aside0.mk (show cs[16]? = some (.int .i64 x.f7) by rw [hcs]; rfl)
  have E15 := Aside0.mk (show cs[15]? = some (.slice A15 x.f6.length c15) by rw [hcs]; rfl)
  have E17 := Aside0.mk (show cs[17]? = some (.int .i64 x.f8) by rw [hcs]; rfl)
  have Q0 := Aside0.mk q0
  have t0 : 0 < n := by omega
  have G15 := Aside0.mk g15
  have L15 := Aside0.mk l15
  have S6 := hs6
  have d7 : decide (0 ≤ x.f7) = true := by simp; omega
  have d73 : decide (x.f7 ≤ 3) = true := by simp; omega
  have C6 := Aside0.mk (fun W hr => show Calls Tryz.prog 126 #[.slice A15 x.f6.length c15, .int .i64 k0] W fun e w' => e = .returned (.bool false) ∧ Below W.heap.size W w' from h6 ▸ keysOk_c A15 c15 x.f6 k0 W hs6 hr l15)
  clear h7 h73 h6
  clear hcs l12 g12 l15 g15 l18 g18 hK q0
  go_enter Tryz.func125, Tryz.ntmps125
  go_wp2_with (first
    | ((with_reducible refine gate_dst (N := 3) rfl ?_); refine box_ 98 (.tmp 0) rfl rfl #[] rfl ?_; intro g0 hg w0 hb hB; have B0 := Aside0.mk hB; clear hg hb hB)
    | ((with_reducible refine gate_dst (N := 4) rfl ?_); refine box_ 39 (.tmp 1) rfl rfl cs.toArray rfl ?_; intro g hg w1 hb hB; have X1 := Aside0.mk hb; have B1 := Aside0.mk (below_step B0.out hB); clear hb hB B0 hg))
  refine start_ (n := 25) (S := fun w' => w'.cell? ⟨gk, 0, none⟩ = some (.int .i64 k0) ∧ w'.cell? ⟨g, 16, none⟩ = some (.int .i64 x.f7) ∧ w'.cell? ⟨g, 15, none⟩ = some (.slice A15 x.f6.length c15) ∧ w'.cell? ⟨g, 17, none⟩ = some (.int .i64 x.f8) ∧ Below w.heap.size w w') (ds := []) (zm 25 0) (by kernel_rfl) rfl rfl ⟨(zhs (below_drew B1.out) Q0.out), (cell_of_range X1.out E16.out), (cell_of_range X1.out E15.out), (cell_of_range X1.out E17.out), (below_drew B1.out)⟩ (fun hHeld => ?_)
  refine zpk 0 8 25 1 ?_
  refine ztk 1 9 25 3 ?_
  refine zpk 2 10 25 7 ?_
  refine zpk 3 11 25 15 ?_
  refine zpk 4 12 25 31 ?_
  refine ztk 5 13 25 63 ?_
  refine zpk 6 14 25 127 ?_
  refine zpk 7 15 25 255 ?_
  refine zpk 8 16 25 511 ?_
  refine zpk 9 17 25 1023 ?_
  refine zpk 11 19 25 3071 ?_
  refine zpk 12 20 25 7167 ?_
  refine ztk 10 18 25 8191 ?_
  refine ztk 13 21 25 16383 ?_
  refine one_ (i := 14) (N := some 22) (zm 25 32767) rfl rfl (by kernel_rfl) (by decide) (fun K hK => ?_)
  refine goes_ Tryz.func126 (by kernel_rfl) rfl #[.slice A15 x.f6.length c15, .int .i64 k0] (by rfl) rfl rfl (by simp only [List.map_toArray, List.map_cons, List.map_nil]; rfl) ?_
  refine (C6.out _ (Kd.C_below G15.out hHeld.2.2.2.2)).mono ?_
  rintro e w' ⟨rfl, hb⟩
  refine ⟨_, rfl, ?_⟩
  refine hK.out _ _ ⟨(pw_cell_below hb hHeld.1), (pw_cell_below hb hHeld.2.1), (pw_cell_below hb hHeld.2.2.1), (pw_cell_below hb hHeld.2.2.2.1), (below_step hHeld.2.2.2.2 hb)⟩ (fun hHeld => ?_)
  clear hK K
  refine norm_ (a' := ?_) ?_ ?_
  rotate_left
  · show Act.put _ (some 22) _ = _
    simp only [Act.put, List.setIfInBounds_toArray, List.set_cons_zero, List.set_cons_succ, i64_w, i32_w]
    rfl
  refine zpk 15 23 25 65535 ?_
  refine zpk 16 24 25 131071 ?_
  refine zqk 17 25 25 262143 ?_
  refine zqk 18 26 25 524287 ?_
  refine zqk 19 27 25 1048575 ?_
  refine zqk 20 28 25 2097151 ?_
  refine zqk 21 29 25 4194303 ?_
  refine zqk 22 30 25 8388607 ?_
  refine zpk 23 31 25 16777215 ?_
  refine zpk 24 7 25 33554431 ?_
  refine done_ (by kernel_rfl) ?_
  have B9 := Aside0.mk hHeld.2.2.2.2
  have q6 := hHeld.2.2.1
  clear hHeld
  go_wp2_with (go_at_call 37; refine (wideIf_c _ _ _).mono ?_; rintro e w9 ⟨rfl, hb⟩; have B10 := Aside0.mk (below_step B9.out hb); clear hb)
  go_ret
  exact ⟨rfl, B10.out⟩
set_option maxHeartbeats 8000000 in
set_option maxRecDepth 100000 in
theorem groupDWide_c (x : S39) (cs : List Value) (w : World) (hK : k39.K w x cs) (gk n c : Nat) (k0 : Int) (hn : 1 ≤ n) (q0 : w.cell? ⟨gk, 0, none⟩ = some (.int .i64 k0)) (hs6 : x.f6.length ≤ 1048576) (h7 : 0 ≤ x.f7) (h73 : x.f7 ≤ 3) (h6 : keysB x.f6 k0 = true) :
    Calls Tryz.prog 125 #[.agg #[], .agg cs.toArray, .slice (some ⟨gk, 0, none⟩) n c] w fun e w' => e = .returned (.int .i64 (ifW (colB x.f8 k0) ((x.f6.length : Int) + 1))) ∧ Below w.heap.size w w' := by
  obtain ⟨A12, c12, A15, c15, A18, c18, hcs, l12, g12, l15, g15, l18, g18⟩ := k39_open hK
  have E16 := Aside0.mk (show cs[16]? = some (.int .i64 x.f7) by rw [hcs]; rfl)
  have E15 := Aside0.mk (show cs[15]? = some (.slice A15 x.f6.length c15) by rw [hcs]; rfl)
  have E17 := Aside0.mk (show cs[17]? = some (.int .i64 x.f8) by rw [hcs]; rfl)
  have Q0 := Aside0.mk q0
  have t0 : 0 < n := by omega
  have G15 := Aside0.mk g15
  have L15 := Aside0.mk l15
  have S6 := hs6
  have d7 : decide (0 ≤ x.f7) = true := by simp; omega
  have d73 : decide (x.f7 ≤ 3) = true := by simp; omega
  have C6 := Aside0.mk (fun W hr => show Calls Tryz.prog 126 #[.slice A15 x.f6.length c15, .int .i64 k0] W fun e w' => e = .returned (.bool true) ∧ Below W.heap.size W w' from h6 ▸ keysOk_c A15 c15 x.f6 k0 W hs6 hr l15)
  clear h7 h73 h6
  clear hcs l12 g12 l15 g15 l18 g18 hK q0
  go_enter Tryz.func125, Tryz.ntmps125
  go_wp2_with (first
    | ((with_reducible refine gate_dst (N := 3) rfl ?_); refine box_ 98 (.tmp 0) rfl rfl #[] rfl ?_; intro g0 hg w0 hb hB; have B0 := Aside0.mk hB; clear hg hb hB)
    | ((with_reducible refine gate_dst (N := 4) rfl ?_); refine box_ 39 (.tmp 1) rfl rfl cs.toArray rfl ?_; intro g hg w1 hb hB; have X1 := Aside0.mk hb; have B1 := Aside0.mk (below_step B0.out hB); clear hb hB B0 hg))
  refine start_ (n := 25) (S := fun w' => w'.cell? ⟨gk, 0, none⟩ = some (.int .i64 k0) ∧ w'.cell? ⟨g, 16, none⟩ = some (.int .i64 x.f7) ∧ w'.cell? ⟨g, 15, none⟩ = some (.slice A15 x.f6.length c15) ∧ w'.cell? ⟨g, 17, none⟩ = some (.int .i64 x.f8) ∧ Below w.heap.size w w') (ds := []) (zm 25 0) (by kernel_rfl) rfl rfl ⟨(zhs (below_drew B1.out) Q0.out), (cell_of_range X1.out E16.out), (cell_of_range X1.out E15.out), (cell_of_range X1.out E17.out), (below_drew B1.out)⟩ (fun hHeld => ?_)
  refine zpk 0 8 25 1 ?_
  refine ztk 1 9 25 3 ?_
  refine zpk 2 10 25 7 ?_
  refine zpk 3 11 25 15 ?_
  refine zpk 4 12 25 31 ?_
  refine ztk 5 13 25 63 ?_
  refine zpk 6 14 25 127 ?_
  refine zpk 7 15 25 255 ?_
  refine zpk 8 16 25 511 ?_
  refine zpk 9 17 25 1023 ?_
  refine zpk 11 19 25 3071 ?_
  refine zpk 12 20 25 7167 ?_
  refine ztk 10 18 25 8191 ?_
  refine ztk 13 21 25 16383 ?_
  refine one_ (i := 14) (N := some 22) (zm 25 32767) rfl rfl (by kernel_rfl) (by decide) (fun K hK => ?_)
  refine goes_ Tryz.func126 (by kernel_rfl) rfl #[.slice A15 x.f6.length c15, .int .i64 k0] (by rfl) rfl rfl (by simp only [List.map_toArray, List.map_cons, List.map_nil]; rfl) ?_
  refine (C6.out _ (Kd.C_below G15.out hHeld.2.2.2.2)).mono ?_
  rintro e w' ⟨rfl, hb⟩
  refine ⟨_, rfl, ?_⟩
  refine hK.out _ _ ⟨(pw_cell_below hb hHeld.1), (pw_cell_below hb hHeld.2.1), (pw_cell_below hb hHeld.2.2.1), (pw_cell_below hb hHeld.2.2.2.1), (below_step hHeld.2.2.2.2 hb)⟩ (fun hHeld => ?_)
  clear hK K
  refine norm_ (a' := ?_) ?_ ?_
  rotate_left
  · show Act.put _ (some 22) _ = _
    simp only [Act.put, List.setIfInBounds_toArray, List.set_cons_zero, List.set_cons_succ, i64_w, i32_w]
    rfl
  refine zpk 15 23 25 65535 ?_
  refine zpk 16 24 25 131071 ?_
  refine zpk 17 25 25 262143 ?_
  refine zpk 19 27 25 786431 ?_
  refine zpk 20 28 25 1835007 ?_
  refine ztk 18 26 25 2097151 ?_
  refine ztk 21 29 25 4194303 ?_
  refine one_ (i := 22) (N := some 30) (zm 25 8388607) rfl rfl (by kernel_rfl) (by decide) (fun K hK => ?_)
  refine goes_ Tryz.func110 (by kernel_rfl) rfl #[.int .i64 x.f8, .int .i64 k0] (by rfl) rfl rfl (by simp only [List.map_toArray, List.map_cons, List.map_nil]; rfl) ?_
  refine (isPlace_c _ _ _).mono ?_
  rintro e w' ⟨rfl, hb⟩
  refine ⟨_, rfl, ?_⟩
  refine hK.out _ _ ⟨(pw_cell_below hb hHeld.1), (pw_cell_below hb hHeld.2.1), (pw_cell_below hb hHeld.2.2.1), (pw_cell_below hb hHeld.2.2.2.1), (below_step hHeld.2.2.2.2 hb)⟩ (fun hHeld => ?_)
  clear hK K
  refine norm_ (a' := ?_) ?_ ?_
  rotate_left
  · show Act.put _ (some 30) _ = _
    simp only [Act.put, List.setIfInBounds_toArray, List.set_cons_zero, List.set_cons_succ, i64_w, i32_w]
    rfl
  refine zpk 23 31 25 16777215 ?_
  refine zpk 24 7 25 33554431 ?_
  refine done_ (by kernel_rfl) ?_
  have B9 := Aside0.mk hHeld.2.2.2.2
  have q6 := hHeld.2.2.1
  clear hHeld
  go_wp2_with (go_at_call 37; refine (wideIf_c _ _ _).mono ?_; rintro e w9 ⟨rfl, hb⟩; have B10 := Aside0.mk (below_step B9.out hb); clear hb)
  go_ret
  exact ⟨rfl, B10.out⟩
set_option maxHeartbeats 8000000 in
set_option maxRecDepth 100000 in
theorem mapClosure_c (y : S33) (bk gk n c : Nat) (k0 : Int) (w : World) (hn : 1 ≤ n) (qb : w.cell? ⟨bk, 0, none⟩ = some (.slice (some ⟨gk, 0, none⟩) n c)) (q0 : w.cell? ⟨gk, 0, none⟩ = some (.int .i64 k0)) :
    Calls Tryz.prog 103 #[.agg (cellCells y).toArray, .pointer (some ⟨bk, 0, none⟩)] w fun e w' => e = .returned (.bool (!cellB' y k0)) ∧ Below w.heap.size w w' := by
  have t0 : 0 < n := by omega
  have QB := Aside0.mk qb
  have Q0 := Aside0.mk q0
  clear qb q0
  go_enter Tryz.func103, Tryz.ntmps103
  go_wp2_with ((with_reducible refine gate_dst (N := 2) rfl ?_); refine box_ 33 (.tmp 0) rfl rfl (cellCells y).toArray rfl ?_; intro g hg w1 hb hB; have X1 := Aside0.mk hb; have B1 := Aside0.mk hB; clear hg hb hB)
  refine start_ (n := 7) (S := fun w' => w'.heap[g]? = some (.cells (cellCells y).toArray 33 (0, 0)) ∧ w'.cell? ⟨bk, 0, none⟩ = some (.slice (some ⟨gk, 0, none⟩) n c) ∧ w'.cell? ⟨gk, 0, none⟩ = some (.int .i64 k0) ∧ Below w.heap.size w w') (ds := []) (zm 7 0) (by kernel_rfl) rfl rfl ⟨X1.out, (zhs (below_drew B1.out) QB.out), (zhs (below_drew B1.out) Q0.out), (below_drew B1.out)⟩ (fun hHeld => ?_)
  refine take_ (i := 0) (N := some 4) (v := _) (a' := ?_) (zm 7 1) rfl rfl (by kernel_rfl) (fun _ _ _ h => h) (yieldsIf_load_mid (by rfl) 33 (.tmp 2) rfl g 0 rfl (cellCells y) _ (fun W h => range_ h.1) Tryz.underlying33 rfl (by kernel_rfl)) hHeld ?_ ?_
  rotate_left
  · simp only [Act.put, List.setIfInBounds_toArray, List.set_cons_zero, List.set_cons_succ, i64_w, i32_w]
    rfl
  refine ztk 1 5 7 3 ?_
  refine zpk 2 6 7 7 ?_
  refine ztk 3 7 7 15 ?_
  refine one_ (i := 4) (N := some 8) (zm 7 31) rfl rfl (by kernel_rfl) (by decide) (fun K hK => ?_)
  refine goes_ Tryz.func95 (by kernel_rfl) rfl #[.agg (cellCells y).toArray, .int .i64 k0] (by rfl) rfl rfl (by simp only [List.map_toArray, List.map_cons, List.map_nil]; rfl) ?_
  refine (implCellOk_c _ _ _).mono ?_
  rintro e w' ⟨rfl, hb⟩
  refine ⟨_, rfl, ?_⟩
  refine hK.out _ _ ⟨((hb.block _ (blk_lt hHeld.1)).trans hHeld.1), (pw_cell_below hb hHeld.2.1), (pw_cell_below hb hHeld.2.2.1), (below_step hHeld.2.2.2 hb)⟩ (fun hHeld => ?_)
  clear hK K
  refine norm_ (a' := ?_) ?_ ?_
  rotate_left
  · show Act.put _ (some 8) _ = _
    simp only [Act.put, List.setIfInBounds_toArray, List.set_cons_zero, List.set_cons_succ, i64_w, i32_w]
    rfl
  refine zpk 5 9 7 63 ?_
  refine zpk 6 3 7 127 ?_
  refine done_ (by kernel_rfl) ?_
  have B9 := Aside0.mk hHeld.2.2.2
  clear hHeld
  go_wp2
  go_ret
  exact ⟨rfl, B9.out⟩
/-- the first cell that is not right, from i on -/
def badL (k0 : Int) : List S33 → Nat → Int
  | [], _ => -1
  | y :: ys, i => if cellB' y k0 = false then (i : Int) else badL k0 ys (i + 1)
theorem badL_pos (k0 : Int) (l : List S33) (i : Nat) : decide (badL k0 l i ≥ 0) = !l.all (fun x => cellB' x k0) := by
  induction l generalizing i with
  | nil => simp [badL]
  | cons y ys ih =>
    unfold badL
    by_cases h : cellB' y k0 = false
    · rw [if_pos h]; simp [h]
    · rw [if_neg h, ih]
      have : cellB' y k0 = true := by simpa using h
      simp [this]
theorem badL_drop (k0 : Int) (l : List S33) (i : Nat) (h : i < l.length) : badL k0 (l.drop i) i = if cellB' l[i] k0 = false then (i : Int) else badL k0 (l.drop (i + 1)) (i + 1) := by
  rw [List.drop_eq_getElem_cons h, badL]
theorem badL_end (k0 : Int) (l : List S33) (i : Nat) (h : l.length ≤ i) : badL k0 (l.drop i) i = -1 := by
  rw [List.drop_eq_nil_of_le h, badL]
theorem cellsB_mid {l : List S33} {n : Int} (h1 : 1 ≤ l.length) (h2 : l.length ≤ 6) : cellsB l n = l.all (fun x => cellB' x n) := by simp [cellsB, h1, h2]
theorem cellsB_no {l : List S33} {n : Int} (h : ¬ (1 ≤ l.length ∧ l.length ≤ 6)) : cellsB l n = false := by
  unfold cellsB
  by_cases h1 : 1 ≤ l.length
  · rw [decide_eq_false (show ¬ l.length ≤ 6 by omega), Bool.and_false]
  · rw [decide_eq_false h1, Bool.and_false, Bool.false_and]
theorem cell_K {w : World} {y : S33} {cs : List Value} (h : k33.K w y cs) : cs = cellCells y := k33_open h
set_option maxHeartbeats 8000000 in
set_option maxRecDepth 100000 in
theorem indexFunc_c (l : List S33) (A : Option Addr) (d bk gk n c : Nat) (k0 : Int) (w : World) (hl : l.length ≤ 1048576) (hr : Kd.C k33 w A l.length l) (hc : l.length ≤ d) (hn : 1 ≤ n) (qb : w.cell? ⟨bk, 0, none⟩ = some (.slice (some ⟨gk, 0, none⟩) n c)) (q0 : w.cell? ⟨gk, 0, none⟩ = some (.int .i64 k0)) :
    Calls Tryz.prog 104 #[.slice A l.length d, .func (.func 103) #[] #[.pointer (some ⟨bk, 0, none⟩)]] w fun e w' => e = .returned (.int .i64 (badL k0 l 0)) ∧ Below w.heap.size w w' := by
  have HC := Aside0.mk hr
  have QB := Aside0.mk qb
  have Q0 := Aside0.mk q0
  clear hr qb q0
  go_enter Tryz.func104, Tryz.ntmps104
  go_wp2
  go_loopw [8] (fun v8 wr => ∃ (i : Nat), v8 = .int .i64 i ∧ i ≤ l.length ∧ Aside0 (badL k0 l 0 = badL k0 (l.drop i) i) ∧ Aside0 (Below w.heap.size w wr)) (fun v8 _ => l.length - (intOf v8).toNat)
  case atStart => exact ⟨0, rfl, Nat.zero_le _, ⟨by rw [List.drop_zero]⟩, ⟨Below.refl _ _⟩⟩
  case round =>
    obtain ⟨i, rfl, hi, HA, HB⟩ := hrel
    by_cases hlt : i < l.length
    · obtain ⟨ad, c0, rfl, hcl, hK, hcell⟩ := elem_ (Kd.C_below HC.out HB.out) i hlt
      have ec := cell_K hK
      subst ec
      have HE := Aside0.mk hcell
      have CA := Aside0.mk (mapClosure_c l[i] bk gk n c k0 wr hn (zhs HB.out QB.out) (zhs HB.out Q0.out))
      have GD := Aside0.mk (HA.out.trans (badL_drop k0 l i hlt))
      obtain ⟨r, hr⟩ : ∃ r, r = cellB' l[i] k0 := ⟨_, rfl⟩
      obtain ⟨y, hy⟩ : ∃ y, y = l[i] := ⟨_, rfl⟩
      rw [← hy] at HE hr CA
      rw [← hy, ← hr] at GD
      rw [← hr] at CA
      clear hcl hK hcell HA hr hy
      go_wp2_with (first
        | ((with_reducible refine gate_dst (N := 15) rfl ?_); refine load_ 33 (.tmp 14) rfl rfl (ad.add (i * 4)) ?hx (cellCells y) _ Tryz.underlying33 ?hi HE.out ?_; (case hx => first | rfl | (go_simp; done) | (go_simp; rfl)); (case hi => kernel_rfl))
        | ((with_reducible refine gate_dst (N := 16) rfl ?_); refine goesLv (some 16) rfl rfl Tryz.func103 (by kernel_rfl) rfl #[.agg (cellCells y).toArray] #[.pointer (some ⟨bk, 0, none⟩)] rfl ?ht2 ?ha2 ?_; (case ht2 => first | rfl | (go_simp; done) | (go_simp; rfl)); (case ha2 => first | rfl | (go_simp; done) | (go_simp; rfl)); refine CA.out.mono ?_; rintro e w2 ⟨rfl, hB⟩; refine ⟨_, rfl, ?_⟩; have B2 := Aside0.mk (below_step HB.out hB); clear hB CA))
      · go_ret
        exact ⟨by rw [GD.out]; have h : (!r) = true := (by assumption); have h2 : r = false := (by simpa using h); rw [h2]; rfl, B2.out⟩
      · go_roundw
        case rel => exact ⟨i + 1, by go_num, by omega, ⟨by rw [GD.out]; have h : (!r) = false := (by assumption); have h2 : r = true := (by simpa using h); rw [h2]; rfl⟩, B2⟩
        case measure => simp [intOf]; omega
    · have GE := Aside0.mk (HA.out.trans (badL_end k0 l i (by omega)))
      go_wp2
      go_ret
      exact ⟨by rw [GE.out]; rfl, HB.out⟩
set_option maxHeartbeats 8000000 in
set_option maxRecDepth 100000 in
theorem containsFunc_c (l : List S33) (A : Option Addr) (d bk gk n c : Nat) (k0 : Int) (w : World) (hl : l.length ≤ 1048576) (hr : Kd.C k33 w A l.length l) (hc : l.length ≤ d) (hn : 1 ≤ n) (qb : w.cell? ⟨bk, 0, none⟩ = some (.slice (some ⟨gk, 0, none⟩) n c)) (q0 : w.cell? ⟨gk, 0, none⟩ = some (.int .i64 k0)) :
    Calls Tryz.prog 102 #[.slice A l.length d, .func (.func 103) #[] #[.pointer (some ⟨bk, 0, none⟩)]] w fun e w' => e = .returned (.bool (!l.all (fun x => cellB' x k0))) ∧ Below w.heap.size w w' := by
  have CA := Aside0.mk (indexFunc_c l A d bk gk n c k0 w hl hr hc hn qb q0)
  have BP := Aside0.mk (badL_pos k0 l 0)
  clear hr qb q0
  go_enter Tryz.func102, Tryz.ntmps102
  go_wp2_with (go_at_call 104; refine CA.out.mono ?_; rintro e w2 ⟨rfl, hB⟩; have B2 := Aside0.mk hB; clear hB CA)
  go_ret
  exact ⟨by rw [← BP.out]; rfl, B2.out⟩
set_option maxHeartbeats 8000000 in
set_option maxRecDepth 100000 in
theorem mapWide_c (x : S39) (cs : List Value) (w : World) (hK : k39.K w x cs) (gk n c : Nat) (k0 : Int) (hn : 1 ≤ n) (q0 : w.cell? ⟨gk, 0, none⟩ = some (.int .i64 k0)) (hs3 : x.f3.length ≤ 1048576) :
    Calls Tryz.prog 101 #[.agg #[], .agg cs.toArray, .slice (some ⟨gk, 0, none⟩) n c] w fun e w' => e = .returned (.int .i64 (ifW (cellsB x.f3 k0) (x.f3.length : Int))) ∧ Below w.heap.size w w' := by
  obtain ⟨A12, c12, A15, c15, A18, c18, hcs, l12, g12, l15, g15, l18, g18⟩ := k39_open hK
  have E12 := Aside0.mk (show cs.toArray[12]? = some (.slice A12 x.f3.length c12) by rw [hcs]; rfl)
  have Q0 := Aside0.mk q0
  have G12 := Aside0.mk g12
  have L12 := Aside0.mk l12
  have S3 := Aside0.mk hs3
  clear hcs l12 g12 l15 g15 l18 g18 hK q0
  obtain ⟨r, hr⟩ : ∃ r, r = x.f3.all (fun x => cellB' x k0) := ⟨_, rfl⟩
  have RR := Aside0.mk hr
  clear hr
  go_enter Tryz.func101, Tryz.ntmps101
  go_wp2_with (first
    | ((with_reducible refine gate_dst (N := 3) rfl ?_); refine box_ 94 (.tmp 0) rfl rfl #[] rfl ?_; intro g0 hg w0 hb hB; have B0 := Aside0.mk hB; clear hg hb hB)
    | ((with_reducible refine gate_dst (N := 4) rfl ?_); refine box_ 39 (.tmp 1) rfl rfl cs.toArray rfl ?_; intro g hg w1 hb hB; have X1 := Aside0.mk hb; have B1 := Aside0.mk (below_step B0.out hB); clear hb hB B0 hg)
    | ((with_reducible refine gate_dst (N := 5) rfl ?_); refine box1_ 27 (.tmp 2) rfl rfl (.slice (some ⟨gk, 0, none⟩) n c) rfl rfl ?_; intro bk hg w2 hb hB; have X2 := Aside0.mk ((hB.block _ (blk_lt X1.out)).trans X1.out); have q12 := (blk_cell X2.out 12).trans E12.out; have QB := Aside0.mk (show w2.cell? ⟨bk, 0, none⟩ = some (.slice (some ⟨gk, 0, none⟩) n c) by rw [blk_cell hb]; rfl); have B2 := Aside0.mk (below_step B1.out hB); clear hb hB hg B1 X1)
    | (go_at_call 102; refine (containsFunc_c x.f3 A12 c12 bk gk n c k0 _ S3.out (Kd.C_below G12.out B2.out) L12.out hn QB.out (zhs B2.out Q0.out)).mono ?_; rw [← RR.out]; rintro e w3 ⟨rfl, hB⟩; have B3 := Aside0.mk (below_step B2.out hB); have q12' := zhs hB q12; clear hB q12 B2 X2 QB)
    | (go_at_call 37; refine (wideIf_c _ _ _).mono ?_; rintro e w9 ⟨rfl, hb⟩; have B9 := Aside0.mk (below_step B3.out hb); clear hb))
  · go_ret
    exact ⟨by rw [cellsB_mid (by omega) (by omega), ← RR.out]; rfl, B9.out⟩
  · go_ret
    exact ⟨by rw [cellsB_no (by omega)]; rfl, B9.out⟩
  · go_ret
    exact ⟨by rw [cellsB_no (by omega)]; rfl, B9.out⟩
def tableW (N : Int) (l : List Int) : Int := if 0 ≤ N ∧ N < l.length then rd l N else -1
theorem ints_at {w : World} {A : Option Addr} {l : List Int} (h : Kd.C (Kd.int .i64) w A l.length l) {i : Nat} (hi : i < l.length) : ∃ ad, A = some ad ∧ w.cell? (ad.add i) = some (.int .i64 (rd l i)) := by
  obtain ⟨ad, c0, rfl, hcl, hK, hcell⟩ := elem_ h i hi
  refine ⟨ad, rfl, ?_⟩
  have hc0 : c0 = [.int .i64 l[i]] := hK
  have h2 := hcell 0 (.int .i64 l[i]) (by rw [hc0]; rfl)
  rw [Addr_add_add] at h2
  rw [show rd l (i : Int) = l[i] by rw [rd_nat, List.getD_eq_getElem?_getD, List.getElem?_eq_getElem hi]; rfl]
  rw [show (Kd.int IntKind.i64).sz = 1 from rfl, Nat.mul_one, Nat.add_zero] at h2
  exact h2
set_option maxHeartbeats 8000000 in
set_option maxRecDepth 100000 in
theorem tableAWide_c (x : S39) (cs : List Value) (w : World) (hK : k39.K w x cs) (A : Option Addr) (l : List Int) (c : Nat) (hr : Kd.C (Kd.int .i64) w A l.length l) (hl : l.length ≤ 1048576) (hn : 0 < l.length) (h1 : x.f1 < 0) :
    Calls Tryz.prog 88 #[.agg #[], .agg cs.toArray, .slice A l.length c] w fun e w' => e = .returned (.int .i64 (tableW x.f1 l)) ∧ Below w.heap.size w w' := by
  obtain ⟨A12, c12, A15, c15, A18, c18, hcs, l12, g12, l15, g15, l18, g18⟩ := k39_open hK
  have E1 := Aside0.mk (show cs[1]? = some (.int .i64 x.f1) by rw [hcs]; rfl)
  obtain ⟨m, hm⟩ : ∃ m : Nat, l.length = m + 1 := ⟨l.length - 1, by omega⟩
  have hw : wrap64 ((l.length : Int) - 1) = (m : Int) := by unfold wrap64; omega
  obtain ⟨ad, rfl, q⟩ := ints_at hr hn
  have TW := Aside0.mk (show tableW x.f1 l = -1 by unfold tableW; rw [if_neg (by omega)])
  have d1 : decide (0 ≤ x.f1) = false := by simp; omega
  have c1 : ((m : Int) < x.f1) = False := by simp; omega
  have c2 : (0 < x.f1) = False := by simp; omega
  have Q := Aside0.mk q
  clear hcs l12 g12 l15 g15 l18 g18 hK hr q hm h1
  go_enter Tryz.func88, Tryz.ntmps88
  go_wp2_with (first
    | ((with_reducible refine gate_dst (N := 3) rfl ?_); refine box_ 92 (.tmp 0) rfl rfl #[] rfl ?_; intro g0 hg w0 hb hB; have B0 := Aside0.mk hB; clear hg hb hB)
    | ((with_reducible refine gate_dst (N := 4) rfl ?_); refine box_ 39 (.tmp 1) rfl rfl cs.toArray rfl ?_; intro g hg w1 hb hB; have X1 := Aside0.mk hb; have B1 := Aside0.mk (below_step B0.out hB); clear hb hB B0 hg))
  refine start_ (n := 22) (S := fun w' => w'.cell? ad = some (.int .i64 (rd l (0 : Nat))) ∧ w'.cell? ⟨g, 1, none⟩ = some (.int .i64 x.f1) ∧ Below w.heap.size w w') (ds := []) (zm 22 0) (by kernel_rfl) rfl rfl ⟨(zhs (below_drew B1.out) Q.out), (cell_of_range X1.out E1.out), (below_drew B1.out)⟩ (fun hHeld => ?_)
  refine zpk 0 7 22 1 ?_
  refine zpk 10 17 22 1025 ?_
  refine zpk 11 18 22 3073 ?_
  refine zpk 13 20 22 11265 ?_
  refine zpk 14 21 22 27649 ?_
  refine zpk 15 22 22 60417 ?_
  refine ztk 1 8 22 60419 ?_
  refine zpk 2 9 22 60423 ?_
  refine zpk 3 10 22 60431 ?_
  refine zqk 4 11 22 60447 ?_
  refine zqk 5 12 22 60479 ?_
  refine zqk 6 13 22 60543 ?_
  refine zqk 7 14 22 60671 ?_
  refine zqk 8 15 22 60927 ?_
  refine zpk 9 16 22 61439 ?_
  refine ztk 12 19 22 65535 ?_
  refine zpk 16 23 22 131071 ?_
  refine zpk 17 24 22 262143 ?_
  refine zpk 18 25 22 524287 ?_
  refine ztk 19 26 22 1048575 ?_
  refine one_ (i := 20) (N := some 27) (zm 22 2097151) rfl rfl (by kernel_rfl) (by decide) (fun K hK => ?_)
  refine goes_ Tryz.func37 (by kernel_rfl) rfl #[.bool false, .int .i64 (rd l (0 : Nat))] (by rfl) rfl rfl (by simp only [List.map_toArray, List.map_cons, List.map_nil]; rfl) ?_
  refine (wideIf_c _ _ _).mono ?_
  rintro e w' ⟨rfl, hb⟩
  refine ⟨_, rfl, ?_⟩
  refine hK.out _ _ ⟨(pw_cell_below hb hHeld.1), (pw_cell_below hb hHeld.2.1), (below_step hHeld.2.2 hb)⟩ (fun hHeld => ?_)
  clear hK K
  refine norm_ (a' := ?_) ?_ ?_
  rotate_left
  · show Act.put _ (some 27) _ = _
    simp only [Act.put, List.setIfInBounds_toArray, List.set_cons_zero, List.set_cons_succ, i64_w, i32_w]
    rfl
  refine zpk 21 6 22 4194303 ?_
  refine done_ (by kernel_rfl) ?_
  have B9 := Aside0.mk hHeld.2.2
  clear hHeld
  go_wp2
  go_ret
  exact ⟨by rw [TW.out]; rfl, B9.out⟩
set_option maxHeartbeats 8000000 in
set_option maxRecDepth 100000 in
theorem tableBWide_c (x : S39) (cs : List Value) (w : World) (hK : k39.K w x cs) (A : Option Addr) (l : List Int) (c : Nat) (hr : Kd.C (Kd.int .i64) w A l.length l) (hl : l.length ≤ 1048576) (hn : 0 < l.length) (h1 : x.f1 = 0) :
    Calls Tryz.prog 88 #[.agg #[], .agg cs.toArray, .slice A l.length c] w fun e w' => e = .returned (.int .i64 (tableW x.f1 l)) ∧ Below w.heap.size w w' := by
  obtain ⟨A12, c12, A15, c15, A18, c18, hcs, l12, g12, l15, g15, l18, g18⟩ := k39_open hK
  have E1 := Aside0.mk (show cs[1]? = some (.int .i64 x.f1) by rw [hcs]; rfl)
  obtain ⟨m, hm⟩ : ∃ m : Nat, l.length = m + 1 := ⟨l.length - 1, by omega⟩
  have hw : wrap64 ((l.length : Int) - 1) = (m : Int) := by unfold wrap64; omega
  obtain ⟨ad, rfl, q⟩ := ints_at hr hn
  have TW := Aside0.mk (show tableW 0 l = rd l 0 by unfold tableW; rw [if_pos (by omega)])
  rw [h1] at E1
  have d2 : decide ((0 : Int) < (l.length : Int)) = true := by simp; omega
  have c1 : ((m : Int) < 0) = False := by simp
  have Q := Aside0.mk q
  clear hcs l12 g12 l15 g15 l18 g18 hK hr q hm
  go_enter Tryz.func88, Tryz.ntmps88
  go_wp2_with (first
    | ((with_reducible refine gate_dst (N := 3) rfl ?_); refine box_ 92 (.tmp 0) rfl rfl #[] rfl ?_; intro g0 hg w0 hb hB; have B0 := Aside0.mk hB; clear hg hb hB)
    | ((with_reducible refine gate_dst (N := 4) rfl ?_); refine box_ 39 (.tmp 1) rfl rfl cs.toArray rfl ?_; intro g hg w1 hb hB; have X1 := Aside0.mk hb; have B1 := Aside0.mk (below_step B0.out hB); clear hb hB B0 hg))
  refine start_ (n := 22) (S := fun w' => w'.cell? ad = some (.int .i64 (rd l (0 : Nat))) ∧ w'.cell? ⟨g, 1, none⟩ = some (.int .i64 0) ∧ Below w.heap.size w w') (ds := []) (zm 22 0) (by kernel_rfl) rfl rfl ⟨(zhs (below_drew B1.out) Q.out), (cell_of_range X1.out E1.out), (below_drew B1.out)⟩ (fun hHeld => ?_)
  refine zpk 0 7 22 1 ?_
  refine zpk 10 17 22 1025 ?_
  refine zpk 11 18 22 3073 ?_
  refine zpk 13 20 22 11265 ?_
  refine zpk 14 21 22 27649 ?_
  refine zpk 15 22 22 60417 ?_
  refine ztk 1 8 22 60419 ?_
  refine zpk 2 9 22 60423 ?_
  refine zpk 3 10 22 60431 ?_
  refine zpk 4 11 22 60447 ?_
  refine zpk 6 13 22 60511 ?_
  refine zpk 7 14 22 60639 ?_
  refine ztk 5 12 22 60671 ?_
  refine zpk 8 15 22 60927 ?_
  refine zpk 9 16 22 61439 ?_
  refine ztk 12 19 22 65535 ?_
  refine zpk 16 23 22 131071 ?_
  refine zpk 17 24 22 262143 ?_
  refine zpk 18 25 22 524287 ?_
  refine ztk 19 26 22 1048575 ?_
  refine one_ (i := 20) (N := some 27) (zm 22 2097151) rfl rfl (by kernel_rfl) (by decide) (fun K hK => ?_)
  refine goes_ Tryz.func37 (by kernel_rfl) rfl #[.bool true, .int .i64 (rd l (0 : Nat))] (by rfl) rfl rfl (by simp only [List.map_toArray, List.map_cons, List.map_nil]; rfl) ?_
  refine (wideIf_c _ _ _).mono ?_
  rintro e w' ⟨rfl, hb⟩
  refine ⟨_, rfl, ?_⟩
  refine hK.out _ _ ⟨(pw_cell_below hb hHeld.1), (pw_cell_below hb hHeld.2.1), (below_step hHeld.2.2 hb)⟩ (fun hHeld => ?_)
  clear hK K
  refine norm_ (a' := ?_) ?_ ?_
  rotate_left
  · show Act.put _ (some 27) _ = _
    simp only [Act.put, List.setIfInBounds_toArray, List.set_cons_zero, List.set_cons_succ, i64_w, i32_w]
    rfl
  refine zpk 21 6 22 4194303 ?_
  refine done_ (by kernel_rfl) ?_
  have B9 := Aside0.mk hHeld.2.2
  clear hHeld
  go_wp2
  go_ret
  exact ⟨by rw [h1, TW.out]; rfl, B9.out⟩
set_option maxHeartbeats 8000000 in
set_option maxRecDepth 100000 in
theorem tableCWide_c (x : S39) (cs : List Value) (w : World) (hK : k39.K w x cs) (A : Option Addr) (l : List Int) (c : Nat) (hr : Kd.C (Kd.int .i64) w A l.length l) (hl : l.length ≤ 1048576) (hn : 0 < l.length) (h1 : 0 < x.f1) (h2 : x.f1 < l.length) :
    Calls Tryz.prog 88 #[.agg #[], .agg cs.toArray, .slice A l.length c] w fun e w' => e = .returned (.int .i64 (tableW x.f1 l)) ∧ Below w.heap.size w w' := by
  obtain ⟨A12, c12, A15, c15, A18, c18, hcs, l12, g12, l15, g15, l18, g18⟩ := k39_open hK
  have E1 := Aside0.mk (show cs[1]? = some (.int .i64 x.f1) by rw [hcs]; rfl)
  obtain ⟨m, hm⟩ : ∃ m : Nat, l.length = m + 1 := ⟨l.length - 1, by omega⟩
  have hw : wrap64 ((l.length : Int) - 1) = (m : Int) := by unfold wrap64; omega
  obtain ⟨i, hi⟩ : ∃ i : Nat, x.f1 = (i : Int) := ⟨x.f1.toNat, by omega⟩
  obtain ⟨ad, rfl, q⟩ := ints_at hr (show i < l.length by omega)
  have TW := Aside0.mk (show tableW x.f1 l = rd l (i : Int) by unfold tableW; rw [if_pos (by omega), hi])
  rw [hi] at E1
  have d2 : decide (((i : Nat) : Int) < (l.length : Int)) = true := by simp; omega
  have d3 : (i < l.length) = True := by simp; omega
  have c1 : (m < i) = False := by simp; omega
  have c2 : (0 < i) = True := by simp; omega
  have c3 : ((m : Int) < (i : Int)) = False := by simp; omega
  have c4 : (0 < (i : Int)) = True := by simp; omega
  have Q := Aside0.mk q
  clear hcs l12 g12 l15 g15 l18 g18 hK hr q hm h1 h2
  go_enter Tryz.func88, Tryz.ntmps88
  go_wp2_with (first
    | ((with_reducible refine gate_dst (N := 3) rfl ?_); refine box_ 92 (.tmp 0) rfl rfl #[] rfl ?_; intro g0 hg w0 hb hB; have B0 := Aside0.mk hB; clear hg hb hB)
    | ((with_reducible refine gate_dst (N := 4) rfl ?_); refine box_ 39 (.tmp 1) rfl rfl cs.toArray rfl ?_; intro g hg w1 hb hB; have X1 := Aside0.mk hb; have B1 := Aside0.mk (below_step B0.out hB); clear hb hB B0 hg))
  refine start_ (n := 22) (S := fun w' => w'.cell? (ad.add i) = some (.int .i64 (rd l (i : Nat))) ∧ w'.cell? ⟨g, 1, none⟩ = some (.int .i64 (i : Int)) ∧ Below w.heap.size w w') (ds := []) (zm 22 0) (by kernel_rfl) rfl rfl ⟨(zhs (below_drew B1.out) Q.out), (cell_of_range X1.out E1.out), (below_drew B1.out)⟩ (fun hHeld => ?_)
  refine zpk 0 7 22 1 ?_
  refine zpk 10 17 22 1025 ?_
  refine zpk 11 18 22 3073 ?_
  refine zpk 13 20 22 11265 ?_
  refine zpk 14 21 22 27649 ?_
  refine zpk 15 22 22 60417 ?_
  refine ztk 1 8 22 60419 ?_
  refine zpk 2 9 22 60423 ?_
  refine zpk 3 10 22 60431 ?_
  refine zpk 4 11 22 60447 ?_
  refine zpk 6 13 22 60511 ?_
  refine zpk 7 14 22 60639 ?_
  refine ztk 5 12 22 60671 ?_
  refine zpk 8 15 22 60927 ?_
  refine zpk 9 16 22 61439 ?_
  refine ztk 12 19 22 65535 ?_
  refine zpk 16 23 22 131071 ?_
  refine zpk 17 24 22 262143 ?_
  refine zpk 18 25 22 524287 ?_
  refine ztk 19 26 22 1048575 ?_
  refine one_ (i := 20) (N := some 27) (zm 22 2097151) rfl rfl (by kernel_rfl) (by decide) (fun K hK => ?_)
  refine goes_ Tryz.func37 (by kernel_rfl) rfl #[.bool true, .int .i64 (rd l (i : Nat))] (by rfl) rfl rfl (by simp only [List.map_toArray, List.map_cons, List.map_nil]; rfl) ?_
  refine (wideIf_c _ _ _).mono ?_
  rintro e w' ⟨rfl, hb⟩
  refine ⟨_, rfl, ?_⟩
  refine hK.out _ _ ⟨(pw_cell_below hb hHeld.1), (pw_cell_below hb hHeld.2.1), (below_step hHeld.2.2 hb)⟩ (fun hHeld => ?_)
  clear hK K
  refine norm_ (a' := ?_) ?_ ?_
  rotate_left
  · show Act.put _ (some 27) _ = _
    simp only [Act.put, List.setIfInBounds_toArray, List.set_cons_zero, List.set_cons_succ, i64_w, i32_w]
    rfl
  refine zpk 21 6 22 4194303 ?_
  refine done_ (by kernel_rfl) ?_
  have B9 := Aside0.mk hHeld.2.2
  clear hHeld
  go_wp2
  go_ret
  exact ⟨by rw [TW.out]; rfl, B9.out⟩
set_option maxHeartbeats 8000000 in
set_option maxRecDepth 100000 in
theorem tableDWide_c (x : S39) (cs : List Value) (w : World) (hK : k39.K w x cs) (A : Option Addr) (l : List Int) (c : Nat) (hr : Kd.C (Kd.int .i64) w A l.length l) (hl : l.length ≤ 1048576) (hn : 0 < l.length) (h1 : l.length = 1) (h2 : 1 ≤ x.f1) :
    Calls Tryz.prog 88 #[.agg #[], .agg cs.toArray, .slice A l.length c] w fun e w' => e = .returned (.int .i64 (tableW x.f1 l)) ∧ Below w.heap.size w w' := by
  obtain ⟨A12, c12, A15, c15, A18, c18, hcs, l12, g12, l15, g15, l18, g18⟩ := k39_open hK
  have E1 := Aside0.mk (show cs[1]? = some (.int .i64 x.f1) by rw [hcs]; rfl)
  obtain ⟨m, hm⟩ : ∃ m : Nat, l.length = m + 1 := ⟨l.length - 1, by omega⟩
  have hw : wrap64 ((l.length : Int) - 1) = 0 := by unfold wrap64; omega
  obtain ⟨ad, rfl, q⟩ := ints_at hr hn
  have TW := Aside0.mk (show tableW x.f1 l = -1 by unfold tableW; rw [if_neg (by omega)])
  have d1 : decide (0 ≤ x.f1) = true := by simp; omega
  have d2 : decide (x.f1 < (l.length : Int)) = false := by simp; omega
  have c1 : (0 < x.f1) = True := by simp; omega
  have Q := Aside0.mk q
  clear hcs l12 g12 l15 g15 l18 g18 hK hr q hm h1 h2
  go_enter Tryz.func88, Tryz.ntmps88
  go_wp2_with (first
    | ((with_reducible refine gate_dst (N := 3) rfl ?_); refine box_ 92 (.tmp 0) rfl rfl #[] rfl ?_; intro g0 hg w0 hb hB; have B0 := Aside0.mk hB; clear hg hb hB)
    | ((with_reducible refine gate_dst (N := 4) rfl ?_); refine box_ 39 (.tmp 1) rfl rfl cs.toArray rfl ?_; intro g hg w1 hb hB; have X1 := Aside0.mk hb; have B1 := Aside0.mk (below_step B0.out hB); clear hb hB B0 hg))
  refine start_ (n := 22) (S := fun w' => w'.cell? ad = some (.int .i64 (rd l (0 : Nat))) ∧ w'.cell? ⟨g, 1, none⟩ = some (.int .i64 x.f1) ∧ Below w.heap.size w w') (ds := []) (zm 22 0) (by kernel_rfl) rfl rfl ⟨(zhs (below_drew B1.out) Q.out), (cell_of_range X1.out E1.out), (below_drew B1.out)⟩ (fun hHeld => ?_)
  refine zpk 0 7 22 1 ?_
  refine zpk 10 17 22 1025 ?_
  refine zpk 11 18 22 3073 ?_
  refine zpk 13 20 22 11265 ?_
  refine zpk 14 21 22 27649 ?_
  refine zpk 15 22 22 60417 ?_
  refine ztk 1 8 22 60419 ?_
  refine zpk 2 9 22 60423 ?_
  refine zpk 3 10 22 60431 ?_
  refine zpk 4 11 22 60447 ?_
  refine zpk 6 13 22 60511 ?_
  refine zpk 7 14 22 60639 ?_
  refine ztk 5 12 22 60671 ?_
  refine zpk 8 15 22 60927 ?_
  refine zpk 9 16 22 61439 ?_
  refine ztk 12 19 22 65535 ?_
  refine zpk 16 23 22 131071 ?_
  refine zpk 17 24 22 262143 ?_
  refine zpk 18 25 22 524287 ?_
  refine ztk 19 26 22 1048575 ?_
  refine one_ (i := 20) (N := some 27) (zm 22 2097151) rfl rfl (by kernel_rfl) (by decide) (fun K hK => ?_)
  refine goes_ Tryz.func37 (by kernel_rfl) rfl #[.bool false, .int .i64 (rd l (0 : Nat))] (by rfl) rfl rfl (by simp only [List.map_toArray, List.map_cons, List.map_nil]; rfl) ?_
  refine (wideIf_c _ _ _).mono ?_
  rintro e w' ⟨rfl, hb⟩
  refine ⟨_, rfl, ?_⟩
  refine hK.out _ _ ⟨(pw_cell_below hb hHeld.1), (pw_cell_below hb hHeld.2.1), (below_step hHeld.2.2 hb)⟩ (fun hHeld => ?_)
  clear hK K
  refine norm_ (a' := ?_) ?_ ?_
  rotate_left
  · show Act.put _ (some 27) _ = _
    simp only [Act.put, List.setIfInBounds_toArray, List.set_cons_zero, List.set_cons_succ, i64_w, i32_w]
    rfl
  refine zpk 21 6 22 4194303 ?_
  refine done_ (by kernel_rfl) ?_
  have B9 := Aside0.mk hHeld.2.2
  clear hHeld
  go_wp2
  go_ret
  exact ⟨by rw [TW.out]; rfl, B9.out⟩
set_option maxHeartbeats 8000000 in
set_option maxRecDepth 100000 in
theorem tableEWide_c (x : S39) (cs : List Value) (w : World) (hK : k39.K w x cs) (A : Option Addr) (l : List Int) (c : Nat) (hr : Kd.C (Kd.int .i64) w A l.length l) (hl : l.length ≤ 1048576) (hn : 0 < l.length) (h1 : 2 ≤ l.length) (h2 : (l.length : Int) ≤ x.f1) :
    Calls Tryz.prog 88 #[.agg #[], .agg cs.toArray, .slice A l.length c] w fun e w' => e = .returned (.int .i64 (tableW x.f1 l)) ∧ Below w.heap.size w w' := by
  obtain ⟨A12, c12, A15, c15, A18, c18, hcs, l12, g12, l15, g15, l18, g18⟩ := k39_open hK
  have E1 := Aside0.mk (show cs[1]? = some (.int .i64 x.f1) by rw [hcs]; rfl)
  obtain ⟨m, hm⟩ : ∃ m : Nat, l.length = m + 1 := ⟨l.length - 1, by omega⟩
  have hw : wrap64 ((l.length : Int) - 1) = (m : Int) := by unfold wrap64; omega
  obtain ⟨ad, rfl, q⟩ := ints_at hr (show m < l.length by omega)
  have TW := Aside0.mk (show tableW x.f1 l = -1 by unfold tableW; rw [if_neg (by omega)])
  have d1 : decide (0 ≤ x.f1) = true := by simp; omega
  have d2 : decide (x.f1 < (l.length : Int)) = false := by simp; omega
  have c1 : ((m : Int) < x.f1) = True := by simp; omega
  have c2 : (0 < m) = True := by simp; omega
  have c3 : (0 < (m : Int)) = True := by simp; omega
  have c4 : (m < l.length) = True := by simp; omega
  have Q := Aside0.mk q
  clear hcs l12 g12 l15 g15 l18 g18 hK hr q hm h1 h2
  go_enter Tryz.func88, Tryz.ntmps88
  go_wp2_with (first
    | ((with_reducible refine gate_dst (N := 3) rfl ?_); refine box_ 92 (.tmp 0) rfl rfl #[] rfl ?_; intro g0 hg w0 hb hB; have B0 := Aside0.mk hB; clear hg hb hB)
    | ((with_reducible refine gate_dst (N := 4) rfl ?_); refine box_ 39 (.tmp 1) rfl rfl cs.toArray rfl ?_; intro g hg w1 hb hB; have X1 := Aside0.mk hb; have B1 := Aside0.mk (below_step B0.out hB); clear hb hB B0 hg))
  refine start_ (n := 22) (S := fun w' => w'.cell? (ad.add m) = some (.int .i64 (rd l (m : Nat))) ∧ w'.cell? ⟨g, 1, none⟩ = some (.int .i64 x.f1) ∧ Below w.heap.size w w') (ds := []) (zm 22 0) (by kernel_rfl) rfl rfl ⟨(zhs (below_drew B1.out) Q.out), (cell_of_range X1.out E1.out), (below_drew B1.out)⟩ (fun hHeld => ?_)
  refine zpk 0 7 22 1 ?_
  refine zpk 10 17 22 1025 ?_
  refine zpk 11 18 22 3073 ?_
  refine zpk 13 20 22 11265 ?_
  refine zpk 14 21 22 27649 ?_
  refine zpk 15 22 22 60417 ?_
  refine ztk 1 8 22 60419 ?_
  refine zpk 2 9 22 60423 ?_
  refine zpk 3 10 22 60431 ?_
  refine zpk 4 11 22 60447 ?_
  refine zpk 6 13 22 60511 ?_
  refine zpk 7 14 22 60639 ?_
  refine ztk 5 12 22 60671 ?_
  refine zpk 8 15 22 60927 ?_
  refine zpk 9 16 22 61439 ?_
  refine ztk 12 19 22 65535 ?_
  refine zpk 16 23 22 131071 ?_
  refine zpk 17 24 22 262143 ?_
  refine zpk 18 25 22 524287 ?_
  refine ztk 19 26 22 1048575 ?_
  refine one_ (i := 20) (N := some 27) (zm 22 2097151) rfl rfl (by kernel_rfl) (by decide) (fun K hK => ?_)
  refine goes_ Tryz.func37 (by kernel_rfl) rfl #[.bool false, .int .i64 (rd l (m : Nat))] (by rfl) rfl rfl (by simp only [List.map_toArray, List.map_cons, List.map_nil]; rfl) ?_
  refine (wideIf_c _ _ _).mono ?_
  rintro e w' ⟨rfl, hb⟩
  refine ⟨_, rfl, ?_⟩
  refine hK.out _ _ ⟨(pw_cell_below hb hHeld.1), (pw_cell_below hb hHeld.2.1), (below_step hHeld.2.2 hb)⟩ (fun hHeld => ?_)
  clear hK K
  refine norm_ (a' := ?_) ?_ ?_
  rotate_left
  · show Act.put _ (some 27) _ = _
    simp only [Act.put, List.setIfInBounds_toArray, List.set_cons_zero, List.set_cons_succ, i64_w, i32_w]
    rfl
  refine zpk 21 6 22 4194303 ?_
  refine done_ (by kernel_rfl) ?_
  have B9 := Aside0.mk hHeld.2.2
  clear hHeld
  go_wp2
  go_ret
  exact ⟨by rw [TW.out]; rfl, B9.out⟩
end Pl

end Go.Proofs.YtlpgnkndjmfcjaaGreat.PFnPlanUses
