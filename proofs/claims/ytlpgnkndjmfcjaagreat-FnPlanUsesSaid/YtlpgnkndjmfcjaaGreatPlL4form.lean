/- The given specification's l4Form, a kind at a time. -/
import Derived.Test.YtlpgnkndjmfcjaaGreatPlL4join
namespace Go.Proofs.YtlpgnkndjmfcjaaGreat.PFnPlanUses
open Go.RowKit Go.Proofs.YtlpgnkndjmfcjaaGreatW.PrintWords Go.Proofs.YtlpgnkndjmfcjaaGreatW.PrintLast Go.Proofs.YtlpgnkndjmfcjaaGreatW.PrintMore
attribute [local go_sem] max2_int min2_int max_two min_two max_three min_three max_four min_four   -- for this text's walks alone
set_option linter.unusedVariables false
set_option linter.unusedSimpArgs false
namespace Pl
def FoP (N : Nat) : Prop := ∀ (x : S39) (cs : List Value) (d : Nat) (w : World), sz39 x ≤ N → k39.K w x cs → Small39 x → d ≤ 1000 →
  Calls Tryz.prog 38 #[.agg cs.toArray, .int .i64 d] w fun e w' => e = .returned (.bool (sForm x d)) ∧ Below w.heap.size w w'

set_option maxHeartbeats 16000000 in
set_option maxRecDepth 100000 in
theorem l4Form_a (x : S39) (cs : List Value) (d : Nat) (w : World) (hK : k39.K w x cs) (hsm : Small39 x) (hd : d ≤ 1000) :
    Calls Tryz.prog 38 #[.agg cs.toArray, .int .i64 (((0 : Nat) : Int))] w fun e w' => e = .returned (.bool (sForm x (0))) ∧ Below w.heap.size w w' := by
  have LC := Aside0.mk (show cs.length = 19 from k39.K_len hK)
  obtain ⟨A12, c12, A15, c15, A18, c18, hcs, l12, g12, l15, g15, l18, g18⟩ := k39_open hK
  have E0 := Aside0.mk (show cs[0]? = some (.int .i64 x.f0) by rw [hcs]; rfl)
  have E18 := Aside0.mk (show cs[18]? = some (.slice A18 x.f9.length c18) by rw [hcs]; rfl)
  have HK := Aside0.mk hK
  have VV := Aside0.mk (sForm_no (x := x) (d := 0) (.inl rfl))
  clear hcs l12 g12 l15 g15 l18 g18 hK hsm
  go_enter Tryz.func38, Tryz.ntmps38
  go_wp2_with ((with_reducible refine gate_dst (N := 2) rfl ?_); refine box_ 39 (.tmp 0) rfl rfl cs.toArray rfl ?_; intro gb hg w1 hb hB; have X1 := Aside0.mk hb; have B1 := Aside0.mk hB; clear hb hB hg)
  refine start_ (n := 16) (S := fun w' => w'.heap[gb]? = some (.cells cs.toArray 39 (0, 0)) ∧ w'.cell? ⟨gb, 0, none⟩ = some (.int .i64 x.f0) ∧ w'.cell? ⟨gb, 18, none⟩ = some (.slice A18 x.f9.length c18) ∧ Below w.heap.size w w') (ds := []) (zm 16 0) (by kernel_rfl) rfl rfl ⟨X1.out, (cell_of_range X1.out E0.out), (cell_of_range X1.out E18.out), (below_drew B1.out)⟩ (fun hHeld => ?_)
  refine zpk 0 7 16 1 ?_
  refine zpk 1 8 16 3 ?_
  refine zpk 2 9 16 7 ?_
  refine zqk 3 10 16 15 ?_
  refine zqk 4 11 16 31 ?_
  refine zqk 5 12 16 63 ?_
  refine zqk 6 13 16 127 ?_
  refine zqk 7 14 16 255 ?_
  refine zqk 8 15 16 511 ?_
  refine zqk 9 16 16 1023 ?_
  refine zpk 10 17 16 2047 ?_
  refine zpk 11 18 16 4095 ?_
  refine zqk 12 19 16 8191 ?_
  refine zqk 13 20 16 16383 ?_
  refine zqk 14 21 16 32767 ?_
  refine zpk 15 22 16 65535 ?_
  refine done_ (by kernel_rfl) ?_
  have X2 := Aside0.mk hHeld.1
  have B2 := Aside0.mk hHeld.2.2.2
  clear hHeld X1 B1
  go_wp2
  go_ret
  exact ⟨by rw [VV.out]; rfl, B2.out⟩
set_option maxHeartbeats 16000000 in
set_option maxRecDepth 100000 in
theorem l4Form_b (x : S39) (cs : List Value) (d : Nat) (w : World) (hK : k39.K w x cs) (hsm : Small39 x) (hd : d ≤ 1000) (hk : kidsN x.f0 ≠ x.f9.length) :
    Calls Tryz.prog 38 #[.agg cs.toArray, .int .i64 (((d + 1 : Nat) : Int))] w fun e w' => e = .returned (.bool (sForm x (d + 1))) ∧ Below w.heap.size w w' := by
  have LC := Aside0.mk (show cs.length = 19 from k39.K_len hK)
  obtain ⟨A12, c12, A15, c15, A18, c18, hcs, l12, g12, l15, g15, l18, g18⟩ := k39_open hK
  have E0 := Aside0.mk (show cs[0]? = some (.int .i64 x.f0) by rw [hcs]; rfl)
  have E18 := Aside0.mk (show cs[18]? = some (.slice A18 x.f9.length c18) by rw [hcs]; rfl)
  have HK := Aside0.mk hK
  have VV := Aside0.mk (sForm_no (x := x) (d := d + 1) (.inr (.inl hk)))
  have d1 : decide (((d + 1 : Nat) : Int) < 1) = false := decide_eq_false (by omega)
  obtain ⟨q, hq⟩ : ∃ q, q = kidsN x.f0 := ⟨_, rfl⟩
  have C5 := Aside0.mk (fun W => l4Kids_c x.f0 W)
  rw [← hq] at C5 hk
  have b1 : (q != (x.f9.length : Int)) = true := by simpa using hk
  clear hcs l12 g12 l15 g15 l18 g18 hK hsm hq hk
  go_enter Tryz.func38, Tryz.ntmps38
  go_wp2_with ((with_reducible refine gate_dst (N := 2) rfl ?_); refine box_ 39 (.tmp 0) rfl rfl cs.toArray rfl ?_; intro gb hg w1 hb hB; have X1 := Aside0.mk hb; have B1 := Aside0.mk hB; clear hb hB hg)
  refine start_ (n := 16) (S := fun w' => w'.heap[gb]? = some (.cells cs.toArray 39 (0, 0)) ∧ w'.cell? ⟨gb, 0, none⟩ = some (.int .i64 x.f0) ∧ w'.cell? ⟨gb, 18, none⟩ = some (.slice A18 x.f9.length c18) ∧ Below w.heap.size w w') (ds := []) (zm 16 0) (by kernel_rfl) rfl rfl ⟨X1.out, (cell_of_range X1.out E0.out), (cell_of_range X1.out E18.out), (below_drew B1.out)⟩ (fun hHeld => ?_)
  refine zpk 0 7 16 1 ?_
  refine zpk 1 8 16 3 ?_
  refine zpk 2 9 16 7 ?_
  refine zpk 3 10 16 15 ?_
  refine zpk 6 13 16 79 ?_
  refine ztk 4 11 16 95 ?_
  refine ztk 7 14 16 223 ?_
  refine zpk 8 15 16 479 ?_
  refine one_ (i := 5) (N := some 12) (zm 16 511) rfl rfl (by kernel_rfl) (by decide) (fun K hK => ?_)
  refine goes_ Tryz.func49 (by kernel_rfl) rfl #[.int .i64 x.f0] (by rfl) rfl rfl (by simp only [List.map_toArray, List.map_cons, List.map_nil]; rfl) ?_
  refine (C5.out _).mono ?_
  rintro e w' ⟨rfl, hb⟩
  refine ⟨_, rfl, ?_⟩
  refine hK.out _ _ ⟨((hb.block _ (blk_lt hHeld.1)).trans hHeld.1), (pw_cell_below hb hHeld.2.1), (pw_cell_below hb hHeld.2.2.1), (below_step hHeld.2.2.2 hb)⟩ (fun hHeld => ?_)
  clear hK K
  refine norm_ (a' := ?_) ?_ ?_
  rotate_left
  · show Act.put _ (some 12) _ = _
    simp only [Act.put, List.setIfInBounds_toArray, List.set_cons_zero, List.set_cons_succ, i64_w, i32_w]
    rfl
  refine zpk 9 16 16 1023 ?_
  refine zpk 10 17 16 2047 ?_
  refine zpk 11 18 16 4095 ?_
  refine zqk 12 19 16 8191 ?_
  refine zqk 13 20 16 16383 ?_
  refine zqk 14 21 16 32767 ?_
  refine zpk 15 22 16 65535 ?_
  refine done_ (by kernel_rfl) ?_
  have X2 := Aside0.mk hHeld.1
  have B2 := Aside0.mk hHeld.2.2.2
  clear hHeld X1 B1
  go_wp2
  go_ret
  exact ⟨by rw [VV.out]; rfl, B2.out⟩
set_option maxHeartbeats 16000000 in
set_option maxRecDepth 100000 in
theorem l4Form_c0 (x : S39) (cs : List Value) (d : Nat) (w : World) (hK : k39.K w x cs) (hsm : Small39 x) (hd : d ≤ 1000) (hk : kidsN x.f0 = x.f9.length) (hcl : cleanB x = false) :
    Calls Tryz.prog 38 #[.agg cs.toArray, .int .i64 (((d + 1 : Nat) : Int))] w fun e w' => e = .returned (.bool (sForm x (d + 1))) ∧ Below w.heap.size w w' := by
  have LC := Aside0.mk (show cs.length = 19 from k39.K_len hK)
  obtain ⟨A12, c12, A15, c15, A18, c18, hcs, l12, g12, l15, g15, l18, g18⟩ := k39_open hK
  have E0 := Aside0.mk (show cs[0]? = some (.int .i64 x.f0) by rw [hcs]; rfl)
  have E18 := Aside0.mk (show cs[18]? = some (.slice A18 x.f9.length c18) by rw [hcs]; rfl)
  have HK := Aside0.mk hK
  have VV := Aside0.mk (sForm_no (x := x) (d := d + 1) (.inr (.inr hcl)))
  have d1 : decide (((d + 1 : Nat) : Int) < 1) = false := decide_eq_false (by omega)
  have C5 := Aside0.mk (fun W => l4Kids_c x.f0 W)
  have C13 := Aside0.mk (fun (W : World) (hb : Below w.heap.size w W) => l4Clean_c x cs W (k39.K_below hb hK))
  rw [hk] at C5
  rw [hcl] at C13
  have b1 : ((x.f9.length : Int) != (x.f9.length : Int)) = false := by simp
  clear hcs l12 g12 l15 g15 l18 g18 hK hsm hk hcl
  go_enter Tryz.func38, Tryz.ntmps38
  go_wp2_with ((with_reducible refine gate_dst (N := 2) rfl ?_); refine box_ 39 (.tmp 0) rfl rfl cs.toArray rfl ?_; intro gb hg w1 hb hB; have X1 := Aside0.mk hb; have B1 := Aside0.mk hB; clear hb hB hg)
  refine start_ (n := 16) (S := fun w' => w'.heap[gb]? = some (.cells cs.toArray 39 (0, 0)) ∧ w'.cell? ⟨gb, 0, none⟩ = some (.int .i64 x.f0) ∧ w'.cell? ⟨gb, 18, none⟩ = some (.slice A18 x.f9.length c18) ∧ Below w.heap.size w w') (ds := []) (zm 16 0) (by kernel_rfl) rfl rfl ⟨X1.out, (cell_of_range X1.out E0.out), (cell_of_range X1.out E18.out), (below_drew B1.out)⟩ (fun hHeld => ?_)
  refine zpk 0 7 16 1 ?_
  refine zpk 1 8 16 3 ?_
  refine zpk 2 9 16 7 ?_
  refine zpk 3 10 16 15 ?_
  refine zpk 6 13 16 79 ?_
  refine ztk 4 11 16 95 ?_
  refine ztk 7 14 16 223 ?_
  refine zpk 8 15 16 479 ?_
  refine one_ (i := 5) (N := some 12) (zm 16 511) rfl rfl (by kernel_rfl) (by decide) (fun K hK => ?_)
  refine goes_ Tryz.func49 (by kernel_rfl) rfl #[.int .i64 x.f0] (by rfl) rfl rfl (by simp only [List.map_toArray, List.map_cons, List.map_nil]; rfl) ?_
  refine (C5.out _).mono ?_
  rintro e w' ⟨rfl, hb⟩
  refine ⟨_, rfl, ?_⟩
  refine hK.out _ _ ⟨((hb.block _ (blk_lt hHeld.1)).trans hHeld.1), (pw_cell_below hb hHeld.2.1), (pw_cell_below hb hHeld.2.2.1), (below_step hHeld.2.2.2 hb)⟩ (fun hHeld => ?_)
  clear hK K
  refine norm_ (a' := ?_) ?_ ?_
  rotate_left
  · show Act.put _ (some 12) _ = _
    simp only [Act.put, List.setIfInBounds_toArray, List.set_cons_zero, List.set_cons_succ, i64_w, i32_w]
    rfl
  refine zpk 9 16 16 1023 ?_
  refine zpk 10 17 16 2047 ?_
  refine zpk 11 18 16 4095 ?_
  refine take_ (i := 12) (N := some 19) (v := _) (a' := ?_) (zm 16 8191) rfl rfl (by kernel_rfl) (fun _ _ _ h => h) (yieldsIf_load_mid (by rfl) 39 (.tmp 2) rfl gb 0 rfl cs _ (fun W h => range_ h.1) Tryz.underlying39 rfl (by rw [LC.out]; kernel_rfl)) hHeld ?_ ?_
  rotate_left
  · simp only [Act.put, List.setIfInBounds_toArray, List.set_cons_zero, List.set_cons_succ, i64_w, i32_w]
    rfl
  refine one_ (i := 13) (N := some 20) (zm 16 16383) rfl rfl (by kernel_rfl) (by decide) (fun K hK => ?_)
  refine goes_ Tryz.func50 (by kernel_rfl) rfl #[.agg cs.toArray] (by rfl) rfl rfl (by simp only [List.map_toArray, List.map_cons, List.map_nil]; rfl) ?_
  refine (C13.out _ hHeld.2.2.2).mono ?_
  rintro e w' ⟨rfl, hb⟩
  refine ⟨_, rfl, ?_⟩
  refine hK.out _ _ ⟨((hb.block _ (blk_lt hHeld.1)).trans hHeld.1), (pw_cell_below hb hHeld.2.1), (pw_cell_below hb hHeld.2.2.1), (below_step hHeld.2.2.2 hb)⟩ (fun hHeld => ?_)
  clear hK K
  refine norm_ (a' := ?_) ?_ ?_
  rotate_left
  · show Act.put _ (some 20) _ = _
    simp only [Act.put, List.setIfInBounds_toArray, List.set_cons_zero, List.set_cons_succ, i64_w, i32_w]
    rfl
  refine zpk 14 21 16 32767 ?_
  refine zpk 15 22 16 65535 ?_
  refine done_ (by kernel_rfl) ?_
  have X2 := Aside0.mk hHeld.1
  have B2 := Aside0.mk hHeld.2.2.2
  clear hHeld X1 B1
  go_wp2
  go_ret
  exact ⟨by rw [VV.out]; rfl, B2.out⟩
set_option maxHeartbeats 16000000 in
set_option maxRecDepth 100000 in
theorem l4Form_1a (N : Nat) (ih : ∀ m, m ≤ N → FoP m) (x : S39) (cs : List Value) (d : Nat) (w : World) (hK : k39.K w x cs) (hsm : Small39 x) (hd : d ≤ 1000) (hn : sz39 x ≤ N + 1) (hx : x.f0 = 1) (hk : kidsN x.f0 = x.f9.length) (hcl : cleanB x = true) (h1 : x.f1 < 0) :
    Calls Tryz.prog 38 #[.agg cs.toArray, .int .i64 (((d + 1 : Nat) : Int))] w fun e w' => e = .returned (.bool (sForm x (d + 1))) ∧ Below w.heap.size w w' := by
  have LC := Aside0.mk (show cs.length = 19 from k39.K_len hK)
  obtain ⟨A12, c12, A15, c15, A18, c18, hcs, l12, g12, l15, g15, l18, g18⟩ := k39_open hK
  have E0 := Aside0.mk (show cs[0]? = some (.int .i64 x.f0) by rw [hcs]; rfl)
  have E18 := Aside0.mk (show cs[18]? = some (.slice A18 x.f9.length c18) by rw [hcs]; rfl)
  have HK := Aside0.mk hK
  have FO := Aside0.mk (show fOk x = false from by unfold fOk; rw [hx]; rw [if_pos rfl, decide_eq_false (show ¬ 0 ≤ x.f1 by omega)]; rfl)
  have SY := Aside0.mk (sForm_yes (x := x) (d := d) hk hcl)
  have d1 : decide (((d + 1 : Nat) : Int) < 1) = false := decide_eq_false (by omega)
  have C5 := Aside0.mk (fun W => l4Kids_c x.f0 W)
  have C13 := Aside0.mk (fun (W : World) (hb : Below w.heap.size w W) => l4Clean_c x cs W (k39.K_below hb hK))
  rw [hk] at C5
  rw [hcl] at C13
  have b1 : ((x.f9.length : Int) != (x.f9.length : Int)) = false := by simp
  have G18 := Aside0.mk g18
  have SK := Aside0.mk (show szs39 x.f9 ≤ N by have := sz39_kids x; omega)
  have K9 := Aside0.mk hsm.out.2.2.2
  have S9 := hsm.out.2.2.1
  have IH := Aside0.mk ih
  have E1 := Aside0.mk (show cs[1]? = some (.int .i64 x.f1) by rw [hcs]; rfl)
  have d1_ : decide (0 ≤ x.f1) = false := decide_eq_false (by omega)
  rw [hx] at E0 C5
  clear hcs l12 g12 l15 g15 l18 g18 hK hsm hcl hn hk hx ih h1
  go_enter Tryz.func38, Tryz.ntmps38
  go_wp2_with ((with_reducible refine gate_dst (N := 2) rfl ?_); refine box_ 39 (.tmp 0) rfl rfl cs.toArray rfl ?_; intro gb hg w1 hb hB; have X1 := Aside0.mk hb; have B1 := Aside0.mk hB; clear hb hB hg)
  refine start_ (n := 16) (S := fun w' => w'.heap[gb]? = some (.cells cs.toArray 39 (0, 0)) ∧ w'.cell? ⟨gb, 0, none⟩ = some (.int .i64 1) ∧ w'.cell? ⟨gb, 18, none⟩ = some (.slice A18 x.f9.length c18) ∧ Below w.heap.size w w') (ds := []) (zm 16 0) (by kernel_rfl) rfl rfl ⟨X1.out, (cell_of_range X1.out E0.out), (cell_of_range X1.out E18.out), (below_drew B1.out)⟩ (fun hHeld => ?_)
  refine zpk 0 7 16 1 ?_
  refine zpk 1 8 16 3 ?_
  refine zpk 2 9 16 7 ?_
  refine zpk 3 10 16 15 ?_
  refine zpk 6 13 16 79 ?_
  refine ztk 4 11 16 95 ?_
  refine ztk 7 14 16 223 ?_
  refine zpk 8 15 16 479 ?_
  refine one_ (i := 5) (N := some 12) (zm 16 511) rfl rfl (by kernel_rfl) (by decide) (fun K hK => ?_)
  refine goes_ Tryz.func49 (by kernel_rfl) rfl #[.int .i64 1] (by rfl) rfl rfl (by simp only [List.map_toArray, List.map_cons, List.map_nil]; rfl) ?_
  refine (C5.out _).mono ?_
  rintro e w' ⟨rfl, hb⟩
  refine ⟨_, rfl, ?_⟩
  refine hK.out _ _ ⟨((hb.block _ (blk_lt hHeld.1)).trans hHeld.1), (pw_cell_below hb hHeld.2.1), (pw_cell_below hb hHeld.2.2.1), (below_step hHeld.2.2.2 hb)⟩ (fun hHeld => ?_)
  clear hK K
  refine norm_ (a' := ?_) ?_ ?_
  rotate_left
  · show Act.put _ (some 12) _ = _
    simp only [Act.put, List.setIfInBounds_toArray, List.set_cons_zero, List.set_cons_succ, i64_w, i32_w]
    rfl
  refine zpk 9 16 16 1023 ?_
  refine zpk 10 17 16 2047 ?_
  refine zpk 11 18 16 4095 ?_
  refine take_ (i := 12) (N := some 19) (v := _) (a' := ?_) (zm 16 8191) rfl rfl (by kernel_rfl) (fun _ _ _ h => h) (yieldsIf_load_mid (by rfl) 39 (.tmp 2) rfl gb 0 rfl cs _ (fun W h => range_ h.1) Tryz.underlying39 rfl (by rw [LC.out]; kernel_rfl)) hHeld ?_ ?_
  rotate_left
  · simp only [Act.put, List.setIfInBounds_toArray, List.set_cons_zero, List.set_cons_succ, i64_w, i32_w]
    rfl
  refine one_ (i := 13) (N := some 20) (zm 16 16383) rfl rfl (by kernel_rfl) (by decide) (fun K hK => ?_)
  refine goes_ Tryz.func50 (by kernel_rfl) rfl #[.agg cs.toArray] (by rfl) rfl rfl (by simp only [List.map_toArray, List.map_cons, List.map_nil]; rfl) ?_
  refine (C13.out _ hHeld.2.2.2).mono ?_
  rintro e w' ⟨rfl, hb⟩
  refine ⟨_, rfl, ?_⟩
  refine hK.out _ _ ⟨((hb.block _ (blk_lt hHeld.1)).trans hHeld.1), (pw_cell_below hb hHeld.2.1), (pw_cell_below hb hHeld.2.2.1), (below_step hHeld.2.2.2 hb)⟩ (fun hHeld => ?_)
  clear hK K
  refine norm_ (a' := ?_) ?_ ?_
  rotate_left
  · show Act.put _ (some 20) _ = _
    simp only [Act.put, List.setIfInBounds_toArray, List.set_cons_zero, List.set_cons_succ, i64_w, i32_w]
    rfl
  refine zpk 14 21 16 32767 ?_
  refine zpk 15 22 16 65535 ?_
  refine done_ (by kernel_rfl) ?_
  have X2 := Aside0.mk hHeld.1
  have B2 := Aside0.mk hHeld.2.2.2
  clear hHeld X1 B1
  have q0 := cell_of_range X2.out E0.out
  have q18 := cell_of_range X2.out E18.out
  have qf1 := cell_of_range X2.out E1.out
  go_wp2
  have X3 := X2
  have B3 := B2
  have q18k := q18
  clear X2 B2 q0 q18 qf1
  go_loopw [5, 6] (fun v5 v6 wr => ∃ (b : Bool) (i : Nat), v5 = .bool b ∧ v6 = .int .i64 i ∧ i ≤ x.f9.length ∧ wr.cell? ⟨gb, 18, none⟩ = some (.slice A18 x.f9.length c18) ∧ Aside0 (Below w.heap.size w wr) ∧ Aside0 (sForm x (d + 1) = (b && sForms (x.f9.drop i) d))) (fun _ v6 _ => x.f9.length - (intOf v6).toNat)
  case atStart => exact ⟨false, 0, rfl, rfl, Nat.zero_le _, q18k, B3, ⟨by rw [SY.out, FO.out, List.drop_zero]⟩⟩
  case round =>
    obtain ⟨b, i, rfl, rfl, hi, q18, HB, HG⟩ := hrel
    clear q18k
    by_cases hlt : i < x.f9.length
    · cases b with
      | false =>
        have VV := Aside0.mk (HG.out.trans (Bool.false_and _))
        clear HG
        go_wp2
        go_ret
        exact ⟨by rw [VV.out]; rfl, HB.out⟩
      | true =>
        obtain ⟨ad, c0, e18, hcl, hK0, hcell⟩ := elem_ G18.out i hlt
        obtain rfl := e18
        have hsz := szs39_get hlt
        have LD := Aside0.mk (show c0.length = 19 from hcl)
        have HE := Aside0.mk hcell
        have CA := Aside0.mk (fun (W : World) (hb : Below w.heap.size w W) => IH.out (sz39 x.f9[i]) (by have := SK.out; omega) x.f9[i] c0 d W (Nat.le_refl _) (k39.K_below hb hK0) (K9.out _ (List.getElem_mem hlt)) (by omega))
        have GD := Aside0.mk (HG.out.trans (by rw [sForms_drop x.f9 d i hlt, Bool.true_and]))
        obtain ⟨r, hr⟩ : ∃ r, r = sForm x.f9[i] d := ⟨_, rfl⟩
        rw [← hr] at CA GD
        clear hK0 hcell hcl hsz HG hr
        go_wp2_with (first
          | ((with_reducible refine gate_dst (N := 89) rfl ?_); refine load_ 39 (.tmp 88) rfl rfl (ad.add (i * 19)) ?hx c0 _ Tryz.underlying39 ?hi (fun j v h => zhs HB.out (HE.out j v h)) ?_; (case hx => first | rfl | (go_simp; done) | (go_simp; rfl)); (case hi => rw [LD.out]; kernel_rfl))
          | (go_at_call 38; refine (CA.out _ HB.out).mono ?_; rintro e w6 ⟨rfl, hB⟩; have HB6 := Aside0.mk (below_step HB.out hB); have p18 := zhs hB q18; clear hB CA q18))
        go_roundw
        case rel => exact ⟨r, i + 1, rfl, by go_num, by omega, p18, HB6, GD⟩
        case measure => simp [intOf]; omega
    · have VV := Aside0.mk (HG.out.trans (by rw [sForms_end x.f9 d i (by omega), Bool.and_true]))
      clear HG
      go_wp2
      go_ret
      exact ⟨by rw [VV.out]; rfl, HB.out⟩
set_option maxHeartbeats 16000000 in
set_option maxRecDepth 100000 in
theorem l4Form_1b (N : Nat) (ih : ∀ m, m ≤ N → FoP m) (x : S39) (cs : List Value) (d : Nat) (w : World) (hK : k39.K w x cs) (hsm : Small39 x) (hd : d ≤ 1000) (hn : sz39 x ≤ N + 1) (hx : x.f0 = 1) (hk : kidsN x.f0 = x.f9.length) (hcl : cleanB x = true) (h1 : 0 ≤ x.f1) (h2 : 3 ≤ x.f1) :
    Calls Tryz.prog 38 #[.agg cs.toArray, .int .i64 (((d + 1 : Nat) : Int))] w fun e w' => e = .returned (.bool (sForm x (d + 1))) ∧ Below w.heap.size w w' := by
  have LC := Aside0.mk (show cs.length = 19 from k39.K_len hK)
  obtain ⟨A12, c12, A15, c15, A18, c18, hcs, l12, g12, l15, g15, l18, g18⟩ := k39_open hK
  have E0 := Aside0.mk (show cs[0]? = some (.int .i64 x.f0) by rw [hcs]; rfl)
  have E18 := Aside0.mk (show cs[18]? = some (.slice A18 x.f9.length c18) by rw [hcs]; rfl)
  have HK := Aside0.mk hK
  have FO := Aside0.mk (show fOk x = false from by unfold fOk; rw [hx]; rw [if_pos rfl, decide_eq_true h1, decide_eq_false (show ¬ x.f1 < 3 by omega)]; rfl)
  have SY := Aside0.mk (sForm_yes (x := x) (d := d) hk hcl)
  have d1 : decide (((d + 1 : Nat) : Int) < 1) = false := decide_eq_false (by omega)
  have C5 := Aside0.mk (fun W => l4Kids_c x.f0 W)
  have C13 := Aside0.mk (fun (W : World) (hb : Below w.heap.size w W) => l4Clean_c x cs W (k39.K_below hb hK))
  rw [hk] at C5
  rw [hcl] at C13
  have b1 : ((x.f9.length : Int) != (x.f9.length : Int)) = false := by simp
  have G18 := Aside0.mk g18
  have SK := Aside0.mk (show szs39 x.f9 ≤ N by have := sz39_kids x; omega)
  have K9 := Aside0.mk hsm.out.2.2.2
  have S9 := hsm.out.2.2.1
  have IH := Aside0.mk ih
  have E1 := Aside0.mk (show cs[1]? = some (.int .i64 x.f1) by rw [hcs]; rfl)
  have d1_ : decide (0 ≤ x.f1) = true := decide_eq_true h1
  have d2_ : decide (x.f1 < 3) = false := decide_eq_false (by omega)
  rw [hx] at E0 C5
  clear hcs l12 g12 l15 g15 l18 g18 hK hsm hcl hn hk hx ih h1 h2
  go_enter Tryz.func38, Tryz.ntmps38
  go_wp2_with ((with_reducible refine gate_dst (N := 2) rfl ?_); refine box_ 39 (.tmp 0) rfl rfl cs.toArray rfl ?_; intro gb hg w1 hb hB; have X1 := Aside0.mk hb; have B1 := Aside0.mk hB; clear hb hB hg)
  refine start_ (n := 16) (S := fun w' => w'.heap[gb]? = some (.cells cs.toArray 39 (0, 0)) ∧ w'.cell? ⟨gb, 0, none⟩ = some (.int .i64 1) ∧ w'.cell? ⟨gb, 18, none⟩ = some (.slice A18 x.f9.length c18) ∧ Below w.heap.size w w') (ds := []) (zm 16 0) (by kernel_rfl) rfl rfl ⟨X1.out, (cell_of_range X1.out E0.out), (cell_of_range X1.out E18.out), (below_drew B1.out)⟩ (fun hHeld => ?_)
  refine zpk 0 7 16 1 ?_
  refine zpk 1 8 16 3 ?_
  refine zpk 2 9 16 7 ?_
  refine zpk 3 10 16 15 ?_
  refine zpk 6 13 16 79 ?_
  refine ztk 4 11 16 95 ?_
  refine ztk 7 14 16 223 ?_
  refine zpk 8 15 16 479 ?_
  refine one_ (i := 5) (N := some 12) (zm 16 511) rfl rfl (by kernel_rfl) (by decide) (fun K hK => ?_)
  refine goes_ Tryz.func49 (by kernel_rfl) rfl #[.int .i64 1] (by rfl) rfl rfl (by simp only [List.map_toArray, List.map_cons, List.map_nil]; rfl) ?_
  refine (C5.out _).mono ?_
  rintro e w' ⟨rfl, hb⟩
  refine ⟨_, rfl, ?_⟩
  refine hK.out _ _ ⟨((hb.block _ (blk_lt hHeld.1)).trans hHeld.1), (pw_cell_below hb hHeld.2.1), (pw_cell_below hb hHeld.2.2.1), (below_step hHeld.2.2.2 hb)⟩ (fun hHeld => ?_)
  clear hK K
  refine norm_ (a' := ?_) ?_ ?_
  rotate_left
  · show Act.put _ (some 12) _ = _
    simp only [Act.put, List.setIfInBounds_toArray, List.set_cons_zero, List.set_cons_succ, i64_w, i32_w]
    rfl
  refine zpk 9 16 16 1023 ?_
  refine zpk 10 17 16 2047 ?_
  refine zpk 11 18 16 4095 ?_
  refine take_ (i := 12) (N := some 19) (v := _) (a' := ?_) (zm 16 8191) rfl rfl (by kernel_rfl) (fun _ _ _ h => h) (yieldsIf_load_mid (by rfl) 39 (.tmp 2) rfl gb 0 rfl cs _ (fun W h => range_ h.1) Tryz.underlying39 rfl (by rw [LC.out]; kernel_rfl)) hHeld ?_ ?_
  rotate_left
  · simp only [Act.put, List.setIfInBounds_toArray, List.set_cons_zero, List.set_cons_succ, i64_w, i32_w]
    rfl
  refine one_ (i := 13) (N := some 20) (zm 16 16383) rfl rfl (by kernel_rfl) (by decide) (fun K hK => ?_)
  refine goes_ Tryz.func50 (by kernel_rfl) rfl #[.agg cs.toArray] (by rfl) rfl rfl (by simp only [List.map_toArray, List.map_cons, List.map_nil]; rfl) ?_
  refine (C13.out _ hHeld.2.2.2).mono ?_
  rintro e w' ⟨rfl, hb⟩
  refine ⟨_, rfl, ?_⟩
  refine hK.out _ _ ⟨((hb.block _ (blk_lt hHeld.1)).trans hHeld.1), (pw_cell_below hb hHeld.2.1), (pw_cell_below hb hHeld.2.2.1), (below_step hHeld.2.2.2 hb)⟩ (fun hHeld => ?_)
  clear hK K
  refine norm_ (a' := ?_) ?_ ?_
  rotate_left
  · show Act.put _ (some 20) _ = _
    simp only [Act.put, List.setIfInBounds_toArray, List.set_cons_zero, List.set_cons_succ, i64_w, i32_w]
    rfl
  refine zpk 14 21 16 32767 ?_
  refine zpk 15 22 16 65535 ?_
  refine done_ (by kernel_rfl) ?_
  have X2 := Aside0.mk hHeld.1
  have B2 := Aside0.mk hHeld.2.2.2
  clear hHeld X1 B1
  have q0 := cell_of_range X2.out E0.out
  have q18 := cell_of_range X2.out E18.out
  have qf1 := cell_of_range X2.out E1.out
  go_wp2
  have X3 := X2
  have B3 := B2
  have q18k := q18
  clear X2 B2 q0 q18 qf1
  go_loopw [5, 6] (fun v5 v6 wr => ∃ (b : Bool) (i : Nat), v5 = .bool b ∧ v6 = .int .i64 i ∧ i ≤ x.f9.length ∧ wr.cell? ⟨gb, 18, none⟩ = some (.slice A18 x.f9.length c18) ∧ Aside0 (Below w.heap.size w wr) ∧ Aside0 (sForm x (d + 1) = (b && sForms (x.f9.drop i) d))) (fun _ v6 _ => x.f9.length - (intOf v6).toNat)
  case atStart => exact ⟨false, 0, rfl, rfl, Nat.zero_le _, q18k, B3, ⟨by rw [SY.out, FO.out, List.drop_zero]⟩⟩
  case round =>
    obtain ⟨b, i, rfl, rfl, hi, q18, HB, HG⟩ := hrel
    clear q18k
    by_cases hlt : i < x.f9.length
    · cases b with
      | false =>
        have VV := Aside0.mk (HG.out.trans (Bool.false_and _))
        clear HG
        go_wp2
        go_ret
        exact ⟨by rw [VV.out]; rfl, HB.out⟩
      | true =>
        obtain ⟨ad, c0, e18, hcl, hK0, hcell⟩ := elem_ G18.out i hlt
        obtain rfl := e18
        have hsz := szs39_get hlt
        have LD := Aside0.mk (show c0.length = 19 from hcl)
        have HE := Aside0.mk hcell
        have CA := Aside0.mk (fun (W : World) (hb : Below w.heap.size w W) => IH.out (sz39 x.f9[i]) (by have := SK.out; omega) x.f9[i] c0 d W (Nat.le_refl _) (k39.K_below hb hK0) (K9.out _ (List.getElem_mem hlt)) (by omega))
        have GD := Aside0.mk (HG.out.trans (by rw [sForms_drop x.f9 d i hlt, Bool.true_and]))
        obtain ⟨r, hr⟩ : ∃ r, r = sForm x.f9[i] d := ⟨_, rfl⟩
        rw [← hr] at CA GD
        clear hK0 hcell hcl hsz HG hr
        go_wp2_with (first
          | ((with_reducible refine gate_dst (N := 89) rfl ?_); refine load_ 39 (.tmp 88) rfl rfl (ad.add (i * 19)) ?hx c0 _ Tryz.underlying39 ?hi (fun j v h => zhs HB.out (HE.out j v h)) ?_; (case hx => first | rfl | (go_simp; done) | (go_simp; rfl)); (case hi => rw [LD.out]; kernel_rfl))
          | (go_at_call 38; refine (CA.out _ HB.out).mono ?_; rintro e w6 ⟨rfl, hB⟩; have HB6 := Aside0.mk (below_step HB.out hB); have p18 := zhs hB q18; clear hB CA q18))
        go_roundw
        case rel => exact ⟨r, i + 1, rfl, by go_num, by omega, p18, HB6, GD⟩
        case measure => simp [intOf]; omega
    · have VV := Aside0.mk (HG.out.trans (by rw [sForms_end x.f9 d i (by omega), Bool.and_true]))
      clear HG
      go_wp2
      go_ret
      exact ⟨by rw [VV.out]; rfl, HB.out⟩
set_option maxHeartbeats 16000000 in
set_option maxRecDepth 100000 in
theorem l4Form_1c (N : Nat) (ih : ∀ m, m ≤ N → FoP m) (x : S39) (cs : List Value) (d : Nat) (w : World) (hK : k39.K w x cs) (hsm : Small39 x) (hd : d ≤ 1000) (hn : sz39 x ≤ N + 1) (hx : x.f0 = 1) (hk : kidsN x.f0 = x.f9.length) (hcl : cleanB x = true) (h1 : 0 ≤ x.f1) (h2 : x.f1 < 3) :
    Calls Tryz.prog 38 #[.agg cs.toArray, .int .i64 (((d + 1 : Nat) : Int))] w fun e w' => e = .returned (.bool (sForm x (d + 1))) ∧ Below w.heap.size w w' := by
  have LC := Aside0.mk (show cs.length = 19 from k39.K_len hK)
  obtain ⟨A12, c12, A15, c15, A18, c18, hcs, l12, g12, l15, g15, l18, g18⟩ := k39_open hK
  have E0 := Aside0.mk (show cs[0]? = some (.int .i64 x.f0) by rw [hcs]; rfl)
  have E18 := Aside0.mk (show cs[18]? = some (.slice A18 x.f9.length c18) by rw [hcs]; rfl)
  have HK := Aside0.mk hK
  have FO := Aside0.mk (show fOk x = true from by unfold fOk; rw [hx]; rw [if_pos rfl, decide_eq_true h1, decide_eq_true h2]; rfl)
  have SY := Aside0.mk (sForm_yes (x := x) (d := d) hk hcl)
  have d1 : decide (((d + 1 : Nat) : Int) < 1) = false := decide_eq_false (by omega)
  have C5 := Aside0.mk (fun W => l4Kids_c x.f0 W)
  have C13 := Aside0.mk (fun (W : World) (hb : Below w.heap.size w W) => l4Clean_c x cs W (k39.K_below hb hK))
  rw [hk] at C5
  rw [hcl] at C13
  have b1 : ((x.f9.length : Int) != (x.f9.length : Int)) = false := by simp
  have G18 := Aside0.mk g18
  have SK := Aside0.mk (show szs39 x.f9 ≤ N by have := sz39_kids x; omega)
  have K9 := Aside0.mk hsm.out.2.2.2
  have S9 := hsm.out.2.2.1
  have IH := Aside0.mk ih
  have E1 := Aside0.mk (show cs[1]? = some (.int .i64 x.f1) by rw [hcs]; rfl)
  have d1_ : decide (0 ≤ x.f1) = true := decide_eq_true h1
  have d2_ : decide (x.f1 < 3) = true := decide_eq_true h2
  rw [hx] at E0 C5
  clear hcs l12 g12 l15 g15 l18 g18 hK hsm hcl hn hk hx ih h1 h2
  go_enter Tryz.func38, Tryz.ntmps38
  go_wp2_with ((with_reducible refine gate_dst (N := 2) rfl ?_); refine box_ 39 (.tmp 0) rfl rfl cs.toArray rfl ?_; intro gb hg w1 hb hB; have X1 := Aside0.mk hb; have B1 := Aside0.mk hB; clear hb hB hg)
  refine start_ (n := 16) (S := fun w' => w'.heap[gb]? = some (.cells cs.toArray 39 (0, 0)) ∧ w'.cell? ⟨gb, 0, none⟩ = some (.int .i64 1) ∧ w'.cell? ⟨gb, 18, none⟩ = some (.slice A18 x.f9.length c18) ∧ Below w.heap.size w w') (ds := []) (zm 16 0) (by kernel_rfl) rfl rfl ⟨X1.out, (cell_of_range X1.out E0.out), (cell_of_range X1.out E18.out), (below_drew B1.out)⟩ (fun hHeld => ?_)
  refine zpk 0 7 16 1 ?_
  refine zpk 1 8 16 3 ?_
  refine zpk 2 9 16 7 ?_
  refine zpk 3 10 16 15 ?_
  refine zpk 6 13 16 79 ?_
  refine ztk 4 11 16 95 ?_
  refine ztk 7 14 16 223 ?_
  refine zpk 8 15 16 479 ?_
  refine one_ (i := 5) (N := some 12) (zm 16 511) rfl rfl (by kernel_rfl) (by decide) (fun K hK => ?_)
  refine goes_ Tryz.func49 (by kernel_rfl) rfl #[.int .i64 1] (by rfl) rfl rfl (by simp only [List.map_toArray, List.map_cons, List.map_nil]; rfl) ?_
  refine (C5.out _).mono ?_
  rintro e w' ⟨rfl, hb⟩
  refine ⟨_, rfl, ?_⟩
  refine hK.out _ _ ⟨((hb.block _ (blk_lt hHeld.1)).trans hHeld.1), (pw_cell_below hb hHeld.2.1), (pw_cell_below hb hHeld.2.2.1), (below_step hHeld.2.2.2 hb)⟩ (fun hHeld => ?_)
  clear hK K
  refine norm_ (a' := ?_) ?_ ?_
  rotate_left
  · show Act.put _ (some 12) _ = _
    simp only [Act.put, List.setIfInBounds_toArray, List.set_cons_zero, List.set_cons_succ, i64_w, i32_w]
    rfl
  refine zpk 9 16 16 1023 ?_
  refine zpk 10 17 16 2047 ?_
  refine zpk 11 18 16 4095 ?_
  refine take_ (i := 12) (N := some 19) (v := _) (a' := ?_) (zm 16 8191) rfl rfl (by kernel_rfl) (fun _ _ _ h => h) (yieldsIf_load_mid (by rfl) 39 (.tmp 2) rfl gb 0 rfl cs _ (fun W h => range_ h.1) Tryz.underlying39 rfl (by rw [LC.out]; kernel_rfl)) hHeld ?_ ?_
  rotate_left
  · simp only [Act.put, List.setIfInBounds_toArray, List.set_cons_zero, List.set_cons_succ, i64_w, i32_w]
    rfl
  refine one_ (i := 13) (N := some 20) (zm 16 16383) rfl rfl (by kernel_rfl) (by decide) (fun K hK => ?_)
  refine goes_ Tryz.func50 (by kernel_rfl) rfl #[.agg cs.toArray] (by rfl) rfl rfl (by simp only [List.map_toArray, List.map_cons, List.map_nil]; rfl) ?_
  refine (C13.out _ hHeld.2.2.2).mono ?_
  rintro e w' ⟨rfl, hb⟩
  refine ⟨_, rfl, ?_⟩
  refine hK.out _ _ ⟨((hb.block _ (blk_lt hHeld.1)).trans hHeld.1), (pw_cell_below hb hHeld.2.1), (pw_cell_below hb hHeld.2.2.1), (below_step hHeld.2.2.2 hb)⟩ (fun hHeld => ?_)
  clear hK K
  refine norm_ (a' := ?_) ?_ ?_
  rotate_left
  · show Act.put _ (some 20) _ = _
    simp only [Act.put, List.setIfInBounds_toArray, List.set_cons_zero, List.set_cons_succ, i64_w, i32_w]
    rfl
  refine zpk 14 21 16 32767 ?_
  refine zpk 15 22 16 65535 ?_
  refine done_ (by kernel_rfl) ?_
  have X2 := Aside0.mk hHeld.1
  have B2 := Aside0.mk hHeld.2.2.2
  clear hHeld X1 B1
  have q0 := cell_of_range X2.out E0.out
  have q18 := cell_of_range X2.out E18.out
  have qf1 := cell_of_range X2.out E1.out
  go_wp2
  have X3 := X2
  have B3 := B2
  have q18k := q18
  clear X2 B2 q0 q18 qf1
  go_loopw [5, 6] (fun v5 v6 wr => ∃ (b : Bool) (i : Nat), v5 = .bool b ∧ v6 = .int .i64 i ∧ i ≤ x.f9.length ∧ wr.cell? ⟨gb, 18, none⟩ = some (.slice A18 x.f9.length c18) ∧ Aside0 (Below w.heap.size w wr) ∧ Aside0 (sForm x (d + 1) = (b && sForms (x.f9.drop i) d))) (fun _ v6 _ => x.f9.length - (intOf v6).toNat)
  case atStart => exact ⟨true, 0, rfl, rfl, Nat.zero_le _, q18k, B3, ⟨by rw [SY.out, FO.out, List.drop_zero]⟩⟩
  case round =>
    obtain ⟨b, i, rfl, rfl, hi, q18, HB, HG⟩ := hrel
    clear q18k
    by_cases hlt : i < x.f9.length
    · cases b with
      | false =>
        have VV := Aside0.mk (HG.out.trans (Bool.false_and _))
        clear HG
        go_wp2
        go_ret
        exact ⟨by rw [VV.out]; rfl, HB.out⟩
      | true =>
        obtain ⟨ad, c0, e18, hcl, hK0, hcell⟩ := elem_ G18.out i hlt
        obtain rfl := e18
        have hsz := szs39_get hlt
        have LD := Aside0.mk (show c0.length = 19 from hcl)
        have HE := Aside0.mk hcell
        have CA := Aside0.mk (fun (W : World) (hb : Below w.heap.size w W) => IH.out (sz39 x.f9[i]) (by have := SK.out; omega) x.f9[i] c0 d W (Nat.le_refl _) (k39.K_below hb hK0) (K9.out _ (List.getElem_mem hlt)) (by omega))
        have GD := Aside0.mk (HG.out.trans (by rw [sForms_drop x.f9 d i hlt, Bool.true_and]))
        obtain ⟨r, hr⟩ : ∃ r, r = sForm x.f9[i] d := ⟨_, rfl⟩
        rw [← hr] at CA GD
        clear hK0 hcell hcl hsz HG hr
        go_wp2_with (first
          | ((with_reducible refine gate_dst (N := 89) rfl ?_); refine load_ 39 (.tmp 88) rfl rfl (ad.add (i * 19)) ?hx c0 _ Tryz.underlying39 ?hi (fun j v h => zhs HB.out (HE.out j v h)) ?_; (case hx => first | rfl | (go_simp; done) | (go_simp; rfl)); (case hi => rw [LD.out]; kernel_rfl))
          | (go_at_call 38; refine (CA.out _ HB.out).mono ?_; rintro e w6 ⟨rfl, hB⟩; have HB6 := Aside0.mk (below_step HB.out hB); have p18 := zhs hB q18; clear hB CA q18))
        go_roundw
        case rel => exact ⟨r, i + 1, rfl, by go_num, by omega, p18, HB6, GD⟩
        case measure => simp [intOf]; omega
    · have VV := Aside0.mk (HG.out.trans (by rw [sForms_end x.f9 d i (by omega), Bool.and_true]))
      clear HG
      go_wp2
      go_ret
      exact ⟨by rw [VV.out]; rfl, HB.out⟩
set_option maxHeartbeats 16000000 in
set_option maxRecDepth 100000 in
theorem l4Form_2 (N : Nat) (ih : ∀ m, m ≤ N → FoP m) (x : S39) (cs : List Value) (d : Nat) (w : World) (hK : k39.K w x cs) (hsm : Small39 x) (hd : d ≤ 1000) (hn : sz39 x ≤ N + 1) (hx : x.f0 = 2) (hk : kidsN x.f0 = x.f9.length) (hcl : cleanB x = true) :
    Calls Tryz.prog 38 #[.agg cs.toArray, .int .i64 (((d + 1 : Nat) : Int))] w fun e w' => e = .returned (.bool (sForm x (d + 1))) ∧ Below w.heap.size w w' := by
  have LC := Aside0.mk (show cs.length = 19 from k39.K_len hK)
  obtain ⟨A12, c12, A15, c15, A18, c18, hcs, l12, g12, l15, g15, l18, g18⟩ := k39_open hK
  have E0 := Aside0.mk (show cs[0]? = some (.int .i64 x.f0) by rw [hcs]; rfl)
  have E18 := Aside0.mk (show cs[18]? = some (.slice A18 x.f9.length c18) by rw [hcs]; rfl)
  have HK := Aside0.mk hK
  have FO := Aside0.mk (show fOk x = testB' x.f2 6 from by unfold fOk; rw [hx]; rfl)
  have SY := Aside0.mk (sForm_yes (x := x) (d := d) hk hcl)
  have d1 : decide (((d + 1 : Nat) : Int) < 1) = false := decide_eq_false (by omega)
  have C5 := Aside0.mk (fun W => l4Kids_c x.f0 W)
  have C13 := Aside0.mk (fun (W : World) (hb : Below w.heap.size w W) => l4Clean_c x cs W (k39.K_below hb hK))
  rw [hk] at C5
  rw [hcl] at C13
  have b1 : ((x.f9.length : Int) != (x.f9.length : Int)) = false := by simp
  have G18 := Aside0.mk g18
  have SK := Aside0.mk (show szs39 x.f9 ≤ N by have := sz39_kids x; omega)
  have K9 := Aside0.mk hsm.out.2.2.2
  have S9 := hsm.out.2.2.1
  have IH := Aside0.mk ih
  have HA := Aside0.mk (show cs = [.int .i64 x.f0, .int .i64 x.f1] ++ (testCells x.f2 ++ [.slice A12 x.f3.length c12, .int .i64 x.f4, .int .i64 x.f5, .slice A15 x.f6.length c15, .int .i64 x.f7, .int .i64 x.f8, .slice A18 x.f9.length c18]) from hcs)
  obtain ⟨r, hr⟩ : ∃ r, r = testB' x.f2 6 := ⟨_, rfl⟩
  have CT := Aside0.mk (fun W => specTestOk_c x.f2 6 W)
  rw [← hr] at CT FO
  clear hr
  rw [hx] at E0 C5
  clear hcs l12 g12 l15 g15 l18 g18 hK hsm hcl hn hk hx ih 
  go_enter Tryz.func38, Tryz.ntmps38
  go_wp2_with ((with_reducible refine gate_dst (N := 2) rfl ?_); refine box_ 39 (.tmp 0) rfl rfl cs.toArray rfl ?_; intro gb hg w1 hb hB; have X1 := Aside0.mk hb; have B1 := Aside0.mk hB; clear hb hB hg)
  refine start_ (n := 16) (S := fun w' => w'.heap[gb]? = some (.cells cs.toArray 39 (0, 0)) ∧ w'.cell? ⟨gb, 0, none⟩ = some (.int .i64 2) ∧ w'.cell? ⟨gb, 18, none⟩ = some (.slice A18 x.f9.length c18) ∧ Below w.heap.size w w') (ds := []) (zm 16 0) (by kernel_rfl) rfl rfl ⟨X1.out, (cell_of_range X1.out E0.out), (cell_of_range X1.out E18.out), (below_drew B1.out)⟩ (fun hHeld => ?_)
  refine zpk 0 7 16 1 ?_
  refine zpk 1 8 16 3 ?_
  refine zpk 2 9 16 7 ?_
  refine zpk 3 10 16 15 ?_
  refine zpk 6 13 16 79 ?_
  refine ztk 4 11 16 95 ?_
  refine ztk 7 14 16 223 ?_
  refine zpk 8 15 16 479 ?_
  refine one_ (i := 5) (N := some 12) (zm 16 511) rfl rfl (by kernel_rfl) (by decide) (fun K hK => ?_)
  refine goes_ Tryz.func49 (by kernel_rfl) rfl #[.int .i64 2] (by rfl) rfl rfl (by simp only [List.map_toArray, List.map_cons, List.map_nil]; rfl) ?_
  refine (C5.out _).mono ?_
  rintro e w' ⟨rfl, hb⟩
  refine ⟨_, rfl, ?_⟩
  refine hK.out _ _ ⟨((hb.block _ (blk_lt hHeld.1)).trans hHeld.1), (pw_cell_below hb hHeld.2.1), (pw_cell_below hb hHeld.2.2.1), (below_step hHeld.2.2.2 hb)⟩ (fun hHeld => ?_)
  clear hK K
  refine norm_ (a' := ?_) ?_ ?_
  rotate_left
  · show Act.put _ (some 12) _ = _
    simp only [Act.put, List.setIfInBounds_toArray, List.set_cons_zero, List.set_cons_succ, i64_w, i32_w]
    rfl
  refine zpk 9 16 16 1023 ?_
  refine zpk 10 17 16 2047 ?_
  refine zpk 11 18 16 4095 ?_
  refine take_ (i := 12) (N := some 19) (v := _) (a' := ?_) (zm 16 8191) rfl rfl (by kernel_rfl) (fun _ _ _ h => h) (yieldsIf_load_mid (by rfl) 39 (.tmp 2) rfl gb 0 rfl cs _ (fun W h => range_ h.1) Tryz.underlying39 rfl (by rw [LC.out]; kernel_rfl)) hHeld ?_ ?_
  rotate_left
  · simp only [Act.put, List.setIfInBounds_toArray, List.set_cons_zero, List.set_cons_succ, i64_w, i32_w]
    rfl
  refine one_ (i := 13) (N := some 20) (zm 16 16383) rfl rfl (by kernel_rfl) (by decide) (fun K hK => ?_)
  refine goes_ Tryz.func50 (by kernel_rfl) rfl #[.agg cs.toArray] (by rfl) rfl rfl (by simp only [List.map_toArray, List.map_cons, List.map_nil]; rfl) ?_
  refine (C13.out _ hHeld.2.2.2).mono ?_
  rintro e w' ⟨rfl, hb⟩
  refine ⟨_, rfl, ?_⟩
  refine hK.out _ _ ⟨((hb.block _ (blk_lt hHeld.1)).trans hHeld.1), (pw_cell_below hb hHeld.2.1), (pw_cell_below hb hHeld.2.2.1), (below_step hHeld.2.2.2 hb)⟩ (fun hHeld => ?_)
  clear hK K
  refine norm_ (a' := ?_) ?_ ?_
  rotate_left
  · show Act.put _ (some 20) _ = _
    simp only [Act.put, List.setIfInBounds_toArray, List.set_cons_zero, List.set_cons_succ, i64_w, i32_w]
    rfl
  refine zpk 14 21 16 32767 ?_
  refine zpk 15 22 16 65535 ?_
  refine done_ (by kernel_rfl) ?_
  have X2 := Aside0.mk hHeld.1
  have B2 := Aside0.mk hHeld.2.2.2
  clear hHeld X1 B1
  have q0 := cell_of_range X2.out E0.out
  have q18 := cell_of_range X2.out E18.out
  go_wp2_with (first
    | ((with_reducible refine gate_dst (N := 38) rfl ?_); refine load_ 35 (.tmp 37) rfl rfl ⟨gb, 2, none⟩ ?hx (testCells x.f2) _ Tryz.underlying35 ?hi (sub_ X2.out _ _ _ HA.out) ?_; (case hx => first | rfl | (go_simp; done) | (go_simp; rfl)); (case hi => kernel_rfl))
    | (go_at_call 51; refine (CT.out _).mono ?_; rintro e w3 ⟨rfl, hB⟩; have X3 := Aside0.mk ((hB.block _ (blk_lt X2.out)).trans X2.out); have B3 := Aside0.mk (below_step B2.out hB); have q18k := zhs hB q18; clear hB))
  clear X2 B2 q0 q18
  go_loopw [5, 6] (fun v5 v6 wr => ∃ (b : Bool) (i : Nat), v5 = .bool b ∧ v6 = .int .i64 i ∧ i ≤ x.f9.length ∧ wr.cell? ⟨gb, 18, none⟩ = some (.slice A18 x.f9.length c18) ∧ Aside0 (Below w.heap.size w wr) ∧ Aside0 (sForm x (d + 1) = (b && sForms (x.f9.drop i) d))) (fun _ v6 _ => x.f9.length - (intOf v6).toNat)
  case atStart => exact ⟨r, 0, rfl, rfl, Nat.zero_le _, q18k, B3, ⟨by rw [SY.out, FO.out, List.drop_zero]⟩⟩
  case round =>
    obtain ⟨b, i, rfl, rfl, hi, q18, HB, HG⟩ := hrel
    clear q18k
    by_cases hlt : i < x.f9.length
    · cases b with
      | false =>
        have VV := Aside0.mk (HG.out.trans (Bool.false_and _))
        clear HG
        go_wp2
        go_ret
        exact ⟨by rw [VV.out]; rfl, HB.out⟩
      | true =>
        obtain ⟨ad, c0, e18, hcl, hK0, hcell⟩ := elem_ G18.out i hlt
        obtain rfl := e18
        have hsz := szs39_get hlt
        have LD := Aside0.mk (show c0.length = 19 from hcl)
        have HE := Aside0.mk hcell
        have CA := Aside0.mk (fun (W : World) (hb : Below w.heap.size w W) => IH.out (sz39 x.f9[i]) (by have := SK.out; omega) x.f9[i] c0 d W (Nat.le_refl _) (k39.K_below hb hK0) (K9.out _ (List.getElem_mem hlt)) (by omega))
        have GD := Aside0.mk (HG.out.trans (by rw [sForms_drop x.f9 d i hlt, Bool.true_and]))
        obtain ⟨r, hr⟩ : ∃ r, r = sForm x.f9[i] d := ⟨_, rfl⟩
        rw [← hr] at CA GD
        clear hK0 hcell hcl hsz HG hr
        go_wp2_with (first
          | ((with_reducible refine gate_dst (N := 89) rfl ?_); refine load_ 39 (.tmp 88) rfl rfl (ad.add (i * 19)) ?hx c0 _ Tryz.underlying39 ?hi (fun j v h => zhs HB.out (HE.out j v h)) ?_; (case hx => first | rfl | (go_simp; done) | (go_simp; rfl)); (case hi => rw [LD.out]; kernel_rfl))
          | (go_at_call 38; refine (CA.out _ HB.out).mono ?_; rintro e w6 ⟨rfl, hB⟩; have HB6 := Aside0.mk (below_step HB.out hB); have p18 := zhs hB q18; clear hB CA q18))
        go_roundw
        case rel => exact ⟨r, i + 1, rfl, by go_num, by omega, p18, HB6, GD⟩
        case measure => simp [intOf]; omega
    · have VV := Aside0.mk (HG.out.trans (by rw [sForms_end x.f9 d i (by omega), Bool.and_true]))
      clear HG
      go_wp2
      go_ret
      exact ⟨by rw [VV.out]; rfl, HB.out⟩
set_option maxHeartbeats 16000000 in
set_option maxRecDepth 100000 in
theorem l4Form_3 (N : Nat) (ih : ∀ m, m ≤ N → FoP m) (x : S39) (cs : List Value) (d : Nat) (w : World) (hK : k39.K w x cs) (hsm : Small39 x) (hd : d ≤ 1000) (hn : sz39 x ≤ N + 1) (hx : x.f0 = 3) (hk : kidsN x.f0 = x.f9.length) (hcl : cleanB x = true) :
    Calls Tryz.prog 38 #[.agg cs.toArray, .int .i64 (((d + 1 : Nat) : Int))] w fun e w' => e = .returned (.bool (sForm x (d + 1))) ∧ Below w.heap.size w w' := by
  have LC := Aside0.mk (show cs.length = 19 from k39.K_len hK)
  obtain ⟨A12, c12, A15, c15, A18, c18, hcs, l12, g12, l15, g15, l18, g18⟩ := k39_open hK
  have E0 := Aside0.mk (show cs[0]? = some (.int .i64 x.f0) by rw [hcs]; rfl)
  have E18 := Aside0.mk (show cs[18]? = some (.slice A18 x.f9.length c18) by rw [hcs]; rfl)
  have HK := Aside0.mk hK
  have FO := Aside0.mk (show fOk x = cellsB x.f3 6 from by unfold fOk; rw [hx]; rfl)
  have SY := Aside0.mk (sForm_yes (x := x) (d := d) hk hcl)
  have d1 : decide (((d + 1 : Nat) : Int) < 1) = false := decide_eq_false (by omega)
  have C5 := Aside0.mk (fun W => l4Kids_c x.f0 W)
  have C13 := Aside0.mk (fun (W : World) (hb : Below w.heap.size w W) => l4Clean_c x cs W (k39.K_below hb hK))
  rw [hk] at C5
  rw [hcl] at C13
  have b1 : ((x.f9.length : Int) != (x.f9.length : Int)) = false := by simp
  have G18 := Aside0.mk g18
  have SK := Aside0.mk (show szs39 x.f9 ≤ N by have := sz39_kids x; omega)
  have K9 := Aside0.mk hsm.out.2.2.2
  have S9 := hsm.out.2.2.1
  have IH := Aside0.mk ih
  have E12 := Aside0.mk (show cs[12]? = some (.slice A12 x.f3.length c12) by rw [hcs]; rfl)
  have S3 := Aside0.mk hsm.out.1
  have L12 := Aside0.mk l12
  have G12 := Aside0.mk g12
  obtain ⟨r, hr⟩ : ∃ r, r = cellsB x.f3 6 := ⟨_, rfl⟩
  have CT := Aside0.mk (fun W hr => l4Cells_c A12 c12 x.f3 6 W S3.out hr L12.out)
  rw [← hr] at CT FO
  clear hr
  rw [hx] at E0 C5
  clear hcs l12 g12 l15 g15 l18 g18 hK hsm hcl hn hk hx ih 
  go_enter Tryz.func38, Tryz.ntmps38
  go_wp2_with ((with_reducible refine gate_dst (N := 2) rfl ?_); refine box_ 39 (.tmp 0) rfl rfl cs.toArray rfl ?_; intro gb hg w1 hb hB; have X1 := Aside0.mk hb; have B1 := Aside0.mk hB; clear hb hB hg)
  refine start_ (n := 16) (S := fun w' => w'.heap[gb]? = some (.cells cs.toArray 39 (0, 0)) ∧ w'.cell? ⟨gb, 0, none⟩ = some (.int .i64 3) ∧ w'.cell? ⟨gb, 18, none⟩ = some (.slice A18 x.f9.length c18) ∧ Below w.heap.size w w') (ds := []) (zm 16 0) (by kernel_rfl) rfl rfl ⟨X1.out, (cell_of_range X1.out E0.out), (cell_of_range X1.out E18.out), (below_drew B1.out)⟩ (fun hHeld => ?_)
  refine zpk 0 7 16 1 ?_
  refine zpk 1 8 16 3 ?_
  refine zpk 2 9 16 7 ?_
  refine zpk 3 10 16 15 ?_
  refine zpk 6 13 16 79 ?_
  refine ztk 4 11 16 95 ?_
  refine ztk 7 14 16 223 ?_
  refine zpk 8 15 16 479 ?_
  refine one_ (i := 5) (N := some 12) (zm 16 511) rfl rfl (by kernel_rfl) (by decide) (fun K hK => ?_)
  refine goes_ Tryz.func49 (by kernel_rfl) rfl #[.int .i64 3] (by rfl) rfl rfl (by simp only [List.map_toArray, List.map_cons, List.map_nil]; rfl) ?_
  refine (C5.out _).mono ?_
  rintro e w' ⟨rfl, hb⟩
  refine ⟨_, rfl, ?_⟩
  refine hK.out _ _ ⟨((hb.block _ (blk_lt hHeld.1)).trans hHeld.1), (pw_cell_below hb hHeld.2.1), (pw_cell_below hb hHeld.2.2.1), (below_step hHeld.2.2.2 hb)⟩ (fun hHeld => ?_)
  clear hK K
  refine norm_ (a' := ?_) ?_ ?_
  rotate_left
  · show Act.put _ (some 12) _ = _
    simp only [Act.put, List.setIfInBounds_toArray, List.set_cons_zero, List.set_cons_succ, i64_w, i32_w]
    rfl
  refine zpk 9 16 16 1023 ?_
  refine zpk 10 17 16 2047 ?_
  refine zpk 11 18 16 4095 ?_
  refine take_ (i := 12) (N := some 19) (v := _) (a' := ?_) (zm 16 8191) rfl rfl (by kernel_rfl) (fun _ _ _ h => h) (yieldsIf_load_mid (by rfl) 39 (.tmp 2) rfl gb 0 rfl cs _ (fun W h => range_ h.1) Tryz.underlying39 rfl (by rw [LC.out]; kernel_rfl)) hHeld ?_ ?_
  rotate_left
  · simp only [Act.put, List.setIfInBounds_toArray, List.set_cons_zero, List.set_cons_succ, i64_w, i32_w]
    rfl
  refine one_ (i := 13) (N := some 20) (zm 16 16383) rfl rfl (by kernel_rfl) (by decide) (fun K hK => ?_)
  refine goes_ Tryz.func50 (by kernel_rfl) rfl #[.agg cs.toArray] (by rfl) rfl rfl (by simp only [List.map_toArray, List.map_cons, List.map_nil]; rfl) ?_
  refine (C13.out _ hHeld.2.2.2).mono ?_
  rintro e w' ⟨rfl, hb⟩
  refine ⟨_, rfl, ?_⟩
  refine hK.out _ _ ⟨((hb.block _ (blk_lt hHeld.1)).trans hHeld.1), (pw_cell_below hb hHeld.2.1), (pw_cell_below hb hHeld.2.2.1), (below_step hHeld.2.2.2 hb)⟩ (fun hHeld => ?_)
  clear hK K
  refine norm_ (a' := ?_) ?_ ?_
  rotate_left
  · show Act.put _ (some 20) _ = _
    simp only [Act.put, List.setIfInBounds_toArray, List.set_cons_zero, List.set_cons_succ, i64_w, i32_w]
    rfl
  refine zpk 14 21 16 32767 ?_
  refine zpk 15 22 16 65535 ?_
  refine done_ (by kernel_rfl) ?_
  have X2 := Aside0.mk hHeld.1
  have B2 := Aside0.mk hHeld.2.2.2
  clear hHeld X1 B1
  have q0 := cell_of_range X2.out E0.out
  have q18 := cell_of_range X2.out E18.out
  have qf3 := cell_of_range X2.out E12.out
  go_wp2_with (first
    | (go_at_call 52; refine (CT.out _ (Kd.C_below G12.out B2.out)).mono ?_; rintro e w3 ⟨rfl, hB⟩; have X3 := Aside0.mk ((hB.block _ (blk_lt X2.out)).trans X2.out); have B3 := Aside0.mk (below_step B2.out hB); have q18k := zhs hB q18; clear hB))
  clear X2 B2 q0 q18 qf3
  go_loopw [5, 6] (fun v5 v6 wr => ∃ (b : Bool) (i : Nat), v5 = .bool b ∧ v6 = .int .i64 i ∧ i ≤ x.f9.length ∧ wr.cell? ⟨gb, 18, none⟩ = some (.slice A18 x.f9.length c18) ∧ Aside0 (Below w.heap.size w wr) ∧ Aside0 (sForm x (d + 1) = (b && sForms (x.f9.drop i) d))) (fun _ v6 _ => x.f9.length - (intOf v6).toNat)
  case atStart => exact ⟨r, 0, rfl, rfl, Nat.zero_le _, q18k, B3, ⟨by rw [SY.out, FO.out, List.drop_zero]⟩⟩
  case round =>
    obtain ⟨b, i, rfl, rfl, hi, q18, HB, HG⟩ := hrel
    clear q18k
    by_cases hlt : i < x.f9.length
    · cases b with
      | false =>
        have VV := Aside0.mk (HG.out.trans (Bool.false_and _))
        clear HG
        go_wp2
        go_ret
        exact ⟨by rw [VV.out]; rfl, HB.out⟩
      | true =>
        obtain ⟨ad, c0, e18, hcl, hK0, hcell⟩ := elem_ G18.out i hlt
        obtain rfl := e18
        have hsz := szs39_get hlt
        have LD := Aside0.mk (show c0.length = 19 from hcl)
        have HE := Aside0.mk hcell
        have CA := Aside0.mk (fun (W : World) (hb : Below w.heap.size w W) => IH.out (sz39 x.f9[i]) (by have := SK.out; omega) x.f9[i] c0 d W (Nat.le_refl _) (k39.K_below hb hK0) (K9.out _ (List.getElem_mem hlt)) (by omega))
        have GD := Aside0.mk (HG.out.trans (by rw [sForms_drop x.f9 d i hlt, Bool.true_and]))
        obtain ⟨r, hr⟩ : ∃ r, r = sForm x.f9[i] d := ⟨_, rfl⟩
        rw [← hr] at CA GD
        clear hK0 hcell hcl hsz HG hr
        go_wp2_with (first
          | ((with_reducible refine gate_dst (N := 89) rfl ?_); refine load_ 39 (.tmp 88) rfl rfl (ad.add (i * 19)) ?hx c0 _ Tryz.underlying39 ?hi (fun j v h => zhs HB.out (HE.out j v h)) ?_; (case hx => first | rfl | (go_simp; done) | (go_simp; rfl)); (case hi => rw [LD.out]; kernel_rfl))
          | (go_at_call 38; refine (CA.out _ HB.out).mono ?_; rintro e w6 ⟨rfl, hB⟩; have HB6 := Aside0.mk (below_step HB.out hB); have p18 := zhs hB q18; clear hB CA q18))
        go_roundw
        case rel => exact ⟨r, i + 1, rfl, by go_num, by omega, p18, HB6, GD⟩
        case measure => simp [intOf]; omega
    · have VV := Aside0.mk (HG.out.trans (by rw [sForms_end x.f9 d i (by omega), Bool.and_true]))
      clear HG
      go_wp2
      go_ret
      exact ⟨by rw [VV.out]; rfl, HB.out⟩
set_option maxHeartbeats 16000000 in
set_option maxRecDepth 100000 in
theorem l4Form_4a (N : Nat) (ih : ∀ m, m ≤ N → FoP m) (x : S39) (cs : List Value) (d : Nat) (w : World) (hK : k39.K w x cs) (hsm : Small39 x) (hd : d ≤ 1000) (hn : sz39 x ≤ N + 1) (hx : x.f0 = 4) (hk : kidsN x.f0 = x.f9.length) (hcl : cleanB x = true) (h4 : colB x.f4 6 = false) :
    Calls Tryz.prog 38 #[.agg cs.toArray, .int .i64 (((d + 1 : Nat) : Int))] w fun e w' => e = .returned (.bool (sForm x (d + 1))) ∧ Below w.heap.size w w' := by
  have LC := Aside0.mk (show cs.length = 19 from k39.K_len hK)
  obtain ⟨A12, c12, A15, c15, A18, c18, hcs, l12, g12, l15, g15, l18, g18⟩ := k39_open hK
  have E0 := Aside0.mk (show cs[0]? = some (.int .i64 x.f0) by rw [hcs]; rfl)
  have E18 := Aside0.mk (show cs[18]? = some (.slice A18 x.f9.length c18) by rw [hcs]; rfl)
  have HK := Aside0.mk hK
  have FO := Aside0.mk (show fOk x = false from by unfold fOk; rw [hx]; rw [h4]; rfl)
  have SY := Aside0.mk (sForm_yes (x := x) (d := d) hk hcl)
  have d1 : decide (((d + 1 : Nat) : Int) < 1) = false := decide_eq_false (by omega)
  have C5 := Aside0.mk (fun W => l4Kids_c x.f0 W)
  have C13 := Aside0.mk (fun (W : World) (hb : Below w.heap.size w W) => l4Clean_c x cs W (k39.K_below hb hK))
  rw [hk] at C5
  rw [hcl] at C13
  have b1 : ((x.f9.length : Int) != (x.f9.length : Int)) = false := by simp
  have G18 := Aside0.mk g18
  have SK := Aside0.mk (show szs39 x.f9 ≤ N by have := sz39_kids x; omega)
  have K9 := Aside0.mk hsm.out.2.2.2
  have S9 := hsm.out.2.2.1
  have IH := Aside0.mk ih
  have E13 := Aside0.mk (show cs[13]? = some (.int .i64 x.f4) by rw [hcs]; rfl)
  have E14 := Aside0.mk (show cs[14]? = some (.int .i64 x.f5) by rw [hcs]; rfl)
  have C4 := Aside0.mk (fun W => l3Col_c x.f4 6 W)
  rw [h4] at C4
  rw [hx] at E0 C5
  clear hcs l12 g12 l15 g15 l18 g18 hK hsm hcl hn hk hx ih h4
  go_enter Tryz.func38, Tryz.ntmps38
  go_wp2_with ((with_reducible refine gate_dst (N := 2) rfl ?_); refine box_ 39 (.tmp 0) rfl rfl cs.toArray rfl ?_; intro gb hg w1 hb hB; have X1 := Aside0.mk hb; have B1 := Aside0.mk hB; clear hb hB hg)
  refine start_ (n := 16) (S := fun w' => w'.heap[gb]? = some (.cells cs.toArray 39 (0, 0)) ∧ w'.cell? ⟨gb, 0, none⟩ = some (.int .i64 4) ∧ w'.cell? ⟨gb, 18, none⟩ = some (.slice A18 x.f9.length c18) ∧ Below w.heap.size w w') (ds := []) (zm 16 0) (by kernel_rfl) rfl rfl ⟨X1.out, (cell_of_range X1.out E0.out), (cell_of_range X1.out E18.out), (below_drew B1.out)⟩ (fun hHeld => ?_)
  refine zpk 0 7 16 1 ?_
  refine zpk 1 8 16 3 ?_
  refine zpk 2 9 16 7 ?_
  refine zpk 3 10 16 15 ?_
  refine zpk 6 13 16 79 ?_
  refine ztk 4 11 16 95 ?_
  refine ztk 7 14 16 223 ?_
  refine zpk 8 15 16 479 ?_
  refine one_ (i := 5) (N := some 12) (zm 16 511) rfl rfl (by kernel_rfl) (by decide) (fun K hK => ?_)
  refine goes_ Tryz.func49 (by kernel_rfl) rfl #[.int .i64 4] (by rfl) rfl rfl (by simp only [List.map_toArray, List.map_cons, List.map_nil]; rfl) ?_
  refine (C5.out _).mono ?_
  rintro e w' ⟨rfl, hb⟩
  refine ⟨_, rfl, ?_⟩
  refine hK.out _ _ ⟨((hb.block _ (blk_lt hHeld.1)).trans hHeld.1), (pw_cell_below hb hHeld.2.1), (pw_cell_below hb hHeld.2.2.1), (below_step hHeld.2.2.2 hb)⟩ (fun hHeld => ?_)
  clear hK K
  refine norm_ (a' := ?_) ?_ ?_
  rotate_left
  · show Act.put _ (some 12) _ = _
    simp only [Act.put, List.setIfInBounds_toArray, List.set_cons_zero, List.set_cons_succ, i64_w, i32_w]
    rfl
  refine zpk 9 16 16 1023 ?_
  refine zpk 10 17 16 2047 ?_
  refine zpk 11 18 16 4095 ?_
  refine take_ (i := 12) (N := some 19) (v := _) (a' := ?_) (zm 16 8191) rfl rfl (by kernel_rfl) (fun _ _ _ h => h) (yieldsIf_load_mid (by rfl) 39 (.tmp 2) rfl gb 0 rfl cs _ (fun W h => range_ h.1) Tryz.underlying39 rfl (by rw [LC.out]; kernel_rfl)) hHeld ?_ ?_
  rotate_left
  · simp only [Act.put, List.setIfInBounds_toArray, List.set_cons_zero, List.set_cons_succ, i64_w, i32_w]
    rfl
  refine one_ (i := 13) (N := some 20) (zm 16 16383) rfl rfl (by kernel_rfl) (by decide) (fun K hK => ?_)
  refine goes_ Tryz.func50 (by kernel_rfl) rfl #[.agg cs.toArray] (by rfl) rfl rfl (by simp only [List.map_toArray, List.map_cons, List.map_nil]; rfl) ?_
  refine (C13.out _ hHeld.2.2.2).mono ?_
  rintro e w' ⟨rfl, hb⟩
  refine ⟨_, rfl, ?_⟩
  refine hK.out _ _ ⟨((hb.block _ (blk_lt hHeld.1)).trans hHeld.1), (pw_cell_below hb hHeld.2.1), (pw_cell_below hb hHeld.2.2.1), (below_step hHeld.2.2.2 hb)⟩ (fun hHeld => ?_)
  clear hK K
  refine norm_ (a' := ?_) ?_ ?_
  rotate_left
  · show Act.put _ (some 20) _ = _
    simp only [Act.put, List.setIfInBounds_toArray, List.set_cons_zero, List.set_cons_succ, i64_w, i32_w]
    rfl
  refine zpk 14 21 16 32767 ?_
  refine zpk 15 22 16 65535 ?_
  refine done_ (by kernel_rfl) ?_
  have X2 := Aside0.mk hHeld.1
  have B2 := Aside0.mk hHeld.2.2.2
  clear hHeld X1 B1
  have q0 := cell_of_range X2.out E0.out
  have q18 := cell_of_range X2.out E18.out
  have qf4 := cell_of_range X2.out E13.out
  have qf5 := cell_of_range X2.out E14.out
  go_wp2_with (first
    | (go_at_call 53; refine (C4.out _).mono ?_; rintro e w3 ⟨rfl, hB⟩; have X3 := Aside0.mk ((hB.block _ (blk_lt X2.out)).trans X2.out); have B3 := Aside0.mk (below_step B2.out hB); have q18k := zhs hB q18; clear hB C4))
  clear X2 B2 q0 q18 qf4 qf5
  go_loopw [5, 6] (fun v5 v6 wr => ∃ (b : Bool) (i : Nat), v5 = .bool b ∧ v6 = .int .i64 i ∧ i ≤ x.f9.length ∧ wr.cell? ⟨gb, 18, none⟩ = some (.slice A18 x.f9.length c18) ∧ Aside0 (Below w.heap.size w wr) ∧ Aside0 (sForm x (d + 1) = (b && sForms (x.f9.drop i) d))) (fun _ v6 _ => x.f9.length - (intOf v6).toNat)
  case atStart => exact ⟨false, 0, rfl, rfl, Nat.zero_le _, q18k, B3, ⟨by rw [SY.out, FO.out, List.drop_zero]⟩⟩
  case round =>
    obtain ⟨b, i, rfl, rfl, hi, q18, HB, HG⟩ := hrel
    clear q18k
    by_cases hlt : i < x.f9.length
    · cases b with
      | false =>
        have VV := Aside0.mk (HG.out.trans (Bool.false_and _))
        clear HG
        go_wp2
        go_ret
        exact ⟨by rw [VV.out]; rfl, HB.out⟩
      | true =>
        obtain ⟨ad, c0, e18, hcl, hK0, hcell⟩ := elem_ G18.out i hlt
        obtain rfl := e18
        have hsz := szs39_get hlt
        have LD := Aside0.mk (show c0.length = 19 from hcl)
        have HE := Aside0.mk hcell
        have CA := Aside0.mk (fun (W : World) (hb : Below w.heap.size w W) => IH.out (sz39 x.f9[i]) (by have := SK.out; omega) x.f9[i] c0 d W (Nat.le_refl _) (k39.K_below hb hK0) (K9.out _ (List.getElem_mem hlt)) (by omega))
        have GD := Aside0.mk (HG.out.trans (by rw [sForms_drop x.f9 d i hlt, Bool.true_and]))
        obtain ⟨r, hr⟩ : ∃ r, r = sForm x.f9[i] d := ⟨_, rfl⟩
        rw [← hr] at CA GD
        clear hK0 hcell hcl hsz HG hr
        go_wp2_with (first
          | ((with_reducible refine gate_dst (N := 89) rfl ?_); refine load_ 39 (.tmp 88) rfl rfl (ad.add (i * 19)) ?hx c0 _ Tryz.underlying39 ?hi (fun j v h => zhs HB.out (HE.out j v h)) ?_; (case hx => first | rfl | (go_simp; done) | (go_simp; rfl)); (case hi => rw [LD.out]; kernel_rfl))
          | (go_at_call 38; refine (CA.out _ HB.out).mono ?_; rintro e w6 ⟨rfl, hB⟩; have HB6 := Aside0.mk (below_step HB.out hB); have p18 := zhs hB q18; clear hB CA q18))
        go_roundw
        case rel => exact ⟨r, i + 1, rfl, by go_num, by omega, p18, HB6, GD⟩
        case measure => simp [intOf]; omega
    · have VV := Aside0.mk (HG.out.trans (by rw [sForms_end x.f9 d i (by omega), Bool.and_true]))
      clear HG
      go_wp2
      go_ret
      exact ⟨by rw [VV.out]; rfl, HB.out⟩
set_option maxHeartbeats 16000000 in
set_option maxRecDepth 100000 in
theorem l4Form_4b (N : Nat) (ih : ∀ m, m ≤ N → FoP m) (x : S39) (cs : List Value) (d : Nat) (w : World) (hK : k39.K w x cs) (hsm : Small39 x) (hd : d ≤ 1000) (hn : sz39 x ≤ N + 1) (hx : x.f0 = 4) (hk : kidsN x.f0 = x.f9.length) (hcl : cleanB x = true) (h4 : colB x.f4 6 = true) :
    Calls Tryz.prog 38 #[.agg cs.toArray, .int .i64 (((d + 1 : Nat) : Int))] w fun e w' => e = .returned (.bool (sForm x (d + 1))) ∧ Below w.heap.size w w' := by
  have LC := Aside0.mk (show cs.length = 19 from k39.K_len hK)
  obtain ⟨A12, c12, A15, c15, A18, c18, hcs, l12, g12, l15, g15, l18, g18⟩ := k39_open hK
  have E0 := Aside0.mk (show cs[0]? = some (.int .i64 x.f0) by rw [hcs]; rfl)
  have E18 := Aside0.mk (show cs[18]? = some (.slice A18 x.f9.length c18) by rw [hcs]; rfl)
  have HK := Aside0.mk hK
  have FO := Aside0.mk (show fOk x = colB x.f5 6 from by unfold fOk; rw [hx]; rw [h4]; rfl)
  have SY := Aside0.mk (sForm_yes (x := x) (d := d) hk hcl)
  have d1 : decide (((d + 1 : Nat) : Int) < 1) = false := decide_eq_false (by omega)
  have C5 := Aside0.mk (fun W => l4Kids_c x.f0 W)
  have C13 := Aside0.mk (fun (W : World) (hb : Below w.heap.size w W) => l4Clean_c x cs W (k39.K_below hb hK))
  rw [hk] at C5
  rw [hcl] at C13
  have b1 : ((x.f9.length : Int) != (x.f9.length : Int)) = false := by simp
  have G18 := Aside0.mk g18
  have SK := Aside0.mk (show szs39 x.f9 ≤ N by have := sz39_kids x; omega)
  have K9 := Aside0.mk hsm.out.2.2.2
  have S9 := hsm.out.2.2.1
  have IH := Aside0.mk ih
  have E13 := Aside0.mk (show cs[13]? = some (.int .i64 x.f4) by rw [hcs]; rfl)
  have E14 := Aside0.mk (show cs[14]? = some (.int .i64 x.f5) by rw [hcs]; rfl)
  have C4 := Aside0.mk (fun W => l3Col_c x.f4 6 W)
  rw [h4] at C4
  obtain ⟨r, hr⟩ : ∃ r, r = colB x.f5 6 := ⟨_, rfl⟩
  have C5b := Aside0.mk (fun W => l3Col_c x.f5 6 W)
  rw [← hr] at C5b FO
  clear hr
  rw [hx] at E0 C5
  clear hcs l12 g12 l15 g15 l18 g18 hK hsm hcl hn hk hx ih h4
  go_enter Tryz.func38, Tryz.ntmps38
  go_wp2_with ((with_reducible refine gate_dst (N := 2) rfl ?_); refine box_ 39 (.tmp 0) rfl rfl cs.toArray rfl ?_; intro gb hg w1 hb hB; have X1 := Aside0.mk hb; have B1 := Aside0.mk hB; clear hb hB hg)
  refine start_ (n := 16) (S := fun w' => w'.heap[gb]? = some (.cells cs.toArray 39 (0, 0)) ∧ w'.cell? ⟨gb, 0, none⟩ = some (.int .i64 4) ∧ w'.cell? ⟨gb, 18, none⟩ = some (.slice A18 x.f9.length c18) ∧ Below w.heap.size w w') (ds := []) (zm 16 0) (by kernel_rfl) rfl rfl ⟨X1.out, (cell_of_range X1.out E0.out), (cell_of_range X1.out E18.out), (below_drew B1.out)⟩ (fun hHeld => ?_)
  refine zpk 0 7 16 1 ?_
  refine zpk 1 8 16 3 ?_
  refine zpk 2 9 16 7 ?_
  refine zpk 3 10 16 15 ?_
  refine zpk 6 13 16 79 ?_
  refine ztk 4 11 16 95 ?_
  refine ztk 7 14 16 223 ?_
  refine zpk 8 15 16 479 ?_
  refine one_ (i := 5) (N := some 12) (zm 16 511) rfl rfl (by kernel_rfl) (by decide) (fun K hK => ?_)
  refine goes_ Tryz.func49 (by kernel_rfl) rfl #[.int .i64 4] (by rfl) rfl rfl (by simp only [List.map_toArray, List.map_cons, List.map_nil]; rfl) ?_
  refine (C5.out _).mono ?_
  rintro e w' ⟨rfl, hb⟩
  refine ⟨_, rfl, ?_⟩
  refine hK.out _ _ ⟨((hb.block _ (blk_lt hHeld.1)).trans hHeld.1), (pw_cell_below hb hHeld.2.1), (pw_cell_below hb hHeld.2.2.1), (below_step hHeld.2.2.2 hb)⟩ (fun hHeld => ?_)
  clear hK K
  refine norm_ (a' := ?_) ?_ ?_
  rotate_left
  · show Act.put _ (some 12) _ = _
    simp only [Act.put, List.setIfInBounds_toArray, List.set_cons_zero, List.set_cons_succ, i64_w, i32_w]
    rfl
  refine zpk 9 16 16 1023 ?_
  refine zpk 10 17 16 2047 ?_
  refine zpk 11 18 16 4095 ?_
  refine take_ (i := 12) (N := some 19) (v := _) (a' := ?_) (zm 16 8191) rfl rfl (by kernel_rfl) (fun _ _ _ h => h) (yieldsIf_load_mid (by rfl) 39 (.tmp 2) rfl gb 0 rfl cs _ (fun W h => range_ h.1) Tryz.underlying39 rfl (by rw [LC.out]; kernel_rfl)) hHeld ?_ ?_
  rotate_left
  · simp only [Act.put, List.setIfInBounds_toArray, List.set_cons_zero, List.set_cons_succ, i64_w, i32_w]
    rfl
  refine one_ (i := 13) (N := some 20) (zm 16 16383) rfl rfl (by kernel_rfl) (by decide) (fun K hK => ?_)
  refine goes_ Tryz.func50 (by kernel_rfl) rfl #[.agg cs.toArray] (by rfl) rfl rfl (by simp only [List.map_toArray, List.map_cons, List.map_nil]; rfl) ?_
  refine (C13.out _ hHeld.2.2.2).mono ?_
  rintro e w' ⟨rfl, hb⟩
  refine ⟨_, rfl, ?_⟩
  refine hK.out _ _ ⟨((hb.block _ (blk_lt hHeld.1)).trans hHeld.1), (pw_cell_below hb hHeld.2.1), (pw_cell_below hb hHeld.2.2.1), (below_step hHeld.2.2.2 hb)⟩ (fun hHeld => ?_)
  clear hK K
  refine norm_ (a' := ?_) ?_ ?_
  rotate_left
  · show Act.put _ (some 20) _ = _
    simp only [Act.put, List.setIfInBounds_toArray, List.set_cons_zero, List.set_cons_succ, i64_w, i32_w]
    rfl
  refine zpk 14 21 16 32767 ?_
  refine zpk 15 22 16 65535 ?_
  refine done_ (by kernel_rfl) ?_
  have X2 := Aside0.mk hHeld.1
  have B2 := Aside0.mk hHeld.2.2.2
  clear hHeld X1 B1
  have q0 := cell_of_range X2.out E0.out
  have q18 := cell_of_range X2.out E18.out
  have qf4 := cell_of_range X2.out E13.out
  have qf5 := cell_of_range X2.out E14.out
  go_wp2_with (first
    | (go_at_call 53; refine (C4.out _).mono ?_; rintro e w3 ⟨rfl, hB⟩; have X2b := Aside0.mk ((hB.block _ (blk_lt X2.out)).trans X2.out); have B2b := Aside0.mk (below_step B2.out hB); have q18k := zhs hB q18; have qf5k := zhs hB qf5; clear hB C4)
    | (go_at_call 53; refine (C5b.out _).mono ?_; rintro e w4 ⟨rfl, hB⟩; have X3 := Aside0.mk ((hB.block _ (blk_lt X2b.out)).trans X2b.out); have B3 := Aside0.mk (below_step B2b.out hB); have q18n := zhs hB q18k; clear hB q18k; have q18k := q18n; clear q18n))
  clear X2 B2 q0 q18 qf4 qf5
  go_loopw [5, 6] (fun v5 v6 wr => ∃ (b : Bool) (i : Nat), v5 = .bool b ∧ v6 = .int .i64 i ∧ i ≤ x.f9.length ∧ wr.cell? ⟨gb, 18, none⟩ = some (.slice A18 x.f9.length c18) ∧ Aside0 (Below w.heap.size w wr) ∧ Aside0 (sForm x (d + 1) = (b && sForms (x.f9.drop i) d))) (fun _ v6 _ => x.f9.length - (intOf v6).toNat)
  case atStart => exact ⟨r, 0, rfl, rfl, Nat.zero_le _, q18k, B3, ⟨by rw [SY.out, FO.out, List.drop_zero]⟩⟩
  case round =>
    obtain ⟨b, i, rfl, rfl, hi, q18, HB, HG⟩ := hrel
    clear q18k
    by_cases hlt : i < x.f9.length
    · cases b with
      | false =>
        have VV := Aside0.mk (HG.out.trans (Bool.false_and _))
        clear HG
        go_wp2
        go_ret
        exact ⟨by rw [VV.out]; rfl, HB.out⟩
      | true =>
        obtain ⟨ad, c0, e18, hcl, hK0, hcell⟩ := elem_ G18.out i hlt
        obtain rfl := e18
        have hsz := szs39_get hlt
        have LD := Aside0.mk (show c0.length = 19 from hcl)
        have HE := Aside0.mk hcell
        have CA := Aside0.mk (fun (W : World) (hb : Below w.heap.size w W) => IH.out (sz39 x.f9[i]) (by have := SK.out; omega) x.f9[i] c0 d W (Nat.le_refl _) (k39.K_below hb hK0) (K9.out _ (List.getElem_mem hlt)) (by omega))
        have GD := Aside0.mk (HG.out.trans (by rw [sForms_drop x.f9 d i hlt, Bool.true_and]))
        obtain ⟨r, hr⟩ : ∃ r, r = sForm x.f9[i] d := ⟨_, rfl⟩
        rw [← hr] at CA GD
        clear hK0 hcell hcl hsz HG hr
        go_wp2_with (first
          | ((with_reducible refine gate_dst (N := 89) rfl ?_); refine load_ 39 (.tmp 88) rfl rfl (ad.add (i * 19)) ?hx c0 _ Tryz.underlying39 ?hi (fun j v h => zhs HB.out (HE.out j v h)) ?_; (case hx => first | rfl | (go_simp; done) | (go_simp; rfl)); (case hi => rw [LD.out]; kernel_rfl))
          | (go_at_call 38; refine (CA.out _ HB.out).mono ?_; rintro e w6 ⟨rfl, hB⟩; have HB6 := Aside0.mk (below_step HB.out hB); have p18 := zhs hB q18; clear hB CA q18))
        go_roundw
        case rel => exact ⟨r, i + 1, rfl, by go_num, by omega, p18, HB6, GD⟩
        case measure => simp [intOf]; omega
    · have VV := Aside0.mk (HG.out.trans (by rw [sForms_end x.f9 d i (by omega), Bool.and_true]))
      clear HG
      go_wp2
      go_ret
      exact ⟨by rw [VV.out]; rfl, HB.out⟩
set_option maxHeartbeats 16000000 in
set_option maxRecDepth 100000 in
theorem l4Form_7a (N : Nat) (ih : ∀ m, m ≤ N → FoP m) (x : S39) (cs : List Value) (d : Nat) (w : World) (hK : k39.K w x cs) (hsm : Small39 x) (hd : d ≤ 1000) (hn : sz39 x ≤ N + 1) (hx : x.f0 = 7) (hk : kidsN x.f0 = x.f9.length) (hcl : cleanB x = true) (h6 : keysB x.f6 6 = false) :
    Calls Tryz.prog 38 #[.agg cs.toArray, .int .i64 (((d + 1 : Nat) : Int))] w fun e w' => e = .returned (.bool (sForm x (d + 1))) ∧ Below w.heap.size w w' := by
  have LC := Aside0.mk (show cs.length = 19 from k39.K_len hK)
  obtain ⟨A12, c12, A15, c15, A18, c18, hcs, l12, g12, l15, g15, l18, g18⟩ := k39_open hK
  have E0 := Aside0.mk (show cs[0]? = some (.int .i64 x.f0) by rw [hcs]; rfl)
  have E18 := Aside0.mk (show cs[18]? = some (.slice A18 x.f9.length c18) by rw [hcs]; rfl)
  have HK := Aside0.mk hK
  have FO := Aside0.mk (show fOk x = false from by unfold fOk; rw [hx]; rw [h6]; rfl)
  have SY := Aside0.mk (sForm_yes (x := x) (d := d) hk hcl)
  have d1 : decide (((d + 1 : Nat) : Int) < 1) = false := decide_eq_false (by omega)
  have C5 := Aside0.mk (fun W => l4Kids_c x.f0 W)
  have C13 := Aside0.mk (fun (W : World) (hb : Below w.heap.size w W) => l4Clean_c x cs W (k39.K_below hb hK))
  rw [hk] at C5
  rw [hcl] at C13
  have b1 : ((x.f9.length : Int) != (x.f9.length : Int)) = false := by simp
  have G18 := Aside0.mk g18
  have SK := Aside0.mk (show szs39 x.f9 ≤ N by have := sz39_kids x; omega)
  have K9 := Aside0.mk hsm.out.2.2.2
  have S9 := hsm.out.2.2.1
  have IH := Aside0.mk ih
  have E15 := Aside0.mk (show cs[15]? = some (.slice A15 x.f6.length c15) by rw [hcs]; rfl)
  have E16 := Aside0.mk (show cs[16]? = some (.int .i64 x.f7) by rw [hcs]; rfl)
  have E17 := Aside0.mk (show cs[17]? = some (.int .i64 x.f8) by rw [hcs]; rfl)
  have S6 := hsm.out.2.1
  have L15 := Aside0.mk l15
  have G15 := Aside0.mk g15
  have C6 := Aside0.mk (fun W hr => l4Keys_c A15 c15 x.f6 6 W S6 hr L15.out)
  rw [h6] at C6
  rw [hx] at E0 C5
  clear hcs l12 g12 l15 g15 l18 g18 hK hsm hcl hn hk hx ih h6
  go_enter Tryz.func38, Tryz.ntmps38
  go_wp2_with ((with_reducible refine gate_dst (N := 2) rfl ?_); refine box_ 39 (.tmp 0) rfl rfl cs.toArray rfl ?_; intro gb hg w1 hb hB; have X1 := Aside0.mk hb; have B1 := Aside0.mk hB; clear hb hB hg)
  refine start_ (n := 16) (S := fun w' => w'.heap[gb]? = some (.cells cs.toArray 39 (0, 0)) ∧ w'.cell? ⟨gb, 0, none⟩ = some (.int .i64 7) ∧ w'.cell? ⟨gb, 18, none⟩ = some (.slice A18 x.f9.length c18) ∧ Below w.heap.size w w') (ds := []) (zm 16 0) (by kernel_rfl) rfl rfl ⟨X1.out, (cell_of_range X1.out E0.out), (cell_of_range X1.out E18.out), (below_drew B1.out)⟩ (fun hHeld => ?_)
  refine zpk 0 7 16 1 ?_
  refine zpk 1 8 16 3 ?_
  refine zpk 2 9 16 7 ?_
  refine zpk 3 10 16 15 ?_
  refine zpk 6 13 16 79 ?_
  refine ztk 4 11 16 95 ?_
  refine ztk 7 14 16 223 ?_
  refine zpk 8 15 16 479 ?_
  refine one_ (i := 5) (N := some 12) (zm 16 511) rfl rfl (by kernel_rfl) (by decide) (fun K hK => ?_)
  refine goes_ Tryz.func49 (by kernel_rfl) rfl #[.int .i64 7] (by rfl) rfl rfl (by simp only [List.map_toArray, List.map_cons, List.map_nil]; rfl) ?_
  refine (C5.out _).mono ?_
  rintro e w' ⟨rfl, hb⟩
  refine ⟨_, rfl, ?_⟩
  refine hK.out _ _ ⟨((hb.block _ (blk_lt hHeld.1)).trans hHeld.1), (pw_cell_below hb hHeld.2.1), (pw_cell_below hb hHeld.2.2.1), (below_step hHeld.2.2.2 hb)⟩ (fun hHeld => ?_)
  clear hK K
  refine norm_ (a' := ?_) ?_ ?_
  rotate_left
  · show Act.put _ (some 12) _ = _
    simp only [Act.put, List.setIfInBounds_toArray, List.set_cons_zero, List.set_cons_succ, i64_w, i32_w]
    rfl
  refine zpk 9 16 16 1023 ?_
  refine zpk 10 17 16 2047 ?_
  refine zpk 11 18 16 4095 ?_
  refine take_ (i := 12) (N := some 19) (v := _) (a' := ?_) (zm 16 8191) rfl rfl (by kernel_rfl) (fun _ _ _ h => h) (yieldsIf_load_mid (by rfl) 39 (.tmp 2) rfl gb 0 rfl cs _ (fun W h => range_ h.1) Tryz.underlying39 rfl (by rw [LC.out]; kernel_rfl)) hHeld ?_ ?_
  rotate_left
  · simp only [Act.put, List.setIfInBounds_toArray, List.set_cons_zero, List.set_cons_succ, i64_w, i32_w]
    rfl
  refine one_ (i := 13) (N := some 20) (zm 16 16383) rfl rfl (by kernel_rfl) (by decide) (fun K hK => ?_)
  refine goes_ Tryz.func50 (by kernel_rfl) rfl #[.agg cs.toArray] (by rfl) rfl rfl (by simp only [List.map_toArray, List.map_cons, List.map_nil]; rfl) ?_
  refine (C13.out _ hHeld.2.2.2).mono ?_
  rintro e w' ⟨rfl, hb⟩
  refine ⟨_, rfl, ?_⟩
  refine hK.out _ _ ⟨((hb.block _ (blk_lt hHeld.1)).trans hHeld.1), (pw_cell_below hb hHeld.2.1), (pw_cell_below hb hHeld.2.2.1), (below_step hHeld.2.2.2 hb)⟩ (fun hHeld => ?_)
  clear hK K
  refine norm_ (a' := ?_) ?_ ?_
  rotate_left
  · show Act.put _ (some 20) _ = _
    simp only [Act.put, List.setIfInBounds_toArray, List.set_cons_zero, List.set_cons_succ, i64_w, i32_w]
    rfl
  refine zpk 14 21 16 32767 ?_
  refine zpk 15 22 16 65535 ?_
  refine done_ (by kernel_rfl) ?_
  have X2 := Aside0.mk hHeld.1
  have B2 := Aside0.mk hHeld.2.2.2
  clear hHeld X1 B1
  have q0 := cell_of_range X2.out E0.out
  have q18 := cell_of_range X2.out E18.out
  have qf6 := cell_of_range X2.out E15.out
  have qf7 := cell_of_range X2.out E16.out
  have qf8 := cell_of_range X2.out E17.out
  go_wp2_with (first
    | (go_at_call 54; refine (C6.out _ (Kd.C_below G15.out B2.out)).mono ?_; rintro e w3 ⟨rfl, hB⟩; have X3 := Aside0.mk ((hB.block _ (blk_lt X2.out)).trans X2.out); have B3 := Aside0.mk (below_step B2.out hB); have q18k := zhs hB q18; clear hB C6))
  clear X2 B2 q0 q18 qf6 qf7 qf8
  go_loopw [5, 6] (fun v5 v6 wr => ∃ (b : Bool) (i : Nat), v5 = .bool b ∧ v6 = .int .i64 i ∧ i ≤ x.f9.length ∧ wr.cell? ⟨gb, 18, none⟩ = some (.slice A18 x.f9.length c18) ∧ Aside0 (Below w.heap.size w wr) ∧ Aside0 (sForm x (d + 1) = (b && sForms (x.f9.drop i) d))) (fun _ v6 _ => x.f9.length - (intOf v6).toNat)
  case atStart => exact ⟨false, 0, rfl, rfl, Nat.zero_le _, q18k, B3, ⟨by rw [SY.out, FO.out, List.drop_zero]⟩⟩
  case round =>
    obtain ⟨b, i, rfl, rfl, hi, q18, HB, HG⟩ := hrel
    clear q18k
    by_cases hlt : i < x.f9.length
    · cases b with
      | false =>
        have VV := Aside0.mk (HG.out.trans (Bool.false_and _))
        clear HG
        go_wp2
        go_ret
        exact ⟨by rw [VV.out]; rfl, HB.out⟩
      | true =>
        obtain ⟨ad, c0, e18, hcl, hK0, hcell⟩ := elem_ G18.out i hlt
        obtain rfl := e18
        have hsz := szs39_get hlt
        have LD := Aside0.mk (show c0.length = 19 from hcl)
        have HE := Aside0.mk hcell
        have CA := Aside0.mk (fun (W : World) (hb : Below w.heap.size w W) => IH.out (sz39 x.f9[i]) (by have := SK.out; omega) x.f9[i] c0 d W (Nat.le_refl _) (k39.K_below hb hK0) (K9.out _ (List.getElem_mem hlt)) (by omega))
        have GD := Aside0.mk (HG.out.trans (by rw [sForms_drop x.f9 d i hlt, Bool.true_and]))
        obtain ⟨r, hr⟩ : ∃ r, r = sForm x.f9[i] d := ⟨_, rfl⟩
        rw [← hr] at CA GD
        clear hK0 hcell hcl hsz HG hr
        go_wp2_with (first
          | ((with_reducible refine gate_dst (N := 89) rfl ?_); refine load_ 39 (.tmp 88) rfl rfl (ad.add (i * 19)) ?hx c0 _ Tryz.underlying39 ?hi (fun j v h => zhs HB.out (HE.out j v h)) ?_; (case hx => first | rfl | (go_simp; done) | (go_simp; rfl)); (case hi => rw [LD.out]; kernel_rfl))
          | (go_at_call 38; refine (CA.out _ HB.out).mono ?_; rintro e w6 ⟨rfl, hB⟩; have HB6 := Aside0.mk (below_step HB.out hB); have p18 := zhs hB q18; clear hB CA q18))
        go_roundw
        case rel => exact ⟨r, i + 1, rfl, by go_num, by omega, p18, HB6, GD⟩
        case measure => simp [intOf]; omega
    · have VV := Aside0.mk (HG.out.trans (by rw [sForms_end x.f9 d i (by omega), Bool.and_true]))
      clear HG
      go_wp2
      go_ret
      exact ⟨by rw [VV.out]; rfl, HB.out⟩
set_option maxHeartbeats 16000000 in
set_option maxRecDepth 100000 in
theorem l4Form_7b (N : Nat) (ih : ∀ m, m ≤ N → FoP m) (x : S39) (cs : List Value) (d : Nat) (w : World) (hK : k39.K w x cs) (hsm : Small39 x) (hd : d ≤ 1000) (hn : sz39 x ≤ N + 1) (hx : x.f0 = 7) (hk : kidsN x.f0 = x.f9.length) (hcl : cleanB x = true) (h6 : keysB x.f6 6 = true) (h7 : x.f7 < 0) :
    Calls Tryz.prog 38 #[.agg cs.toArray, .int .i64 (((d + 1 : Nat) : Int))] w fun e w' => e = .returned (.bool (sForm x (d + 1))) ∧ Below w.heap.size w w' := by
  have LC := Aside0.mk (show cs.length = 19 from k39.K_len hK)
  obtain ⟨A12, c12, A15, c15, A18, c18, hcs, l12, g12, l15, g15, l18, g18⟩ := k39_open hK
  have E0 := Aside0.mk (show cs[0]? = some (.int .i64 x.f0) by rw [hcs]; rfl)
  have E18 := Aside0.mk (show cs[18]? = some (.slice A18 x.f9.length c18) by rw [hcs]; rfl)
  have HK := Aside0.mk hK
  have FO := Aside0.mk (show fOk x = false from by unfold fOk; rw [hx]; rw [h6, decide_eq_false (show ¬ 0 ≤ x.f7 by omega)]; rfl)
  have SY := Aside0.mk (sForm_yes (x := x) (d := d) hk hcl)
  have d1 : decide (((d + 1 : Nat) : Int) < 1) = false := decide_eq_false (by omega)
  have C5 := Aside0.mk (fun W => l4Kids_c x.f0 W)
  have C13 := Aside0.mk (fun (W : World) (hb : Below w.heap.size w W) => l4Clean_c x cs W (k39.K_below hb hK))
  rw [hk] at C5
  rw [hcl] at C13
  have b1 : ((x.f9.length : Int) != (x.f9.length : Int)) = false := by simp
  have G18 := Aside0.mk g18
  have SK := Aside0.mk (show szs39 x.f9 ≤ N by have := sz39_kids x; omega)
  have K9 := Aside0.mk hsm.out.2.2.2
  have S9 := hsm.out.2.2.1
  have IH := Aside0.mk ih
  have E15 := Aside0.mk (show cs[15]? = some (.slice A15 x.f6.length c15) by rw [hcs]; rfl)
  have E16 := Aside0.mk (show cs[16]? = some (.int .i64 x.f7) by rw [hcs]; rfl)
  have E17 := Aside0.mk (show cs[17]? = some (.int .i64 x.f8) by rw [hcs]; rfl)
  have S6 := hsm.out.2.1
  have L15 := Aside0.mk l15
  have G15 := Aside0.mk g15
  have C6 := Aside0.mk (fun W hr => l4Keys_c A15 c15 x.f6 6 W S6 hr L15.out)
  rw [h6] at C6
  have d7 : decide (0 ≤ x.f7) = false := decide_eq_false (by omega)
  rw [hx] at E0 C5
  clear hcs l12 g12 l15 g15 l18 g18 hK hsm hcl hn hk hx ih h6 h7
  go_enter Tryz.func38, Tryz.ntmps38
  go_wp2_with ((with_reducible refine gate_dst (N := 2) rfl ?_); refine box_ 39 (.tmp 0) rfl rfl cs.toArray rfl ?_; intro gb hg w1 hb hB; have X1 := Aside0.mk hb; have B1 := Aside0.mk hB; clear hb hB hg)
  refine start_ (n := 16) (S := fun w' => w'.heap[gb]? = some (.cells cs.toArray 39 (0, 0)) ∧ w'.cell? ⟨gb, 0, none⟩ = some (.int .i64 7) ∧ w'.cell? ⟨gb, 18, none⟩ = some (.slice A18 x.f9.length c18) ∧ Below w.heap.size w w') (ds := []) (zm 16 0) (by kernel_rfl) rfl rfl ⟨X1.out, (cell_of_range X1.out E0.out), (cell_of_range X1.out E18.out), (below_drew B1.out)⟩ (fun hHeld => ?_)
  refine zpk 0 7 16 1 ?_
  refine zpk 1 8 16 3 ?_
  refine zpk 2 9 16 7 ?_
  refine zpk 3 10 16 15 ?_
  refine zpk 6 13 16 79 ?_
  refine ztk 4 11 16 95 ?_
  refine ztk 7 14 16 223 ?_
  refine zpk 8 15 16 479 ?_
  refine one_ (i := 5) (N := some 12) (zm 16 511) rfl rfl (by kernel_rfl) (by decide) (fun K hK => ?_)
  refine goes_ Tryz.func49 (by kernel_rfl) rfl #[.int .i64 7] (by rfl) rfl rfl (by simp only [List.map_toArray, List.map_cons, List.map_nil]; rfl) ?_
  refine (C5.out _).mono ?_
  rintro e w' ⟨rfl, hb⟩
  refine ⟨_, rfl, ?_⟩
  refine hK.out _ _ ⟨((hb.block _ (blk_lt hHeld.1)).trans hHeld.1), (pw_cell_below hb hHeld.2.1), (pw_cell_below hb hHeld.2.2.1), (below_step hHeld.2.2.2 hb)⟩ (fun hHeld => ?_)
  clear hK K
  refine norm_ (a' := ?_) ?_ ?_
  rotate_left
  · show Act.put _ (some 12) _ = _
    simp only [Act.put, List.setIfInBounds_toArray, List.set_cons_zero, List.set_cons_succ, i64_w, i32_w]
    rfl
  refine zpk 9 16 16 1023 ?_
  refine zpk 10 17 16 2047 ?_
  refine zpk 11 18 16 4095 ?_
  refine take_ (i := 12) (N := some 19) (v := _) (a' := ?_) (zm 16 8191) rfl rfl (by kernel_rfl) (fun _ _ _ h => h) (yieldsIf_load_mid (by rfl) 39 (.tmp 2) rfl gb 0 rfl cs _ (fun W h => range_ h.1) Tryz.underlying39 rfl (by rw [LC.out]; kernel_rfl)) hHeld ?_ ?_
  rotate_left
  · simp only [Act.put, List.setIfInBounds_toArray, List.set_cons_zero, List.set_cons_succ, i64_w, i32_w]
    rfl
  refine one_ (i := 13) (N := some 20) (zm 16 16383) rfl rfl (by kernel_rfl) (by decide) (fun K hK => ?_)
  refine goes_ Tryz.func50 (by kernel_rfl) rfl #[.agg cs.toArray] (by rfl) rfl rfl (by simp only [List.map_toArray, List.map_cons, List.map_nil]; rfl) ?_
  refine (C13.out _ hHeld.2.2.2).mono ?_
  rintro e w' ⟨rfl, hb⟩
  refine ⟨_, rfl, ?_⟩
  refine hK.out _ _ ⟨((hb.block _ (blk_lt hHeld.1)).trans hHeld.1), (pw_cell_below hb hHeld.2.1), (pw_cell_below hb hHeld.2.2.1), (below_step hHeld.2.2.2 hb)⟩ (fun hHeld => ?_)
  clear hK K
  refine norm_ (a' := ?_) ?_ ?_
  rotate_left
  · show Act.put _ (some 20) _ = _
    simp only [Act.put, List.setIfInBounds_toArray, List.set_cons_zero, List.set_cons_succ, i64_w, i32_w]
    rfl
  refine zpk 14 21 16 32767 ?_
  refine zpk 15 22 16 65535 ?_
  refine done_ (by kernel_rfl) ?_
  have X2 := Aside0.mk hHeld.1
  have B2 := Aside0.mk hHeld.2.2.2
  clear hHeld X1 B1
  have q0 := cell_of_range X2.out E0.out
  have q18 := cell_of_range X2.out E18.out
  have qf6 := cell_of_range X2.out E15.out
  have qf7 := cell_of_range X2.out E16.out
  have qf8 := cell_of_range X2.out E17.out
  go_wp2_with (first
    | (go_at_call 54; refine (C6.out _ (Kd.C_below G15.out B2.out)).mono ?_; rintro e w3 ⟨rfl, hB⟩; have X3 := Aside0.mk ((hB.block _ (blk_lt X2.out)).trans X2.out); have B3 := Aside0.mk (below_step B2.out hB); have q18k := zhs hB q18; have qf7k := zhs hB qf7; clear hB C6))
  clear X2 B2 q0 q18 qf6 qf7 qf8
  go_loopw [5, 6] (fun v5 v6 wr => ∃ (b : Bool) (i : Nat), v5 = .bool b ∧ v6 = .int .i64 i ∧ i ≤ x.f9.length ∧ wr.cell? ⟨gb, 18, none⟩ = some (.slice A18 x.f9.length c18) ∧ Aside0 (Below w.heap.size w wr) ∧ Aside0 (sForm x (d + 1) = (b && sForms (x.f9.drop i) d))) (fun _ v6 _ => x.f9.length - (intOf v6).toNat)
  case atStart => exact ⟨false, 0, rfl, rfl, Nat.zero_le _, q18k, B3, ⟨by rw [SY.out, FO.out, List.drop_zero]⟩⟩
  case round =>
    obtain ⟨b, i, rfl, rfl, hi, q18, HB, HG⟩ := hrel
    clear q18k
    by_cases hlt : i < x.f9.length
    · cases b with
      | false =>
        have VV := Aside0.mk (HG.out.trans (Bool.false_and _))
        clear HG
        go_wp2
        go_ret
        exact ⟨by rw [VV.out]; rfl, HB.out⟩
      | true =>
        obtain ⟨ad, c0, e18, hcl, hK0, hcell⟩ := elem_ G18.out i hlt
        obtain rfl := e18
        have hsz := szs39_get hlt
        have LD := Aside0.mk (show c0.length = 19 from hcl)
        have HE := Aside0.mk hcell
        have CA := Aside0.mk (fun (W : World) (hb : Below w.heap.size w W) => IH.out (sz39 x.f9[i]) (by have := SK.out; omega) x.f9[i] c0 d W (Nat.le_refl _) (k39.K_below hb hK0) (K9.out _ (List.getElem_mem hlt)) (by omega))
        have GD := Aside0.mk (HG.out.trans (by rw [sForms_drop x.f9 d i hlt, Bool.true_and]))
        obtain ⟨r, hr⟩ : ∃ r, r = sForm x.f9[i] d := ⟨_, rfl⟩
        rw [← hr] at CA GD
        clear hK0 hcell hcl hsz HG hr
        go_wp2_with (first
          | ((with_reducible refine gate_dst (N := 89) rfl ?_); refine load_ 39 (.tmp 88) rfl rfl (ad.add (i * 19)) ?hx c0 _ Tryz.underlying39 ?hi (fun j v h => zhs HB.out (HE.out j v h)) ?_; (case hx => first | rfl | (go_simp; done) | (go_simp; rfl)); (case hi => rw [LD.out]; kernel_rfl))
          | (go_at_call 38; refine (CA.out _ HB.out).mono ?_; rintro e w6 ⟨rfl, hB⟩; have HB6 := Aside0.mk (below_step HB.out hB); have p18 := zhs hB q18; clear hB CA q18))
        go_roundw
        case rel => exact ⟨r, i + 1, rfl, by go_num, by omega, p18, HB6, GD⟩
        case measure => simp [intOf]; omega
    · have VV := Aside0.mk (HG.out.trans (by rw [sForms_end x.f9 d i (by omega), Bool.and_true]))
      clear HG
      go_wp2
      go_ret
      exact ⟨by rw [VV.out]; rfl, HB.out⟩
set_option maxHeartbeats 16000000 in
set_option maxRecDepth 100000 in
theorem l4Form_7c (N : Nat) (ih : ∀ m, m ≤ N → FoP m) (x : S39) (cs : List Value) (d : Nat) (w : World) (hK : k39.K w x cs) (hsm : Small39 x) (hd : d ≤ 1000) (hn : sz39 x ≤ N + 1) (hx : x.f0 = 7) (hk : kidsN x.f0 = x.f9.length) (hcl : cleanB x = true) (h6 : keysB x.f6 6 = true) (h7 : 0 ≤ x.f7) (h73 : 3 < x.f7) :
    Calls Tryz.prog 38 #[.agg cs.toArray, .int .i64 (((d + 1 : Nat) : Int))] w fun e w' => e = .returned (.bool (sForm x (d + 1))) ∧ Below w.heap.size w w' := by
  have LC := Aside0.mk (show cs.length = 19 from k39.K_len hK)
  obtain ⟨A12, c12, A15, c15, A18, c18, hcs, l12, g12, l15, g15, l18, g18⟩ := k39_open hK
  have E0 := Aside0.mk (show cs[0]? = some (.int .i64 x.f0) by rw [hcs]; rfl)
  have E18 := Aside0.mk (show cs[18]? = some (.slice A18 x.f9.length c18) by rw [hcs]; rfl)
  have HK := Aside0.mk hK
  have FO := Aside0.mk (show fOk x = false from by unfold fOk; rw [hx]; rw [h6, decide_eq_true h7, decide_eq_false (show ¬ x.f7 ≤ 3 by omega)]; rfl)
  have SY := Aside0.mk (sForm_yes (x := x) (d := d) hk hcl)
  have d1 : decide (((d + 1 : Nat) : Int) < 1) = false := decide_eq_false (by omega)
  have C5 := Aside0.mk (fun W => l4Kids_c x.f0 W)
  have C13 := Aside0.mk (fun (W : World) (hb : Below w.heap.size w W) => l4Clean_c x cs W (k39.K_below hb hK))
  rw [hk] at C5
  rw [hcl] at C13
  have b1 : ((x.f9.length : Int) != (x.f9.length : Int)) = false := by simp
  have G18 := Aside0.mk g18
  have SK := Aside0.mk (show szs39 x.f9 ≤ N by have := sz39_kids x; omega)
  have K9 := Aside0.mk hsm.out.2.2.2
  have S9 := hsm.out.2.2.1
  have IH := Aside0.mk ih
  have E15 := Aside0.mk (show cs[15]? = some (.slice A15 x.f6.length c15) by rw [hcs]; rfl)
  have E16 := Aside0.mk (show cs[16]? = some (.int .i64 x.f7) by rw [hcs]; rfl)
  have E17 := Aside0.mk (show cs[17]? = some (.int .i64 x.f8) by rw [hcs]; rfl)
  have S6 := hsm.out.2.1
  have L15 := Aside0.mk l15
  have G15 := Aside0.mk g15
  have C6 := Aside0.mk (fun W hr => l4Keys_c A15 c15 x.f6 6 W S6 hr L15.out)
  rw [h6] at C6
  have d7 : decide (0 ≤ x.f7) = true := decide_eq_true h7
  have d73 : decide (x.f7 ≤ 3) = false := decide_eq_false (by omega)
  rw [hx] at E0 C5
  clear hcs l12 g12 l15 g15 l18 g18 hK hsm hcl hn hk hx ih h6 h7 h73
  go_enter Tryz.func38, Tryz.ntmps38
  go_wp2_with ((with_reducible refine gate_dst (N := 2) rfl ?_); refine box_ 39 (.tmp 0) rfl rfl cs.toArray rfl ?_; intro gb hg w1 hb hB; have X1 := Aside0.mk hb; have B1 := Aside0.mk hB; clear hb hB hg)
  refine start_ (n := 16) (S := fun w' => w'.heap[gb]? = some (.cells cs.toArray 39 (0, 0)) ∧ w'.cell? ⟨gb, 0, none⟩ = some (.int .i64 7) ∧ w'.cell? ⟨gb, 18, none⟩ = some (.slice A18 x.f9.length c18) ∧ Below w.heap.size w w') (ds := []) (zm 16 0) (by kernel_rfl) rfl rfl ⟨X1.out, (cell_of_range X1.out E0.out), (cell_of_range X1.out E18.out), (below_drew B1.out)⟩ (fun hHeld => ?_)
  refine zpk 0 7 16 1 ?_
  refine zpk 1 8 16 3 ?_
  refine zpk 2 9 16 7 ?_
  refine zpk 3 10 16 15 ?_
  refine zpk 6 13 16 79 ?_
  refine ztk 4 11 16 95 ?_
  refine ztk 7 14 16 223 ?_
  refine zpk 8 15 16 479 ?_
  refine one_ (i := 5) (N := some 12) (zm 16 511) rfl rfl (by kernel_rfl) (by decide) (fun K hK => ?_)
  refine goes_ Tryz.func49 (by kernel_rfl) rfl #[.int .i64 7] (by rfl) rfl rfl (by simp only [List.map_toArray, List.map_cons, List.map_nil]; rfl) ?_
  refine (C5.out _).mono ?_
  rintro e w' ⟨rfl, hb⟩
  refine ⟨_, rfl, ?_⟩
  refine hK.out _ _ ⟨((hb.block _ (blk_lt hHeld.1)).trans hHeld.1), (pw_cell_below hb hHeld.2.1), (pw_cell_below hb hHeld.2.2.1), (below_step hHeld.2.2.2 hb)⟩ (fun hHeld => ?_)
  clear hK K
  refine norm_ (a' := ?_) ?_ ?_
  rotate_left
  · show Act.put _ (some 12) _ = _
    simp only [Act.put, List.setIfInBounds_toArray, List.set_cons_zero, List.set_cons_succ, i64_w, i32_w]
    rfl
  refine zpk 9 16 16 1023 ?_
  refine zpk 10 17 16 2047 ?_
  refine zpk 11 18 16 4095 ?_
  refine take_ (i := 12) (N := some 19) (v := _) (a' := ?_) (zm 16 8191) rfl rfl (by kernel_rfl) (fun _ _ _ h => h) (yieldsIf_load_mid (by rfl) 39 (.tmp 2) rfl gb 0 rfl cs _ (fun W h => range_ h.1) Tryz.underlying39 rfl (by rw [LC.out]; kernel_rfl)) hHeld ?_ ?_
  rotate_left
  · simp only [Act.put, List.setIfInBounds_toArray, List.set_cons_zero, List.set_cons_succ, i64_w, i32_w]
    rfl
  refine one_ (i := 13) (N := some 20) (zm 16 16383) rfl rfl (by kernel_rfl) (by decide) (fun K hK => ?_)
  refine goes_ Tryz.func50 (by kernel_rfl) rfl #[.agg cs.toArray] (by rfl) rfl rfl (by simp only [List.map_toArray, List.map_cons, List.map_nil]; rfl) ?_
  refine (C13.out _ hHeld.2.2.2).mono ?_
  rintro e w' ⟨rfl, hb⟩
  refine ⟨_, rfl, ?_⟩
  refine hK.out _ _ ⟨((hb.block _ (blk_lt hHeld.1)).trans hHeld.1), (pw_cell_below hb hHeld.2.1), (pw_cell_below hb hHeld.2.2.1), (below_step hHeld.2.2.2 hb)⟩ (fun hHeld => ?_)
  clear hK K
  refine norm_ (a' := ?_) ?_ ?_
  rotate_left
  · show Act.put _ (some 20) _ = _
    simp only [Act.put, List.setIfInBounds_toArray, List.set_cons_zero, List.set_cons_succ, i64_w, i32_w]
    rfl
  refine zpk 14 21 16 32767 ?_
  refine zpk 15 22 16 65535 ?_
  refine done_ (by kernel_rfl) ?_
  have X2 := Aside0.mk hHeld.1
  have B2 := Aside0.mk hHeld.2.2.2
  clear hHeld X1 B1
  have q0 := cell_of_range X2.out E0.out
  have q18 := cell_of_range X2.out E18.out
  have qf6 := cell_of_range X2.out E15.out
  have qf7 := cell_of_range X2.out E16.out
  have qf8 := cell_of_range X2.out E17.out
  go_wp2_with (first
    | (go_at_call 54; refine (C6.out _ (Kd.C_below G15.out B2.out)).mono ?_; rintro e w3 ⟨rfl, hB⟩; have X3 := Aside0.mk ((hB.block _ (blk_lt X2.out)).trans X2.out); have B3 := Aside0.mk (below_step B2.out hB); have q18k := zhs hB q18; have qf7k := zhs hB qf7; clear hB C6))
  clear X2 B2 q0 q18 qf6 qf7 qf8
  go_loopw [5, 6] (fun v5 v6 wr => ∃ (b : Bool) (i : Nat), v5 = .bool b ∧ v6 = .int .i64 i ∧ i ≤ x.f9.length ∧ wr.cell? ⟨gb, 18, none⟩ = some (.slice A18 x.f9.length c18) ∧ Aside0 (Below w.heap.size w wr) ∧ Aside0 (sForm x (d + 1) = (b && sForms (x.f9.drop i) d))) (fun _ v6 _ => x.f9.length - (intOf v6).toNat)
  case atStart => exact ⟨false, 0, rfl, rfl, Nat.zero_le _, q18k, B3, ⟨by rw [SY.out, FO.out, List.drop_zero]⟩⟩
  case round =>
    obtain ⟨b, i, rfl, rfl, hi, q18, HB, HG⟩ := hrel
    clear q18k
    by_cases hlt : i < x.f9.length
    · cases b with
      | false =>
        have VV := Aside0.mk (HG.out.trans (Bool.false_and _))
        clear HG
        go_wp2
        go_ret
        exact ⟨by rw [VV.out]; rfl, HB.out⟩
      | true =>
        obtain ⟨ad, c0, e18, hcl, hK0, hcell⟩ := elem_ G18.out i hlt
        obtain rfl := e18
        have hsz := szs39_get hlt
        have LD := Aside0.mk (show c0.length = 19 from hcl)
        have HE := Aside0.mk hcell
        have CA := Aside0.mk (fun (W : World) (hb : Below w.heap.size w W) => IH.out (sz39 x.f9[i]) (by have := SK.out; omega) x.f9[i] c0 d W (Nat.le_refl _) (k39.K_below hb hK0) (K9.out _ (List.getElem_mem hlt)) (by omega))
        have GD := Aside0.mk (HG.out.trans (by rw [sForms_drop x.f9 d i hlt, Bool.true_and]))
        obtain ⟨r, hr⟩ : ∃ r, r = sForm x.f9[i] d := ⟨_, rfl⟩
        rw [← hr] at CA GD
        clear hK0 hcell hcl hsz HG hr
        go_wp2_with (first
          | ((with_reducible refine gate_dst (N := 89) rfl ?_); refine load_ 39 (.tmp 88) rfl rfl (ad.add (i * 19)) ?hx c0 _ Tryz.underlying39 ?hi (fun j v h => zhs HB.out (HE.out j v h)) ?_; (case hx => first | rfl | (go_simp; done) | (go_simp; rfl)); (case hi => rw [LD.out]; kernel_rfl))
          | (go_at_call 38; refine (CA.out _ HB.out).mono ?_; rintro e w6 ⟨rfl, hB⟩; have HB6 := Aside0.mk (below_step HB.out hB); have p18 := zhs hB q18; clear hB CA q18))
        go_roundw
        case rel => exact ⟨r, i + 1, rfl, by go_num, by omega, p18, HB6, GD⟩
        case measure => simp [intOf]; omega
    · have VV := Aside0.mk (HG.out.trans (by rw [sForms_end x.f9 d i (by omega), Bool.and_true]))
      clear HG
      go_wp2
      go_ret
      exact ⟨by rw [VV.out]; rfl, HB.out⟩
set_option maxHeartbeats 16000000 in
set_option maxRecDepth 100000 in
theorem l4Form_7d (N : Nat) (ih : ∀ m, m ≤ N → FoP m) (x : S39) (cs : List Value) (d : Nat) (w : World) (hK : k39.K w x cs) (hsm : Small39 x) (hd : d ≤ 1000) (hn : sz39 x ≤ N + 1) (hx : x.f0 = 7) (hk : kidsN x.f0 = x.f9.length) (hcl : cleanB x = true) (h6 : keysB x.f6 6 = true) (h7 : 0 ≤ x.f7) (h73 : x.f7 ≤ 3) :
    Calls Tryz.prog 38 #[.agg cs.toArray, .int .i64 (((d + 1 : Nat) : Int))] w fun e w' => e = .returned (.bool (sForm x (d + 1))) ∧ Below w.heap.size w w' := by
  have LC := Aside0.mk (show cs.length = 19 from k39.K_len hK)
  obtain ⟨A12, c12, A15, c15, A18, c18, hcs, l12, g12, l15, g15, l18, g18⟩ := k39_open hK
  have E0 := Aside0.mk (show cs[0]? = some (.int .i64 x.f0) by rw [hcs]; rfl)
  have E18 := Aside0.mk (show cs[18]? = some (.slice A18 x.f9.length c18) by rw [hcs]; rfl)
  have HK := Aside0.mk hK
  have FO := Aside0.mk (show fOk x = colB x.f8 6 from by unfold fOk; rw [hx]; rw [h6, decide_eq_true h7, decide_eq_true h73]; rfl)
  have SY := Aside0.mk (sForm_yes (x := x) (d := d) hk hcl)
  have d1 : decide (((d + 1 : Nat) : Int) < 1) = false := decide_eq_false (by omega)
  have C5 := Aside0.mk (fun W => l4Kids_c x.f0 W)
  have C13 := Aside0.mk (fun (W : World) (hb : Below w.heap.size w W) => l4Clean_c x cs W (k39.K_below hb hK))
  rw [hk] at C5
  rw [hcl] at C13
  have b1 : ((x.f9.length : Int) != (x.f9.length : Int)) = false := by simp
  have G18 := Aside0.mk g18
  have SK := Aside0.mk (show szs39 x.f9 ≤ N by have := sz39_kids x; omega)
  have K9 := Aside0.mk hsm.out.2.2.2
  have S9 := hsm.out.2.2.1
  have IH := Aside0.mk ih
  have E15 := Aside0.mk (show cs[15]? = some (.slice A15 x.f6.length c15) by rw [hcs]; rfl)
  have E16 := Aside0.mk (show cs[16]? = some (.int .i64 x.f7) by rw [hcs]; rfl)
  have E17 := Aside0.mk (show cs[17]? = some (.int .i64 x.f8) by rw [hcs]; rfl)
  have S6 := hsm.out.2.1
  have L15 := Aside0.mk l15
  have G15 := Aside0.mk g15
  have C6 := Aside0.mk (fun W hr => l4Keys_c A15 c15 x.f6 6 W S6 hr L15.out)
  rw [h6] at C6
  have d7 : decide (0 ≤ x.f7) = true := decide_eq_true h7
  have d73 : decide (x.f7 ≤ 3) = true := decide_eq_true h73
  obtain ⟨r, hr⟩ : ∃ r, r = colB x.f8 6 := ⟨_, rfl⟩
  have C8 := Aside0.mk (fun W => l3Col_c x.f8 6 W)
  rw [← hr] at C8 FO
  clear hr
  rw [hx] at E0 C5
  clear hcs l12 g12 l15 g15 l18 g18 hK hsm hcl hn hk hx ih h6 h7 h73
  go_enter Tryz.func38, Tryz.ntmps38
  go_wp2_with ((with_reducible refine gate_dst (N := 2) rfl ?_); refine box_ 39 (.tmp 0) rfl rfl cs.toArray rfl ?_; intro gb hg w1 hb hB; have X1 := Aside0.mk hb; have B1 := Aside0.mk hB; clear hb hB hg)
  refine start_ (n := 16) (S := fun w' => w'.heap[gb]? = some (.cells cs.toArray 39 (0, 0)) ∧ w'.cell? ⟨gb, 0, none⟩ = some (.int .i64 7) ∧ w'.cell? ⟨gb, 18, none⟩ = some (.slice A18 x.f9.length c18) ∧ Below w.heap.size w w') (ds := []) (zm 16 0) (by kernel_rfl) rfl rfl ⟨X1.out, (cell_of_range X1.out E0.out), (cell_of_range X1.out E18.out), (below_drew B1.out)⟩ (fun hHeld => ?_)
  refine zpk 0 7 16 1 ?_
  refine zpk 1 8 16 3 ?_
  refine zpk 2 9 16 7 ?_
  refine zpk 3 10 16 15 ?_
  refine zpk 6 13 16 79 ?_
  refine ztk 4 11 16 95 ?_
  refine ztk 7 14 16 223 ?_
  refine zpk 8 15 16 479 ?_
  refine one_ (i := 5) (N := some 12) (zm 16 511) rfl rfl (by kernel_rfl) (by decide) (fun K hK => ?_)
  refine goes_ Tryz.func49 (by kernel_rfl) rfl #[.int .i64 7] (by rfl) rfl rfl (by simp only [List.map_toArray, List.map_cons, List.map_nil]; rfl) ?_
  refine (C5.out _).mono ?_
  rintro e w' ⟨rfl, hb⟩
  refine ⟨_, rfl, ?_⟩
  refine hK.out _ _ ⟨((hb.block _ (blk_lt hHeld.1)).trans hHeld.1), (pw_cell_below hb hHeld.2.1), (pw_cell_below hb hHeld.2.2.1), (below_step hHeld.2.2.2 hb)⟩ (fun hHeld => ?_)
  clear hK K
  refine norm_ (a' := ?_) ?_ ?_
  rotate_left
  · show Act.put _ (some 12) _ = _
    simp only [Act.put, List.setIfInBounds_toArray, List.set_cons_zero, List.set_cons_succ, i64_w, i32_w]
    rfl
  refine zpk 9 16 16 1023 ?_
  refine zpk 10 17 16 2047 ?_
  refine zpk 11 18 16 4095 ?_
  refine take_ (i := 12) (N := some 19) (v := _) (a' := ?_) (zm 16 8191) rfl rfl (by kernel_rfl) (fun _ _ _ h => h) (yieldsIf_load_mid (by rfl) 39 (.tmp 2) rfl gb 0 rfl cs _ (fun W h => range_ h.1) Tryz.underlying39 rfl (by rw [LC.out]; kernel_rfl)) hHeld ?_ ?_
  rotate_left
  · simp only [Act.put, List.setIfInBounds_toArray, List.set_cons_zero, List.set_cons_succ, i64_w, i32_w]
    rfl
  refine one_ (i := 13) (N := some 20) (zm 16 16383) rfl rfl (by kernel_rfl) (by decide) (fun K hK => ?_)
  refine goes_ Tryz.func50 (by kernel_rfl) rfl #[.agg cs.toArray] (by rfl) rfl rfl (by simp only [List.map_toArray, List.map_cons, List.map_nil]; rfl) ?_
  refine (C13.out _ hHeld.2.2.2).mono ?_
  rintro e w' ⟨rfl, hb⟩
  refine ⟨_, rfl, ?_⟩
  refine hK.out _ _ ⟨((hb.block _ (blk_lt hHeld.1)).trans hHeld.1), (pw_cell_below hb hHeld.2.1), (pw_cell_below hb hHeld.2.2.1), (below_step hHeld.2.2.2 hb)⟩ (fun hHeld => ?_)
  clear hK K
  refine norm_ (a' := ?_) ?_ ?_
  rotate_left
  · show Act.put _ (some 20) _ = _
    simp only [Act.put, List.setIfInBounds_toArray, List.set_cons_zero, List.set_cons_succ, i64_w, i32_w]
    rfl
  refine zpk 14 21 16 32767 ?_
  refine zpk 15 22 16 65535 ?_
  refine done_ (by kernel_rfl) ?_
  have X2 := Aside0.mk hHeld.1
  have B2 := Aside0.mk hHeld.2.2.2
  clear hHeld X1 B1
  have q0 := cell_of_range X2.out E0.out
  have q18 := cell_of_range X2.out E18.out
  have qf6 := cell_of_range X2.out E15.out
  have qf7 := cell_of_range X2.out E16.out
  have qf8 := cell_of_range X2.out E17.out
  go_wp2_with (first
    | (go_at_call 54; refine (C6.out _ (Kd.C_below G15.out B2.out)).mono ?_; rintro e w3 ⟨rfl, hB⟩; have X2b := Aside0.mk ((hB.block _ (blk_lt X2.out)).trans X2.out); have B2b := Aside0.mk (below_step B2.out hB); have q18k := zhs hB q18; have qf7k := zhs hB qf7; have qf8k := zhs hB qf8; clear hB C6)
    | (go_at_call 53; refine (C8.out _).mono ?_; rintro e w4 ⟨rfl, hB⟩; have X3 := Aside0.mk ((hB.block _ (blk_lt X2b.out)).trans X2b.out); have B3 := Aside0.mk (below_step B2b.out hB); have q18n := zhs hB q18k; clear hB q18k; have q18k := q18n; clear q18n))
  clear X2 B2 q0 q18 qf6 qf7 qf8
  go_loopw [5, 6] (fun v5 v6 wr => ∃ (b : Bool) (i : Nat), v5 = .bool b ∧ v6 = .int .i64 i ∧ i ≤ x.f9.length ∧ wr.cell? ⟨gb, 18, none⟩ = some (.slice A18 x.f9.length c18) ∧ Aside0 (Below w.heap.size w wr) ∧ Aside0 (sForm x (d + 1) = (b && sForms (x.f9.drop i) d))) (fun _ v6 _ => x.f9.length - (intOf v6).toNat)
  case atStart => exact ⟨r, 0, rfl, rfl, Nat.zero_le _, q18k, B3, ⟨by rw [SY.out, FO.out, List.drop_zero]⟩⟩
  case round =>
    obtain ⟨b, i, rfl, rfl, hi, q18, HB, HG⟩ := hrel
    clear q18k
    by_cases hlt : i < x.f9.length
    · cases b with
      | false =>
        have VV := Aside0.mk (HG.out.trans (Bool.false_and _))
        clear HG
        go_wp2
        go_ret
        exact ⟨by rw [VV.out]; rfl, HB.out⟩
      | true =>
        obtain ⟨ad, c0, e18, hcl, hK0, hcell⟩ := elem_ G18.out i hlt
        obtain rfl := e18
        have hsz := szs39_get hlt
        have LD := Aside0.mk (show c0.length = 19 from hcl)
        have HE := Aside0.mk hcell
        have CA := Aside0.mk (fun (W : World) (hb : Below w.heap.size w W) => IH.out (sz39 x.f9[i]) (by have := SK.out; omega) x.f9[i] c0 d W (Nat.le_refl _) (k39.K_below hb hK0) (K9.out _ (List.getElem_mem hlt)) (by omega))
        have GD := Aside0.mk (HG.out.trans (by rw [sForms_drop x.f9 d i hlt, Bool.true_and]))
        obtain ⟨r, hr⟩ : ∃ r, r = sForm x.f9[i] d := ⟨_, rfl⟩
        rw [← hr] at CA GD
        clear hK0 hcell hcl hsz HG hr
        go_wp2_with (first
          | ((with_reducible refine gate_dst (N := 89) rfl ?_); refine load_ 39 (.tmp 88) rfl rfl (ad.add (i * 19)) ?hx c0 _ Tryz.underlying39 ?hi (fun j v h => zhs HB.out (HE.out j v h)) ?_; (case hx => first | rfl | (go_simp; done) | (go_simp; rfl)); (case hi => rw [LD.out]; kernel_rfl))
          | (go_at_call 38; refine (CA.out _ HB.out).mono ?_; rintro e w6 ⟨rfl, hB⟩; have HB6 := Aside0.mk (below_step HB.out hB); have p18 := zhs hB q18; clear hB CA q18))
        go_roundw
        case rel => exact ⟨r, i + 1, rfl, by go_num, by omega, p18, HB6, GD⟩
        case measure => simp [intOf]; omega
    · have VV := Aside0.mk (HG.out.trans (by rw [sForms_end x.f9 d i (by omega), Bool.and_true]))
      clear HG
      go_wp2
      go_ret
      exact ⟨by rw [VV.out]; rfl, HB.out⟩
set_option maxHeartbeats 16000000 in
set_option maxRecDepth 100000 in
theorem l4Form_5 (N : Nat) (ih : ∀ m, m ≤ N → FoP m) (x : S39) (cs : List Value) (d : Nat) (w : World) (hK : k39.K w x cs) (hsm : Small39 x) (hd : d ≤ 1000) (hn : sz39 x ≤ N + 1) (hx : x.f0 = 5) (hk : kidsN x.f0 = x.f9.length) (hcl : cleanB x = true) :
    Calls Tryz.prog 38 #[.agg cs.toArray, .int .i64 (((d + 1 : Nat) : Int))] w fun e w' => e = .returned (.bool (sForm x (d + 1))) ∧ Below w.heap.size w w' := by
  have LC := Aside0.mk (show cs.length = 19 from k39.K_len hK)
  obtain ⟨A12, c12, A15, c15, A18, c18, hcs, l12, g12, l15, g15, l18, g18⟩ := k39_open hK
  have E0 := Aside0.mk (show cs[0]? = some (.int .i64 x.f0) by rw [hcs]; rfl)
  have E18 := Aside0.mk (show cs[18]? = some (.slice A18 x.f9.length c18) by rw [hcs]; rfl)
  have HK := Aside0.mk hK
  have FO := Aside0.mk (show fOk x = true from by unfold fOk; rw [hx]; rfl)
  have SY := Aside0.mk (sForm_yes (x := x) (d := d) hk hcl)
  have d1 : decide (((d + 1 : Nat) : Int) < 1) = false := decide_eq_false (by omega)
  have C5 := Aside0.mk (fun W => l4Kids_c x.f0 W)
  have C13 := Aside0.mk (fun (W : World) (hb : Below w.heap.size w W) => l4Clean_c x cs W (k39.K_below hb hK))
  rw [hk] at C5
  rw [hcl] at C13
  have b1 : ((x.f9.length : Int) != (x.f9.length : Int)) = false := by simp
  have G18 := Aside0.mk g18
  have SK := Aside0.mk (show szs39 x.f9 ≤ N by have := sz39_kids x; omega)
  have K9 := Aside0.mk hsm.out.2.2.2
  have S9 := hsm.out.2.2.1
  have IH := Aside0.mk ih

  rw [hx] at E0 C5
  clear hcs l12 g12 l15 g15 l18 g18 hK hsm hcl hn hk hx ih 
  go_enter Tryz.func38, Tryz.ntmps38
  go_wp2_with ((with_reducible refine gate_dst (N := 2) rfl ?_); refine box_ 39 (.tmp 0) rfl rfl cs.toArray rfl ?_; intro gb hg w1 hb hB; have X1 := Aside0.mk hb; have B1 := Aside0.mk hB; clear hb hB hg)
  refine start_ (n := 16) (S := fun w' => w'.heap[gb]? = some (.cells cs.toArray 39 (0, 0)) ∧ w'.cell? ⟨gb, 0, none⟩ = some (.int .i64 5) ∧ w'.cell? ⟨gb, 18, none⟩ = some (.slice A18 x.f9.length c18) ∧ Below w.heap.size w w') (ds := []) (zm 16 0) (by kernel_rfl) rfl rfl ⟨X1.out, (cell_of_range X1.out E0.out), (cell_of_range X1.out E18.out), (below_drew B1.out)⟩ (fun hHeld => ?_)
  refine zpk 0 7 16 1 ?_
  refine zpk 1 8 16 3 ?_
  refine zpk 2 9 16 7 ?_
  refine zpk 3 10 16 15 ?_
  refine zpk 6 13 16 79 ?_
  refine ztk 4 11 16 95 ?_
  refine ztk 7 14 16 223 ?_
  refine zpk 8 15 16 479 ?_
  refine one_ (i := 5) (N := some 12) (zm 16 511) rfl rfl (by kernel_rfl) (by decide) (fun K hK => ?_)
  refine goes_ Tryz.func49 (by kernel_rfl) rfl #[.int .i64 5] (by rfl) rfl rfl (by simp only [List.map_toArray, List.map_cons, List.map_nil]; rfl) ?_
  refine (C5.out _).mono ?_
  rintro e w' ⟨rfl, hb⟩
  refine ⟨_, rfl, ?_⟩
  refine hK.out _ _ ⟨((hb.block _ (blk_lt hHeld.1)).trans hHeld.1), (pw_cell_below hb hHeld.2.1), (pw_cell_below hb hHeld.2.2.1), (below_step hHeld.2.2.2 hb)⟩ (fun hHeld => ?_)
  clear hK K
  refine norm_ (a' := ?_) ?_ ?_
  rotate_left
  · show Act.put _ (some 12) _ = _
    simp only [Act.put, List.setIfInBounds_toArray, List.set_cons_zero, List.set_cons_succ, i64_w, i32_w]
    rfl
  refine zpk 9 16 16 1023 ?_
  refine zpk 10 17 16 2047 ?_
  refine zpk 11 18 16 4095 ?_
  refine take_ (i := 12) (N := some 19) (v := _) (a' := ?_) (zm 16 8191) rfl rfl (by kernel_rfl) (fun _ _ _ h => h) (yieldsIf_load_mid (by rfl) 39 (.tmp 2) rfl gb 0 rfl cs _ (fun W h => range_ h.1) Tryz.underlying39 rfl (by rw [LC.out]; kernel_rfl)) hHeld ?_ ?_
  rotate_left
  · simp only [Act.put, List.setIfInBounds_toArray, List.set_cons_zero, List.set_cons_succ, i64_w, i32_w]
    rfl
  refine one_ (i := 13) (N := some 20) (zm 16 16383) rfl rfl (by kernel_rfl) (by decide) (fun K hK => ?_)
  refine goes_ Tryz.func50 (by kernel_rfl) rfl #[.agg cs.toArray] (by rfl) rfl rfl (by simp only [List.map_toArray, List.map_cons, List.map_nil]; rfl) ?_
  refine (C13.out _ hHeld.2.2.2).mono ?_
  rintro e w' ⟨rfl, hb⟩
  refine ⟨_, rfl, ?_⟩
  refine hK.out _ _ ⟨((hb.block _ (blk_lt hHeld.1)).trans hHeld.1), (pw_cell_below hb hHeld.2.1), (pw_cell_below hb hHeld.2.2.1), (below_step hHeld.2.2.2 hb)⟩ (fun hHeld => ?_)
  clear hK K
  refine norm_ (a' := ?_) ?_ ?_
  rotate_left
  · show Act.put _ (some 20) _ = _
    simp only [Act.put, List.setIfInBounds_toArray, List.set_cons_zero, List.set_cons_succ, i64_w, i32_w]
    rfl
  refine zpk 14 21 16 32767 ?_
  refine zpk 15 22 16 65535 ?_
  refine done_ (by kernel_rfl) ?_
  have X2 := Aside0.mk hHeld.1
  have B2 := Aside0.mk hHeld.2.2.2
  clear hHeld X1 B1
  have q0 := cell_of_range X2.out E0.out
  have q18 := cell_of_range X2.out E18.out
  go_wp2
  have X3 := X2
  have B3 := B2
  have q18k := q18
  clear X2 B2 q0 q18
  go_loopw [5, 6] (fun v5 v6 wr => ∃ (b : Bool) (i : Nat), v5 = .bool b ∧ v6 = .int .i64 i ∧ i ≤ x.f9.length ∧ wr.cell? ⟨gb, 18, none⟩ = some (.slice A18 x.f9.length c18) ∧ Aside0 (Below w.heap.size w wr) ∧ Aside0 (sForm x (d + 1) = (b && sForms (x.f9.drop i) d))) (fun _ v6 _ => x.f9.length - (intOf v6).toNat)
  case atStart => exact ⟨true, 0, rfl, rfl, Nat.zero_le _, q18k, B3, ⟨by rw [SY.out, FO.out, List.drop_zero]⟩⟩
  case round =>
    obtain ⟨b, i, rfl, rfl, hi, q18, HB, HG⟩ := hrel
    clear q18k
    by_cases hlt : i < x.f9.length
    · cases b with
      | false =>
        have VV := Aside0.mk (HG.out.trans (Bool.false_and _))
        clear HG
        go_wp2
        go_ret
        exact ⟨by rw [VV.out]; rfl, HB.out⟩
      | true =>
        obtain ⟨ad, c0, e18, hcl, hK0, hcell⟩ := elem_ G18.out i hlt
        obtain rfl := e18
        have hsz := szs39_get hlt
        have LD := Aside0.mk (show c0.length = 19 from hcl)
        have HE := Aside0.mk hcell
        have CA := Aside0.mk (fun (W : World) (hb : Below w.heap.size w W) => IH.out (sz39 x.f9[i]) (by have := SK.out; omega) x.f9[i] c0 d W (Nat.le_refl _) (k39.K_below hb hK0) (K9.out _ (List.getElem_mem hlt)) (by omega))
        have GD := Aside0.mk (HG.out.trans (by rw [sForms_drop x.f9 d i hlt, Bool.true_and]))
        obtain ⟨r, hr⟩ : ∃ r, r = sForm x.f9[i] d := ⟨_, rfl⟩
        rw [← hr] at CA GD
        clear hK0 hcell hcl hsz HG hr
        go_wp2_with (first
          | ((with_reducible refine gate_dst (N := 89) rfl ?_); refine load_ 39 (.tmp 88) rfl rfl (ad.add (i * 19)) ?hx c0 _ Tryz.underlying39 ?hi (fun j v h => zhs HB.out (HE.out j v h)) ?_; (case hx => first | rfl | (go_simp; done) | (go_simp; rfl)); (case hi => rw [LD.out]; kernel_rfl))
          | (go_at_call 38; refine (CA.out _ HB.out).mono ?_; rintro e w6 ⟨rfl, hB⟩; have HB6 := Aside0.mk (below_step HB.out hB); have p18 := zhs hB q18; clear hB CA q18))
        go_roundw
        case rel => exact ⟨r, i + 1, rfl, by go_num, by omega, p18, HB6, GD⟩
        case measure => simp [intOf]; omega
    · have VV := Aside0.mk (HG.out.trans (by rw [sForms_end x.f9 d i (by omega), Bool.and_true]))
      clear HG
      go_wp2
      go_ret
      exact ⟨by rw [VV.out]; rfl, HB.out⟩
set_option maxHeartbeats 16000000 in
set_option maxRecDepth 100000 in
theorem l4Form_6 (N : Nat) (ih : ∀ m, m ≤ N → FoP m) (x : S39) (cs : List Value) (d : Nat) (w : World) (hK : k39.K w x cs) (hsm : Small39 x) (hd : d ≤ 1000) (hn : sz39 x ≤ N + 1) (hx : x.f0 = 6) (hk : kidsN x.f0 = x.f9.length) (hcl : cleanB x = true) :
    Calls Tryz.prog 38 #[.agg cs.toArray, .int .i64 (((d + 1 : Nat) : Int))] w fun e w' => e = .returned (.bool (sForm x (d + 1))) ∧ Below w.heap.size w w' := by
  have LC := Aside0.mk (show cs.length = 19 from k39.K_len hK)
  obtain ⟨A12, c12, A15, c15, A18, c18, hcs, l12, g12, l15, g15, l18, g18⟩ := k39_open hK
  have E0 := Aside0.mk (show cs[0]? = some (.int .i64 x.f0) by rw [hcs]; rfl)
  have E18 := Aside0.mk (show cs[18]? = some (.slice A18 x.f9.length c18) by rw [hcs]; rfl)
  have HK := Aside0.mk hK
  have FO := Aside0.mk (show fOk x = true from by unfold fOk; rw [hx]; rfl)
  have SY := Aside0.mk (sForm_yes (x := x) (d := d) hk hcl)
  have d1 : decide (((d + 1 : Nat) : Int) < 1) = false := decide_eq_false (by omega)
  have C5 := Aside0.mk (fun W => l4Kids_c x.f0 W)
  have C13 := Aside0.mk (fun (W : World) (hb : Below w.heap.size w W) => l4Clean_c x cs W (k39.K_below hb hK))
  rw [hk] at C5
  rw [hcl] at C13
  have b1 : ((x.f9.length : Int) != (x.f9.length : Int)) = false := by simp
  have G18 := Aside0.mk g18
  have SK := Aside0.mk (show szs39 x.f9 ≤ N by have := sz39_kids x; omega)
  have K9 := Aside0.mk hsm.out.2.2.2
  have S9 := hsm.out.2.2.1
  have IH := Aside0.mk ih

  rw [hx] at E0 C5
  clear hcs l12 g12 l15 g15 l18 g18 hK hsm hcl hn hk hx ih 
  go_enter Tryz.func38, Tryz.ntmps38
  go_wp2_with ((with_reducible refine gate_dst (N := 2) rfl ?_); refine box_ 39 (.tmp 0) rfl rfl cs.toArray rfl ?_; intro gb hg w1 hb hB; have X1 := Aside0.mk hb; have B1 := Aside0.mk hB; clear hb hB hg)
  refine start_ (n := 16) (S := fun w' => w'.heap[gb]? = some (.cells cs.toArray 39 (0, 0)) ∧ w'.cell? ⟨gb, 0, none⟩ = some (.int .i64 6) ∧ w'.cell? ⟨gb, 18, none⟩ = some (.slice A18 x.f9.length c18) ∧ Below w.heap.size w w') (ds := []) (zm 16 0) (by kernel_rfl) rfl rfl ⟨X1.out, (cell_of_range X1.out E0.out), (cell_of_range X1.out E18.out), (below_drew B1.out)⟩ (fun hHeld => ?_)
  refine zpk 0 7 16 1 ?_
  refine zpk 1 8 16 3 ?_
  refine zpk 2 9 16 7 ?_
  refine zpk 3 10 16 15 ?_
  refine zpk 6 13 16 79 ?_
  refine ztk 4 11 16 95 ?_
  refine ztk 7 14 16 223 ?_
  refine zpk 8 15 16 479 ?_
  refine one_ (i := 5) (N := some 12) (zm 16 511) rfl rfl (by kernel_rfl) (by decide) (fun K hK => ?_)
  refine goes_ Tryz.func49 (by kernel_rfl) rfl #[.int .i64 6] (by rfl) rfl rfl (by simp only [List.map_toArray, List.map_cons, List.map_nil]; rfl) ?_
  refine (C5.out _).mono ?_
  rintro e w' ⟨rfl, hb⟩
  refine ⟨_, rfl, ?_⟩
  refine hK.out _ _ ⟨((hb.block _ (blk_lt hHeld.1)).trans hHeld.1), (pw_cell_below hb hHeld.2.1), (pw_cell_below hb hHeld.2.2.1), (below_step hHeld.2.2.2 hb)⟩ (fun hHeld => ?_)
  clear hK K
  refine norm_ (a' := ?_) ?_ ?_
  rotate_left
  · show Act.put _ (some 12) _ = _
    simp only [Act.put, List.setIfInBounds_toArray, List.set_cons_zero, List.set_cons_succ, i64_w, i32_w]
    rfl
  refine zpk 9 16 16 1023 ?_
  refine zpk 10 17 16 2047 ?_
  refine zpk 11 18 16 4095 ?_
  refine take_ (i := 12) (N := some 19) (v := _) (a' := ?_) (zm 16 8191) rfl rfl (by kernel_rfl) (fun _ _ _ h => h) (yieldsIf_load_mid (by rfl) 39 (.tmp 2) rfl gb 0 rfl cs _ (fun W h => range_ h.1) Tryz.underlying39 rfl (by rw [LC.out]; kernel_rfl)) hHeld ?_ ?_
  rotate_left
  · simp only [Act.put, List.setIfInBounds_toArray, List.set_cons_zero, List.set_cons_succ, i64_w, i32_w]
    rfl
  refine one_ (i := 13) (N := some 20) (zm 16 16383) rfl rfl (by kernel_rfl) (by decide) (fun K hK => ?_)
  refine goes_ Tryz.func50 (by kernel_rfl) rfl #[.agg cs.toArray] (by rfl) rfl rfl (by simp only [List.map_toArray, List.map_cons, List.map_nil]; rfl) ?_
  refine (C13.out _ hHeld.2.2.2).mono ?_
  rintro e w' ⟨rfl, hb⟩
  refine ⟨_, rfl, ?_⟩
  refine hK.out _ _ ⟨((hb.block _ (blk_lt hHeld.1)).trans hHeld.1), (pw_cell_below hb hHeld.2.1), (pw_cell_below hb hHeld.2.2.1), (below_step hHeld.2.2.2 hb)⟩ (fun hHeld => ?_)
  clear hK K
  refine norm_ (a' := ?_) ?_ ?_
  rotate_left
  · show Act.put _ (some 20) _ = _
    simp only [Act.put, List.setIfInBounds_toArray, List.set_cons_zero, List.set_cons_succ, i64_w, i32_w]
    rfl
  refine zpk 14 21 16 32767 ?_
  refine zpk 15 22 16 65535 ?_
  refine done_ (by kernel_rfl) ?_
  have X2 := Aside0.mk hHeld.1
  have B2 := Aside0.mk hHeld.2.2.2
  clear hHeld X1 B1
  have q0 := cell_of_range X2.out E0.out
  have q18 := cell_of_range X2.out E18.out
  go_wp2
  have X3 := X2
  have B3 := B2
  have q18k := q18
  clear X2 B2 q0 q18
  go_loopw [5, 6] (fun v5 v6 wr => ∃ (b : Bool) (i : Nat), v5 = .bool b ∧ v6 = .int .i64 i ∧ i ≤ x.f9.length ∧ wr.cell? ⟨gb, 18, none⟩ = some (.slice A18 x.f9.length c18) ∧ Aside0 (Below w.heap.size w wr) ∧ Aside0 (sForm x (d + 1) = (b && sForms (x.f9.drop i) d))) (fun _ v6 _ => x.f9.length - (intOf v6).toNat)
  case atStart => exact ⟨true, 0, rfl, rfl, Nat.zero_le _, q18k, B3, ⟨by rw [SY.out, FO.out, List.drop_zero]⟩⟩
  case round =>
    obtain ⟨b, i, rfl, rfl, hi, q18, HB, HG⟩ := hrel
    clear q18k
    by_cases hlt : i < x.f9.length
    · cases b with
      | false =>
        have VV := Aside0.mk (HG.out.trans (Bool.false_and _))
        clear HG
        go_wp2
        go_ret
        exact ⟨by rw [VV.out]; rfl, HB.out⟩
      | true =>
        obtain ⟨ad, c0, e18, hcl, hK0, hcell⟩ := elem_ G18.out i hlt
        obtain rfl := e18
        have hsz := szs39_get hlt
        have LD := Aside0.mk (show c0.length = 19 from hcl)
        have HE := Aside0.mk hcell
        have CA := Aside0.mk (fun (W : World) (hb : Below w.heap.size w W) => IH.out (sz39 x.f9[i]) (by have := SK.out; omega) x.f9[i] c0 d W (Nat.le_refl _) (k39.K_below hb hK0) (K9.out _ (List.getElem_mem hlt)) (by omega))
        have GD := Aside0.mk (HG.out.trans (by rw [sForms_drop x.f9 d i hlt, Bool.true_and]))
        obtain ⟨r, hr⟩ : ∃ r, r = sForm x.f9[i] d := ⟨_, rfl⟩
        rw [← hr] at CA GD
        clear hK0 hcell hcl hsz HG hr
        go_wp2_with (first
          | ((with_reducible refine gate_dst (N := 89) rfl ?_); refine load_ 39 (.tmp 88) rfl rfl (ad.add (i * 19)) ?hx c0 _ Tryz.underlying39 ?hi (fun j v h => zhs HB.out (HE.out j v h)) ?_; (case hx => first | rfl | (go_simp; done) | (go_simp; rfl)); (case hi => rw [LD.out]; kernel_rfl))
          | (go_at_call 38; refine (CA.out _ HB.out).mono ?_; rintro e w6 ⟨rfl, hB⟩; have HB6 := Aside0.mk (below_step HB.out hB); have p18 := zhs hB q18; clear hB CA q18))
        go_roundw
        case rel => exact ⟨r, i + 1, rfl, by go_num, by omega, p18, HB6, GD⟩
        case measure => simp [intOf]; omega
    · have VV := Aside0.mk (HG.out.trans (by rw [sForms_end x.f9 d i (by omega), Bool.and_true]))
      clear HG
      go_wp2
      go_ret
      exact ⟨by rw [VV.out]; rfl, HB.out⟩
end Pl

end Go.Proofs.YtlpgnkndjmfcjaaGreat.PFnPlanUses
