/- The given specification's l4Wide, a kind at a time. -/
import Derived.Test.YtlpgnkndjmfcjaaGreatPlHeight
namespace Go.Proofs.YtlpgnkndjmfcjaaGreat.PFnPlanUses
open Go.RowKit Go.Proofs.YtlpgnkndjmfcjaaGreatW.PrintWords Go.Proofs.YtlpgnkndjmfcjaaGreatW.PrintLast Go.Proofs.YtlpgnkndjmfcjaaGreatW.PrintMore
attribute [local go_sem] max2_int min2_int max_two min_two max_three min_three max_four min_four   -- for this text's walks alone
set_option linter.unusedVariables false
set_option linter.unusedSimpArgs false
namespace Pl
/-- what a part comes to: its width, if it is ok and from 1 to 6 -/
def finB (ok : Bool) (v : Int) : Int := if ok = true ∧ 1 ≤ v ∧ v ≤ 6 then v else -1
def okS (x : S39) (t ws : List Int) : Bool :=
  if x.f0 = 1 then decide (0 ≤ x.f1 ∧ x.f1 < t.length)
  else if x.f0 = 2 then testB' x.f2 (rd ws 0)
  else if x.f0 = 3 then cellsB x.f3 (rd ws 0)
  else if x.f0 = 4 then colB x.f4 (rd ws 0) && colB x.f5 (rd ws 1)
  else if x.f0 = 5 then decide (rd ws 0 = rd ws 1)
  else if x.f0 = 6 then true
  else keysB x.f6 (rd ws 0) && decide (0 ≤ x.f7) && decide (x.f7 ≤ 3) && colB x.f8 (rd ws 0)
def wS (x : S39) (t ws : List Int) : Int :=
  if x.f0 = 1 then rd t x.f1
  else if x.f0 = 2 then rd ws 0
  else if x.f0 = 3 then (x.f3.length : Int)
  else if x.f0 = 4 then wrap64 (rd ws 0 + rd ws 1)
  else if x.f0 = 5 then rd ws 0
  else if x.f0 = 6 then rd ws 0
  else (x.f6.length : Int) + 1
mutual
/-- l4Wide -/
def sWide (t : List Int) : S39 → Nat → Int
  | ⟨a, b, ts, cells, c, d, keys, e, f, ks⟩, deep =>
    if deep = 0 ∨ kidsN a ≠ ks.length ∨ cleanB ⟨a, b, ts, cells, c, d, keys, e, f, ks⟩ = false then -1
    else match sWides t ks (deep - 1) with
      | none => -1
      | some ws => finB (okS ⟨a, b, ts, cells, c, d, keys, e, f, ks⟩ t ws) (wS ⟨a, b, ts, cells, c, d, keys, e, f, ks⟩ t ws)
def sWides (t : List Int) : List S39 → Nat → Option (List Int)
  | [], _ => some []
  | k :: ks, deep => if sWide t k deep < 1 then none else (sWides t ks deep).map (fun ws => sWide t k deep :: ws)
end
theorem sWide_eq (t : List Int) (x : S39) (d : Nat) : sWide t x d = if d = 0 ∨ kidsN x.f0 ≠ x.f9.length ∨ cleanB x = false then -1 else match sWides t x.f9 (d - 1) with | none => -1 | some ws => finB (okS x t ws) (wS x t ws) := by cases x; rfl
theorem sWide_no {t : List Int} {x : S39} {d : Nat} (h : d = 0 ∨ kidsN x.f0 ≠ x.f9.length ∨ cleanB x = false) : sWide t x d = -1 := by rw [sWide_eq, if_pos h]
theorem sWide_none {t : List Int} {x : S39} {d : Nat} (h2 : sWides t x.f9 d = none) : sWide t x (d + 1) = -1 := by
  rw [sWide_eq]; split
  · rfl
  · rw [Nat.add_sub_cancel, h2]
theorem sWide_some {t : List Int} {x : S39} {d : Nat} {ws : List Int} (h1 : kidsN x.f0 = x.f9.length) (hc : cleanB x = true) (h2 : sWides t x.f9 d = some ws) : sWide t x (d + 1) = finB (okS x t ws) (wS x t ws) := by
  rw [sWide_eq, if_neg (by simp [h1, hc]), Nat.add_sub_cancel, h2]
theorem sWides_drop (t : List Int) (ks : List S39) (d i : Nat) (h : i < ks.length) : sWides t (ks.drop i) d = if sWide t ks[i] d < 1 then none else (sWides t (ks.drop (i + 1)) d).map (fun ws => sWide t ks[i] d :: ws) := by
  rw [List.drop_eq_getElem_cons h, sWides]
theorem sWides_end (t : List Int) (ks : List S39) (d i : Nat) (h : ks.length ≤ i) : sWides t (ks.drop i) d = some [] := by
  rw [List.drop_eq_nil_of_le h, sWides]
theorem finB_no {ok : Bool} {v : Int} (h : ok = false ∨ v < 1 ∨ 6 < v) : finB ok v = -1 := by
  unfold finB
  rw [if_neg]
  rintro ⟨a, b, c⟩
  rcases h with h | h | h
  · rw [h] at a; cases a
  · omega
  · omega
theorem finB_yes {v : Int} (h1 : 1 ≤ v) (h2 : v ≤ 6) : finB true v = v := by unfold finB; rw [if_pos ⟨rfl, h1, h2⟩]
def SwP (N : Nat) : Prop := ∀ (x : S39) (cs : List Value) (A : Option Addr) (c : Nat) (t : List Int) (d : Nat) (w : World), sz39 x ≤ N → k39.K w x cs → Small39 x → Kd.C (Kd.int .i64) w A t.length t → t.length ≤ c → t.length ≤ 3 → d ≤ 1000 →
  Calls Tryz.prog 63 #[.agg cs.toArray, .slice A t.length c, .int .i64 d] w fun e w' => e = .returned (.int .i64 (sWide t x d)) ∧ Below w.heap.size w w'

set_option maxHeartbeats 16000000 in
set_option maxRecDepth 100000 in
theorem l4Wide_a (x : S39) (cs : List Value) (A : Option Addr) (c : Nat) (t : List Int) (d : Nat) (w : World) (hK : k39.K w x cs) (hsm : Small39 x) (hr : Kd.C (Kd.int .i64) w A t.length t) (hc : t.length ≤ c) (hl : t.length ≤ 3) (hd : d ≤ 1000) :
    Calls Tryz.prog 63 #[.agg cs.toArray, .slice A t.length c, .int .i64 (((0 : Nat) : Int))] w fun e w' => e = .returned (.int .i64 (sWide t x (0))) ∧ Below w.heap.size w w' := by
  have LC := Aside0.mk (show cs.length = 19 from k39.K_len hK)
  obtain ⟨A12, c12, A15, c15, A18, c18, hcs, l12, g12, l15, g15, l18, g18⟩ := k39_open hK
  have E0 := Aside0.mk (show cs[0]? = some (.int .i64 x.f0) by rw [hcs]; rfl)
  have E18 := Aside0.mk (show cs[18]? = some (.slice A18 x.f9.length c18) by rw [hcs]; rfl)
  have HK := Aside0.mk hK
  have VV := Aside0.mk (sWide_no (t := t) (x := x) (d := 0) (.inl rfl))
  clear hcs l12 g12 l15 g15 l18 g18 hK hsm hr
  go_enter Tryz.func63, Tryz.ntmps63
  go_wp2_with ((with_reducible refine gate_dst (N := 3) rfl ?_); refine box_ 39 (.tmp 0) rfl rfl cs.toArray rfl ?_; intro gb hg w1 hb hB; have X1 := Aside0.mk hb; have B1 := Aside0.mk hB; clear hb hB hg)
  refine start_ (n := 16) (S := fun w' => w'.heap[gb]? = some (.cells cs.toArray 39 (0, 0)) ∧ w'.cell? ⟨gb, 0, none⟩ = some (.int .i64 x.f0) ∧ w'.cell? ⟨gb, 18, none⟩ = some (.slice A18 x.f9.length c18) ∧ Below w.heap.size w w') (ds := []) (zm 16 0) (by kernel_rfl) rfl rfl ⟨X1.out, (cell_of_range X1.out E0.out), (cell_of_range X1.out E18.out), (below_drew B1.out)⟩ (fun hHeld => ?_)
  refine zpk 0 12 16 1 ?_
  refine zpk 1 13 16 3 ?_
  refine zpk 2 14 16 7 ?_
  refine zqk 3 15 16 15 ?_
  refine zqk 4 16 16 31 ?_
  refine zqk 5 17 16 63 ?_
  refine zqk 6 18 16 127 ?_
  refine zqk 7 19 16 255 ?_
  refine zqk 8 20 16 511 ?_
  refine zqk 9 21 16 1023 ?_
  refine zpk 10 22 16 2047 ?_
  refine zpk 11 23 16 4095 ?_
  refine zqk 12 24 16 8191 ?_
  refine zqk 13 25 16 16383 ?_
  refine zqk 14 26 16 32767 ?_
  refine zpk 15 27 16 65535 ?_
  refine done_ (by kernel_rfl) ?_
  have X2 := Aside0.mk hHeld.1
  have B2 := Aside0.mk hHeld.2.2.2
  clear hHeld X1 B1
  go_wp2
  go_ret
  exact ⟨by rw [VV.out]; rfl, B2.out⟩
set_option maxHeartbeats 16000000 in
set_option maxRecDepth 100000 in
theorem l4Wide_b (x : S39) (cs : List Value) (A : Option Addr) (c : Nat) (t : List Int) (d : Nat) (w : World) (hK : k39.K w x cs) (hsm : Small39 x) (hr : Kd.C (Kd.int .i64) w A t.length t) (hc : t.length ≤ c) (hl : t.length ≤ 3) (hd : d ≤ 1000) (hk : kidsN x.f0 ≠ x.f9.length) :
    Calls Tryz.prog 63 #[.agg cs.toArray, .slice A t.length c, .int .i64 (((d + 1 : Nat) : Int))] w fun e w' => e = .returned (.int .i64 (sWide t x (d + 1))) ∧ Below w.heap.size w w' := by
  have LC := Aside0.mk (show cs.length = 19 from k39.K_len hK)
  obtain ⟨A12, c12, A15, c15, A18, c18, hcs, l12, g12, l15, g15, l18, g18⟩ := k39_open hK
  have E0 := Aside0.mk (show cs[0]? = some (.int .i64 x.f0) by rw [hcs]; rfl)
  have E18 := Aside0.mk (show cs[18]? = some (.slice A18 x.f9.length c18) by rw [hcs]; rfl)
  have HK := Aside0.mk hK
  have VV := Aside0.mk (sWide_no (t := t) (x := x) (d := d + 1) (.inr (.inl hk)))
  have d1 : decide (((d + 1 : Nat) : Int) < 1) = false := decide_eq_false (by omega)
  obtain ⟨q, hq⟩ : ∃ q, q = kidsN x.f0 := ⟨_, rfl⟩
  have C5 := Aside0.mk (fun W => l4Kids_c x.f0 W)
  rw [← hq] at C5 hk
  have b1 : (q != (x.f9.length : Int)) = true := by simpa using hk
  clear hcs l12 g12 l15 g15 l18 g18 hK hsm hr hq hk
  go_enter Tryz.func63, Tryz.ntmps63
  go_wp2_with ((with_reducible refine gate_dst (N := 3) rfl ?_); refine box_ 39 (.tmp 0) rfl rfl cs.toArray rfl ?_; intro gb hg w1 hb hB; have X1 := Aside0.mk hb; have B1 := Aside0.mk hB; clear hb hB hg)
  refine start_ (n := 16) (S := fun w' => w'.heap[gb]? = some (.cells cs.toArray 39 (0, 0)) ∧ w'.cell? ⟨gb, 0, none⟩ = some (.int .i64 x.f0) ∧ w'.cell? ⟨gb, 18, none⟩ = some (.slice A18 x.f9.length c18) ∧ Below w.heap.size w w') (ds := []) (zm 16 0) (by kernel_rfl) rfl rfl ⟨X1.out, (cell_of_range X1.out E0.out), (cell_of_range X1.out E18.out), (below_drew B1.out)⟩ (fun hHeld => ?_)
  refine zpk 0 12 16 1 ?_
  refine zpk 1 13 16 3 ?_
  refine zpk 2 14 16 7 ?_
  refine zpk 3 15 16 15 ?_
  refine zpk 6 18 16 79 ?_
  refine ztk 4 16 16 95 ?_
  refine ztk 7 19 16 223 ?_
  refine zpk 8 20 16 479 ?_
  refine one_ (i := 5) (N := some 17) (zm 16 511) rfl rfl (by kernel_rfl) (by decide) (fun K hK => ?_)
  refine goes_ Tryz.func49 (by kernel_rfl) rfl #[.int .i64 x.f0] (by rfl) rfl rfl (by simp only [List.map_toArray, List.map_cons, List.map_nil]; rfl) ?_
  refine (C5.out _).mono ?_
  rintro e w' ⟨rfl, hb⟩
  refine ⟨_, rfl, ?_⟩
  refine hK.out _ _ ⟨((hb.block _ (blk_lt hHeld.1)).trans hHeld.1), (pw_cell_below hb hHeld.2.1), (pw_cell_below hb hHeld.2.2.1), (below_step hHeld.2.2.2 hb)⟩ (fun hHeld => ?_)
  clear hK K
  refine norm_ (a' := ?_) ?_ ?_
  rotate_left
  · show Act.put _ (some 17) _ = _
    simp only [Act.put, List.setIfInBounds_toArray, List.set_cons_zero, List.set_cons_succ, i64_w, i32_w]
    rfl
  refine zpk 9 21 16 1023 ?_
  refine zpk 10 22 16 2047 ?_
  refine zpk 11 23 16 4095 ?_
  refine zqk 12 24 16 8191 ?_
  refine zqk 13 25 16 16383 ?_
  refine zqk 14 26 16 32767 ?_
  refine zpk 15 27 16 65535 ?_
  refine done_ (by kernel_rfl) ?_
  have X2 := Aside0.mk hHeld.1
  have B2 := Aside0.mk hHeld.2.2.2
  clear hHeld X1 B1
  go_wp2
  go_ret
  exact ⟨by rw [VV.out]; rfl, B2.out⟩
set_option maxHeartbeats 16000000 in
set_option maxRecDepth 100000 in
theorem l4Wide_c0 (x : S39) (cs : List Value) (A : Option Addr) (c : Nat) (t : List Int) (d : Nat) (w : World) (hK : k39.K w x cs) (hsm : Small39 x) (hr : Kd.C (Kd.int .i64) w A t.length t) (hc : t.length ≤ c) (hl : t.length ≤ 3) (hd : d ≤ 1000) (hk : kidsN x.f0 = x.f9.length) (hcl : cleanB x = false) :
    Calls Tryz.prog 63 #[.agg cs.toArray, .slice A t.length c, .int .i64 (((d + 1 : Nat) : Int))] w fun e w' => e = .returned (.int .i64 (sWide t x (d + 1))) ∧ Below w.heap.size w w' := by
  have LC := Aside0.mk (show cs.length = 19 from k39.K_len hK)
  obtain ⟨A12, c12, A15, c15, A18, c18, hcs, l12, g12, l15, g15, l18, g18⟩ := k39_open hK
  have E0 := Aside0.mk (show cs[0]? = some (.int .i64 x.f0) by rw [hcs]; rfl)
  have E18 := Aside0.mk (show cs[18]? = some (.slice A18 x.f9.length c18) by rw [hcs]; rfl)
  have HK := Aside0.mk hK
  have VV := Aside0.mk (sWide_no (t := t) (x := x) (d := d + 1) (.inr (.inr hcl)))
  have d1 : decide (((d + 1 : Nat) : Int) < 1) = false := decide_eq_false (by omega)
  have C5 := Aside0.mk (fun W => l4Kids_c x.f0 W)
  have C13 := Aside0.mk (fun (W : World) (hb : Below w.heap.size w W) => l4Clean_c x cs W (k39.K_below hb hK))
  rw [hk] at C5
  rw [hcl] at C13
  have b1 : ((x.f9.length : Int) != (x.f9.length : Int)) = false := by simp
  clear hcs l12 g12 l15 g15 l18 g18 hK hsm hr hk hcl
  go_enter Tryz.func63, Tryz.ntmps63
  go_wp2_with ((with_reducible refine gate_dst (N := 3) rfl ?_); refine box_ 39 (.tmp 0) rfl rfl cs.toArray rfl ?_; intro gb hg w1 hb hB; have X1 := Aside0.mk hb; have B1 := Aside0.mk hB; clear hb hB hg)
  refine start_ (n := 16) (S := fun w' => w'.heap[gb]? = some (.cells cs.toArray 39 (0, 0)) ∧ w'.cell? ⟨gb, 0, none⟩ = some (.int .i64 x.f0) ∧ w'.cell? ⟨gb, 18, none⟩ = some (.slice A18 x.f9.length c18) ∧ Below w.heap.size w w') (ds := []) (zm 16 0) (by kernel_rfl) rfl rfl ⟨X1.out, (cell_of_range X1.out E0.out), (cell_of_range X1.out E18.out), (below_drew B1.out)⟩ (fun hHeld => ?_)
  refine zpk 0 12 16 1 ?_
  refine zpk 1 13 16 3 ?_
  refine zpk 2 14 16 7 ?_
  refine zpk 3 15 16 15 ?_
  refine zpk 6 18 16 79 ?_
  refine ztk 4 16 16 95 ?_
  refine ztk 7 19 16 223 ?_
  refine zpk 8 20 16 479 ?_
  refine one_ (i := 5) (N := some 17) (zm 16 511) rfl rfl (by kernel_rfl) (by decide) (fun K hK => ?_)
  refine goes_ Tryz.func49 (by kernel_rfl) rfl #[.int .i64 x.f0] (by rfl) rfl rfl (by simp only [List.map_toArray, List.map_cons, List.map_nil]; rfl) ?_
  refine (C5.out _).mono ?_
  rintro e w' ⟨rfl, hb⟩
  refine ⟨_, rfl, ?_⟩
  refine hK.out _ _ ⟨((hb.block _ (blk_lt hHeld.1)).trans hHeld.1), (pw_cell_below hb hHeld.2.1), (pw_cell_below hb hHeld.2.2.1), (below_step hHeld.2.2.2 hb)⟩ (fun hHeld => ?_)
  clear hK K
  refine norm_ (a' := ?_) ?_ ?_
  rotate_left
  · show Act.put _ (some 17) _ = _
    simp only [Act.put, List.setIfInBounds_toArray, List.set_cons_zero, List.set_cons_succ, i64_w, i32_w]
    rfl
  refine zpk 9 21 16 1023 ?_
  refine zpk 10 22 16 2047 ?_
  refine zpk 11 23 16 4095 ?_
  refine take_ (i := 12) (N := some 24) (v := _) (a' := ?_) (zm 16 8191) rfl rfl (by kernel_rfl) (fun _ _ _ h => h) (yieldsIf_load_mid (by rfl) 39 (.tmp 3) rfl gb 0 rfl cs _ (fun W h => range_ h.1) Tryz.underlying39 rfl (by rw [LC.out]; kernel_rfl)) hHeld ?_ ?_
  rotate_left
  · simp only [Act.put, List.setIfInBounds_toArray, List.set_cons_zero, List.set_cons_succ, i64_w, i32_w]
    rfl
  refine one_ (i := 13) (N := some 25) (zm 16 16383) rfl rfl (by kernel_rfl) (by decide) (fun K hK => ?_)
  refine goes_ Tryz.func50 (by kernel_rfl) rfl #[.agg cs.toArray] (by rfl) rfl rfl (by simp only [List.map_toArray, List.map_cons, List.map_nil]; rfl) ?_
  refine (C13.out _ hHeld.2.2.2).mono ?_
  rintro e w' ⟨rfl, hb⟩
  refine ⟨_, rfl, ?_⟩
  refine hK.out _ _ ⟨((hb.block _ (blk_lt hHeld.1)).trans hHeld.1), (pw_cell_below hb hHeld.2.1), (pw_cell_below hb hHeld.2.2.1), (below_step hHeld.2.2.2 hb)⟩ (fun hHeld => ?_)
  clear hK K
  refine norm_ (a' := ?_) ?_ ?_
  rotate_left
  · show Act.put _ (some 25) _ = _
    simp only [Act.put, List.setIfInBounds_toArray, List.set_cons_zero, List.set_cons_succ, i64_w, i32_w]
    rfl
  refine zpk 14 26 16 32767 ?_
  refine zpk 15 27 16 65535 ?_
  refine done_ (by kernel_rfl) ?_
  have X2 := Aside0.mk hHeld.1
  have B2 := Aside0.mk hHeld.2.2.2
  clear hHeld X1 B1
  go_wp2
  go_ret
  exact ⟨by rw [VV.out]; rfl, B2.out⟩
set_option maxHeartbeats 16000000 in
set_option maxRecDepth 100000 in
theorem l4Wide_once (N : Nat) (ih : ∀ m, m ≤ N → SwP m) (x : S39) (cs : List Value) (A : Option Addr) (c : Nat) (t : List Int) (d : Nat) (w : World) (hK : k39.K w x cs) (hsm : Small39 x) (hr : Kd.C (Kd.int .i64) w A t.length t) (hc : t.length ≤ c) (hl : t.length ≤ 3) (hd : d ≤ 1000) (hn : sz39 x ≤ N + 1) (hx : x.f0 = 6) (hlen : x.f9.length = 1) (hcl : cleanB x = true) :
    Calls Tryz.prog 63 #[.agg cs.toArray, .slice A t.length c, .int .i64 (((d + 1 : Nat) : Int))] w fun e w' => e = .returned (.int .i64 (sWide t x (d + 1))) ∧ Below w.heap.size w w' := by
  have LC := Aside0.mk (show cs.length = 19 from k39.K_len hK)
  obtain ⟨A12, c12, A15, c15, A18, c18, hcs, l12, g12, l15, g15, l18, g18⟩ := k39_open hK
  have E0 := Aside0.mk (show cs[0]? = some (.int .i64 x.f0) by rw [hcs]; rfl)
  have E18 := Aside0.mk (show cs[18]? = some (.slice A18 x.f9.length c18) by rw [hcs]; rfl)
  have HK := Aside0.mk hK
  have NONE := Aside0.mk (sWide_none (t := t) (x := x) (d := d))
  have SOME := Aside0.mk (fun ws => sWide_some (t := t) (x := x) (d := d) (ws := ws) (by rw [hx, hlen]; rfl) hcl)
  have d1 : decide (((d + 1 : Nat) : Int) < 1) = false := decide_eq_false (by omega)
  have C5 := Aside0.mk (fun W => show Calls Tryz.prog 49 #[.int .i64 6] W fun e w' => e = .returned (.int .i64 1) ∧ Below W.heap.size W w' from l4Kids_c 6 W)
  have C13 := Aside0.mk (fun (W : World) (hb : Below w.heap.size w W) => l4Clean_c x cs W (k39.K_below hb hK))
  rw [hcl] at C13
  have G18 := Aside0.mk g18
  have SK := Aside0.mk (show szs39 x.f9 ≤ N by have := sz39_kids x; omega)
  have K9 := Aside0.mk hsm.out.2.2.2
  have IH := Aside0.mk ih
  have HC := Aside0.mk hr
  have HX0 := Aside0.mk hx
  have HLEN := Aside0.mk hlen
  rw [hx] at E0
  rw [hlen] at E18
  clear hcs l12 g12 l15 g15 l18 g18 hK hr hsm hcl hx hn hlen ih
  go_enter Tryz.func63, Tryz.ntmps63
  go_wp2_with ((with_reducible refine gate_dst (N := 3) rfl ?_); refine box_ 39 (.tmp 0) rfl rfl cs.toArray rfl ?_; intro gb hg w1 hb hB; have X1 := Aside0.mk hb; have B1 := Aside0.mk hB; clear hb hB hg)
  refine start_ (n := 16) (S := fun w' => w'.heap[gb]? = some (.cells cs.toArray 39 (0, 0)) ∧ w'.cell? ⟨gb, 0, none⟩ = some (.int .i64 6) ∧ w'.cell? ⟨gb, 18, none⟩ = some (.slice A18 1 c18) ∧ Below w.heap.size w w') (ds := []) (zm 16 0) (by kernel_rfl) rfl rfl ⟨X1.out, (cell_of_range X1.out E0.out), (cell_of_range X1.out E18.out), (below_drew B1.out)⟩ (fun hHeld => ?_)
  refine zpk 0 12 16 1 ?_
  refine zpk 1 13 16 3 ?_
  refine zpk 2 14 16 7 ?_
  refine zpk 3 15 16 15 ?_
  refine zpk 6 18 16 79 ?_
  refine ztk 4 16 16 95 ?_
  refine ztk 7 19 16 223 ?_
  refine zpk 8 20 16 479 ?_
  refine one_ (i := 5) (N := some 17) (zm 16 511) rfl rfl (by kernel_rfl) (by decide) (fun K hK => ?_)
  refine goes_ Tryz.func49 (by kernel_rfl) rfl #[.int .i64 6] (by rfl) rfl rfl (by simp only [List.map_toArray, List.map_cons, List.map_nil]; rfl) ?_
  refine (C5.out _).mono ?_
  rintro e w' ⟨rfl, hb⟩
  refine ⟨_, rfl, ?_⟩
  refine hK.out _ _ ⟨((hb.block _ (blk_lt hHeld.1)).trans hHeld.1), (pw_cell_below hb hHeld.2.1), (pw_cell_below hb hHeld.2.2.1), (below_step hHeld.2.2.2 hb)⟩ (fun hHeld => ?_)
  clear hK K
  refine norm_ (a' := ?_) ?_ ?_
  rotate_left
  · show Act.put _ (some 17) _ = _
    simp only [Act.put, List.setIfInBounds_toArray, List.set_cons_zero, List.set_cons_succ, i64_w, i32_w]
    rfl
  refine zpk 9 21 16 1023 ?_
  refine zpk 10 22 16 2047 ?_
  refine zpk 11 23 16 4095 ?_
  refine take_ (i := 12) (N := some 24) (v := _) (a' := ?_) (zm 16 8191) rfl rfl (by kernel_rfl) (fun _ _ _ h => h) (yieldsIf_load_mid (by rfl) 39 (.tmp 3) rfl gb 0 rfl cs _ (fun W h => range_ h.1) Tryz.underlying39 rfl (by rw [LC.out]; kernel_rfl)) hHeld ?_ ?_
  rotate_left
  · simp only [Act.put, List.setIfInBounds_toArray, List.set_cons_zero, List.set_cons_succ, i64_w, i32_w]
    rfl
  refine one_ (i := 13) (N := some 25) (zm 16 16383) rfl rfl (by kernel_rfl) (by decide) (fun K hK => ?_)
  refine goes_ Tryz.func50 (by kernel_rfl) rfl #[.agg cs.toArray] (by rfl) rfl rfl (by simp only [List.map_toArray, List.map_cons, List.map_nil]; rfl) ?_
  refine (C13.out _ hHeld.2.2.2).mono ?_
  rintro e w' ⟨rfl, hb⟩
  refine ⟨_, rfl, ?_⟩
  refine hK.out _ _ ⟨((hb.block _ (blk_lt hHeld.1)).trans hHeld.1), (pw_cell_below hb hHeld.2.1), (pw_cell_below hb hHeld.2.2.1), (below_step hHeld.2.2.2 hb)⟩ (fun hHeld => ?_)
  clear hK K
  refine norm_ (a' := ?_) ?_ ?_
  rotate_left
  · show Act.put _ (some 25) _ = _
    simp only [Act.put, List.setIfInBounds_toArray, List.set_cons_zero, List.set_cons_succ, i64_w, i32_w]
    rfl
  refine zpk 14 26 16 32767 ?_
  refine zpk 15 27 16 65535 ?_
  refine done_ (by kernel_rfl) ?_
  have X2 := Aside0.mk hHeld.1
  have B2 := Aside0.mk hHeld.2.2.2
  clear hHeld X1 B1
  go_wp2_with ((with_reducible refine gate_dst (N := 28) rfl ?_); refine Kd.R_lit (Kd.int .i64) _ 3 ?hg (N := 28) ?hd (xs := ([] : List Int)) (inner := []) (ok := fun _ => True) (okp := fun _ => True) ?hr ?hp (fun _ hk => hk) trivial (Below.refl _ _) (Nat.le_refl _) (by simp) ?_; (case hd => rfl); (case hg => rfl); (case hr => first | (go_simp; done) | (go_simp; rfl)); (case hp => exact (Reps.none _ _)); intro v0 w3 ho hb hg_ hnew_; have R3 := Aside0.mk (Kd.R_lower ho B2.out.size); have X3 := Aside0.mk ((hb.block _ (blk_lt X2.out)).trans X2.out); have B3 := Aside0.mk (below_step B2.out hb); have p18 := (cell_of_range X3.out E18.out); clear ho hb hg_ hnew_)
  go_loopw [7, 8] (fun v7 v8 wr => ∃ (i : Nat) (ws : List Int), v8 = .int .i64 i ∧ i ≤ 1 ∧ ws.length = i ∧ (∀ k ∈ ws, 1 ≤ k) ∧ Aside0 (Kd.R (Kd.int .i64) 3 wr w.heap.size (fun _ => True) v7 ws) ∧ wr.cell? ⟨gb, 18, none⟩ = some (.slice A18 1 c18) ∧ Aside0 (wr.heap[gb]? = some (.cells cs.toArray 39 (0, 0))) ∧ Aside0 (Below w.heap.size w wr) ∧
    Aside0 (sWides t x.f9 d = (sWides t (x.f9.drop i) d).map (fun l => ws ++ l))) (fun _ v8 _ => 1 - (intOf v8).toNat)
  case atStart => exact ⟨0, [], rfl, Nat.zero_le _, rfl, by simp, R3, p18, X3, B3, ⟨by simp⟩⟩
  case round =>
    obtain ⟨i, ws, rfl, hi, hwl, hpos, HR, q18, HX, HB, HG⟩ := hrel
    clear p18
    by_cases hlt : i < 1
    · have hlt' : i < x.f9.length := by have := HLEN.out; omega
      obtain ⟨ad, c0, e18, hcl, hK0, hcell⟩ := elem_ G18.out i hlt'
      obtain rfl := e18
      have hsz := szs39_get hlt'
      have LD := Aside0.mk (show c0.length = 19 from hcl)
      have HE := Aside0.mk hcell
      have CA := Aside0.mk (fun (W : World) (hb : Below w.heap.size w W) => IH.out (sz39 x.f9[i]) (by have := SK.out; omega) x.f9[i] c0 A c t d W (Nat.le_refl _) (k39.K_below hb hK0) (K9.out _ (List.getElem_mem hlt')) (Kd.C_below HC.out hb) hc hl (by omega))
      have GD := Aside0.mk (HG.out.trans (by rw [sWides_drop t x.f9 d i hlt']))
      obtain ⟨r, hr⟩ : ∃ r, r = sWide t x.f9[i] d := ⟨_, rfl⟩
      rw [← hr] at CA GD
      have HP := Aside0.mk hpos
      have HWL := Aside0.mk hwl
      clear hK0 hcell hcl hsz HG hr hpos hwl
      go_wp2_with (first
        | ((with_reducible refine gate_dst (N := 40) rfl ?_); refine load_ 39 (.tmp 39) rfl rfl (ad.add (i * 19)) ?hx c0 _ Tryz.underlying39 ?hi (fun j v h => zhs HB.out (HE.out j v h)) ?_; (case hx => first | rfl | (go_simp; done) | (go_simp; rfl)); (case hi => rw [LD.out]; kernel_rfl))
        | (go_at_call 63; refine (CA.out _ HB.out).mono ?_; rintro e w6 ⟨rfl, hB⟩; have HR6 := Aside0.mk (Kd.R_below HR.out hB); have HX6 := Aside0.mk ((hB.block _ (blk_lt HX.out)).trans HX.out); have HB6 := Aside0.mk (below_step HB.out hB); clear hB CA HR HX HB q18)
        | (at_builtin; refine Kd.R_append (Kd.int .i64) (w0 := w) w.heap.size rfl (.tmp 47) (.tmp 49) 27 3 (.int .i64 0) 8 rfl Tryz.underlying27 info3 rfl (by decide) (by omega) _ ws r [.int .i64 r] (fun _ => True) (fun _ => False) rfl rfl ?aP (fun _ hk => hk.elim) ?aF ?aO ?aB ?aS ?aL ?_; (case aP => exact rfl); (case aB => exact HB6.out); (case aF => exact (fun _ _ => trivial)); (case aO => exact HR6.out); (case aS => exact HB6.out.size); (case aL => have := HWL.out; omega); intro v7' w7 ho hb hg hat; have HR7 := Aside0.mk ho; have HB7 := Aside0.mk hb; have HX7 := Aside0.mk ((hg.block _ (blk_lt HX6.out) (Kd.R_ne HR6.out HX6.out (by decide))).trans HX6.out); clear ho hb hg hat))
      · go_ret
        exact ⟨by rw [NONE.out (by rw [GD.out, if_pos (by assumption)]; rfl)]; rfl, HB6.out⟩
      · go_roundw
        case rel => exact ⟨i + 1, ws ++ [r], by go_num, by omega, by simp [HWL.out], by intro k hk; rcases List.mem_append.1 hk with hk | hk; exact HP.out k hk; (simp at hk; omega), HR7, cell_of_range HX7.out E18.out, HX7, HB7, ⟨by rw [GD.out, if_neg (by omega)]; simp [Option.map_map, Function.comp_def]⟩⟩
        case measure => simp [intOf]; omega
    · have GE := Aside0.mk (HG.out.trans (by rw [sWides_end t x.f9 d i (by have := HLEN.out; omega)]; simp : _ = some ws))
      have VV0 := Aside0.mk (SOME.out ws GE.out)
      have hwn : ws.length = 1 := by omega
      have VV := Aside0.mk (show sWide t x (d + 1) = finB (true) (rd ws 0) by rw [VV0.out]; unfold okS wS; rw [HX0.out]; rfl)
      clear hwl
      obtain ⟨gk, c7, rfl, hq⟩ := own_at HR.out (by omega)
      have q0 := hq 0 (by omega)
      have Q0 := Aside0.mk q0
      have h0 : 1 ≤ rd ws 0 := hpos _ (by obtain ⟨a, as_, e⟩ : ∃ a as_, ws = a :: as_ := (by cases ws with | nil => simp at hwn | cons a b => exact ⟨a, b, rfl⟩); rw [e]; exact List.mem_cons_self ..)
      have t0 : 0 < ws.length := by omega
      obtain ⟨k0, hk0⟩ : ∃ k, k = rd ws 0 := ⟨_, rfl⟩
      rw [show rd ws ((0 : Nat) : Int) = rd ws 0 from rfl, ← hk0] at Q0 q0
      rw [← hk0] at h0 VV
      have q0k := cell_of_range HX.out E0.out
      have HK0 := Aside0.mk hk0
      clear hk0
      obtain rfl : i = 1 := by omega
      clear hpos HG GE VV0 hi hlt hwn hq
      have B9 := HB
      by_cases hw1 : k0 < 1
      · have f1 : decide (k0 < 1) = true := decide_eq_true hw1
        have VV2 := Aside0.mk (VV.out.trans (finB_no (.inr (.inl hw1))))
        clear hw1
        go_wp2
        go_ret
        exact ⟨by rw [VV2.out]; rfl, B9.out⟩
      have f1 : decide (k0 < 1) = false := decide_eq_false hw1
      by_cases hw6 : 6 < k0
      · have f6 : decide (6 < k0) = true := decide_eq_true hw6
        have VV2 := Aside0.mk (VV.out.trans (finB_no (.inr (.inr hw6))))
        clear hw1 hw6
        go_wp2
        go_ret
        exact ⟨by rw [VV2.out]; rfl, B9.out⟩
      have f6 : decide (6 < k0) = false := decide_eq_false hw6
      have VV2 := Aside0.mk (VV.out.trans (finB_yes (by omega) (by omega)))
      clear hw1 hw6
      go_wp2
      go_ret
      exact ⟨by rw [VV2.out]; rfl, B9.out⟩
set_option maxHeartbeats 16000000 in
set_option maxRecDepth 100000 in
theorem l4Wide_both (N : Nat) (ih : ∀ m, m ≤ N → SwP m) (x : S39) (cs : List Value) (A : Option Addr) (c : Nat) (t : List Int) (d : Nat) (w : World) (hK : k39.K w x cs) (hsm : Small39 x) (hr : Kd.C (Kd.int .i64) w A t.length t) (hc : t.length ≤ c) (hl : t.length ≤ 3) (hd : d ≤ 1000) (hn : sz39 x ≤ N + 1) (hx : x.f0 = 5) (hlen : x.f9.length = 2) (hcl : cleanB x = true) :
    Calls Tryz.prog 63 #[.agg cs.toArray, .slice A t.length c, .int .i64 (((d + 1 : Nat) : Int))] w fun e w' => e = .returned (.int .i64 (sWide t x (d + 1))) ∧ Below w.heap.size w w' := by
  have LC := Aside0.mk (show cs.length = 19 from k39.K_len hK)
  obtain ⟨A12, c12, A15, c15, A18, c18, hcs, l12, g12, l15, g15, l18, g18⟩ := k39_open hK
  have E0 := Aside0.mk (show cs[0]? = some (.int .i64 x.f0) by rw [hcs]; rfl)
  have E18 := Aside0.mk (show cs[18]? = some (.slice A18 x.f9.length c18) by rw [hcs]; rfl)
  have HK := Aside0.mk hK
  have NONE := Aside0.mk (sWide_none (t := t) (x := x) (d := d))
  have SOME := Aside0.mk (fun ws => sWide_some (t := t) (x := x) (d := d) (ws := ws) (by rw [hx, hlen]; rfl) hcl)
  have d1 : decide (((d + 1 : Nat) : Int) < 1) = false := decide_eq_false (by omega)
  have C5 := Aside0.mk (fun W => show Calls Tryz.prog 49 #[.int .i64 5] W fun e w' => e = .returned (.int .i64 2) ∧ Below W.heap.size W w' from l4Kids_c 5 W)
  have C13 := Aside0.mk (fun (W : World) (hb : Below w.heap.size w W) => l4Clean_c x cs W (k39.K_below hb hK))
  rw [hcl] at C13
  have G18 := Aside0.mk g18
  have SK := Aside0.mk (show szs39 x.f9 ≤ N by have := sz39_kids x; omega)
  have K9 := Aside0.mk hsm.out.2.2.2
  have IH := Aside0.mk ih
  have HC := Aside0.mk hr
  have HX0 := Aside0.mk hx
  have HLEN := Aside0.mk hlen
  rw [hx] at E0
  rw [hlen] at E18
  clear hcs l12 g12 l15 g15 l18 g18 hK hr hsm hcl hx hn hlen ih
  go_enter Tryz.func63, Tryz.ntmps63
  go_wp2_with ((with_reducible refine gate_dst (N := 3) rfl ?_); refine box_ 39 (.tmp 0) rfl rfl cs.toArray rfl ?_; intro gb hg w1 hb hB; have X1 := Aside0.mk hb; have B1 := Aside0.mk hB; clear hb hB hg)
  refine start_ (n := 16) (S := fun w' => w'.heap[gb]? = some (.cells cs.toArray 39 (0, 0)) ∧ w'.cell? ⟨gb, 0, none⟩ = some (.int .i64 5) ∧ w'.cell? ⟨gb, 18, none⟩ = some (.slice A18 2 c18) ∧ Below w.heap.size w w') (ds := []) (zm 16 0) (by kernel_rfl) rfl rfl ⟨X1.out, (cell_of_range X1.out E0.out), (cell_of_range X1.out E18.out), (below_drew B1.out)⟩ (fun hHeld => ?_)
  refine zpk 0 12 16 1 ?_
  refine zpk 1 13 16 3 ?_
  refine zpk 2 14 16 7 ?_
  refine zpk 3 15 16 15 ?_
  refine zpk 6 18 16 79 ?_
  refine ztk 4 16 16 95 ?_
  refine ztk 7 19 16 223 ?_
  refine zpk 8 20 16 479 ?_
  refine one_ (i := 5) (N := some 17) (zm 16 511) rfl rfl (by kernel_rfl) (by decide) (fun K hK => ?_)
  refine goes_ Tryz.func49 (by kernel_rfl) rfl #[.int .i64 5] (by rfl) rfl rfl (by simp only [List.map_toArray, List.map_cons, List.map_nil]; rfl) ?_
  refine (C5.out _).mono ?_
  rintro e w' ⟨rfl, hb⟩
  refine ⟨_, rfl, ?_⟩
  refine hK.out _ _ ⟨((hb.block _ (blk_lt hHeld.1)).trans hHeld.1), (pw_cell_below hb hHeld.2.1), (pw_cell_below hb hHeld.2.2.1), (below_step hHeld.2.2.2 hb)⟩ (fun hHeld => ?_)
  clear hK K
  refine norm_ (a' := ?_) ?_ ?_
  rotate_left
  · show Act.put _ (some 17) _ = _
    simp only [Act.put, List.setIfInBounds_toArray, List.set_cons_zero, List.set_cons_succ, i64_w, i32_w]
    rfl
  refine zpk 9 21 16 1023 ?_
  refine zpk 10 22 16 2047 ?_
  refine zpk 11 23 16 4095 ?_
  refine take_ (i := 12) (N := some 24) (v := _) (a' := ?_) (zm 16 8191) rfl rfl (by kernel_rfl) (fun _ _ _ h => h) (yieldsIf_load_mid (by rfl) 39 (.tmp 3) rfl gb 0 rfl cs _ (fun W h => range_ h.1) Tryz.underlying39 rfl (by rw [LC.out]; kernel_rfl)) hHeld ?_ ?_
  rotate_left
  · simp only [Act.put, List.setIfInBounds_toArray, List.set_cons_zero, List.set_cons_succ, i64_w, i32_w]
    rfl
  refine one_ (i := 13) (N := some 25) (zm 16 16383) rfl rfl (by kernel_rfl) (by decide) (fun K hK => ?_)
  refine goes_ Tryz.func50 (by kernel_rfl) rfl #[.agg cs.toArray] (by rfl) rfl rfl (by simp only [List.map_toArray, List.map_cons, List.map_nil]; rfl) ?_
  refine (C13.out _ hHeld.2.2.2).mono ?_
  rintro e w' ⟨rfl, hb⟩
  refine ⟨_, rfl, ?_⟩
  refine hK.out _ _ ⟨((hb.block _ (blk_lt hHeld.1)).trans hHeld.1), (pw_cell_below hb hHeld.2.1), (pw_cell_below hb hHeld.2.2.1), (below_step hHeld.2.2.2 hb)⟩ (fun hHeld => ?_)
  clear hK K
  refine norm_ (a' := ?_) ?_ ?_
  rotate_left
  · show Act.put _ (some 25) _ = _
    simp only [Act.put, List.setIfInBounds_toArray, List.set_cons_zero, List.set_cons_succ, i64_w, i32_w]
    rfl
  refine zpk 14 26 16 32767 ?_
  refine zpk 15 27 16 65535 ?_
  refine done_ (by kernel_rfl) ?_
  have X2 := Aside0.mk hHeld.1
  have B2 := Aside0.mk hHeld.2.2.2
  clear hHeld X1 B1
  go_wp2_with ((with_reducible refine gate_dst (N := 28) rfl ?_); refine Kd.R_lit (Kd.int .i64) _ 3 ?hg (N := 28) ?hd (xs := ([] : List Int)) (inner := []) (ok := fun _ => True) (okp := fun _ => True) ?hr ?hp (fun _ hk => hk) trivial (Below.refl _ _) (Nat.le_refl _) (by simp) ?_; (case hd => rfl); (case hg => rfl); (case hr => first | (go_simp; done) | (go_simp; rfl)); (case hp => exact (Reps.none _ _)); intro v0 w3 ho hb hg_ hnew_; have R3 := Aside0.mk (Kd.R_lower ho B2.out.size); have X3 := Aside0.mk ((hb.block _ (blk_lt X2.out)).trans X2.out); have B3 := Aside0.mk (below_step B2.out hb); have p18 := (cell_of_range X3.out E18.out); clear ho hb hg_ hnew_)
  go_loopw [7, 8] (fun v7 v8 wr => ∃ (i : Nat) (ws : List Int), v8 = .int .i64 i ∧ i ≤ 2 ∧ ws.length = i ∧ (∀ k ∈ ws, 1 ≤ k) ∧ Aside0 (Kd.R (Kd.int .i64) 3 wr w.heap.size (fun _ => True) v7 ws) ∧ wr.cell? ⟨gb, 18, none⟩ = some (.slice A18 2 c18) ∧ Aside0 (wr.heap[gb]? = some (.cells cs.toArray 39 (0, 0))) ∧ Aside0 (Below w.heap.size w wr) ∧
    Aside0 (sWides t x.f9 d = (sWides t (x.f9.drop i) d).map (fun l => ws ++ l))) (fun _ v8 _ => 2 - (intOf v8).toNat)
  case atStart => exact ⟨0, [], rfl, Nat.zero_le _, rfl, by simp, R3, p18, X3, B3, ⟨by simp⟩⟩
  case round =>
    obtain ⟨i, ws, rfl, hi, hwl, hpos, HR, q18, HX, HB, HG⟩ := hrel
    clear p18
    by_cases hlt : i < 2
    · have hlt' : i < x.f9.length := by have := HLEN.out; omega
      obtain ⟨ad, c0, e18, hcl, hK0, hcell⟩ := elem_ G18.out i hlt'
      obtain rfl := e18
      have hsz := szs39_get hlt'
      have LD := Aside0.mk (show c0.length = 19 from hcl)
      have HE := Aside0.mk hcell
      have CA := Aside0.mk (fun (W : World) (hb : Below w.heap.size w W) => IH.out (sz39 x.f9[i]) (by have := SK.out; omega) x.f9[i] c0 A c t d W (Nat.le_refl _) (k39.K_below hb hK0) (K9.out _ (List.getElem_mem hlt')) (Kd.C_below HC.out hb) hc hl (by omega))
      have GD := Aside0.mk (HG.out.trans (by rw [sWides_drop t x.f9 d i hlt']))
      obtain ⟨r, hr⟩ : ∃ r, r = sWide t x.f9[i] d := ⟨_, rfl⟩
      rw [← hr] at CA GD
      have HP := Aside0.mk hpos
      have HWL := Aside0.mk hwl
      clear hK0 hcell hcl hsz HG hr hpos hwl
      go_wp2_with (first
        | ((with_reducible refine gate_dst (N := 40) rfl ?_); refine load_ 39 (.tmp 39) rfl rfl (ad.add (i * 19)) ?hx c0 _ Tryz.underlying39 ?hi (fun j v h => zhs HB.out (HE.out j v h)) ?_; (case hx => first | rfl | (go_simp; done) | (go_simp; rfl)); (case hi => rw [LD.out]; kernel_rfl))
        | (go_at_call 63; refine (CA.out _ HB.out).mono ?_; rintro e w6 ⟨rfl, hB⟩; have HR6 := Aside0.mk (Kd.R_below HR.out hB); have HX6 := Aside0.mk ((hB.block _ (blk_lt HX.out)).trans HX.out); have HB6 := Aside0.mk (below_step HB.out hB); clear hB CA HR HX HB q18)
        | (at_builtin; refine Kd.R_append (Kd.int .i64) (w0 := w) w.heap.size rfl (.tmp 47) (.tmp 49) 27 3 (.int .i64 0) 8 rfl Tryz.underlying27 info3 rfl (by decide) (by omega) _ ws r [.int .i64 r] (fun _ => True) (fun _ => False) rfl rfl ?aP (fun _ hk => hk.elim) ?aF ?aO ?aB ?aS ?aL ?_; (case aP => exact rfl); (case aB => exact HB6.out); (case aF => exact (fun _ _ => trivial)); (case aO => exact HR6.out); (case aS => exact HB6.out.size); (case aL => have := HWL.out; omega); intro v7' w7 ho hb hg hat; have HR7 := Aside0.mk ho; have HB7 := Aside0.mk hb; have HX7 := Aside0.mk ((hg.block _ (blk_lt HX6.out) (Kd.R_ne HR6.out HX6.out (by decide))).trans HX6.out); clear ho hb hg hat))
      · go_ret
        exact ⟨by rw [NONE.out (by rw [GD.out, if_pos (by assumption)]; rfl)]; rfl, HB6.out⟩
      · go_roundw
        case rel => exact ⟨i + 1, ws ++ [r], by go_num, by omega, by simp [HWL.out], by intro k hk; rcases List.mem_append.1 hk with hk | hk; exact HP.out k hk; (simp at hk; omega), HR7, cell_of_range HX7.out E18.out, HX7, HB7, ⟨by rw [GD.out, if_neg (by omega)]; simp [Option.map_map, Function.comp_def]⟩⟩
        case measure => simp [intOf]; omega
    · have GE := Aside0.mk (HG.out.trans (by rw [sWides_end t x.f9 d i (by have := HLEN.out; omega)]; simp : _ = some ws))
      have VV0 := Aside0.mk (SOME.out ws GE.out)
      have hwn : ws.length = 2 := by omega
      have VV := Aside0.mk (show sWide t x (d + 1) = finB (decide (rd ws 0 = rd ws 1)) (rd ws 0) by rw [VV0.out]; unfold okS wS; rw [HX0.out]; rfl)
      clear hwl
      obtain ⟨gk, c7, rfl, hq⟩ := own_at HR.out (by omega)
      have q0 := hq 0 (by omega)
      have q1 := hq 1 (by omega)
      have Q0 := Aside0.mk q0
      have Q1 := Aside0.mk q1
      have h0 : 1 ≤ rd ws 0 := hpos _ (by obtain ⟨a, as_, e⟩ : ∃ a as_, ws = a :: as_ := (by cases ws with | nil => simp at hwn | cons a b => exact ⟨a, b, rfl⟩); rw [e]; exact List.mem_cons_self ..)
      have t0 : 0 < ws.length := by omega
      have t1 : (1 : Int) < (ws.length : Int) := by omega
      obtain ⟨k0, hk0⟩ : ∃ k, k = rd ws 0 := ⟨_, rfl⟩
      rw [show rd ws ((0 : Nat) : Int) = rd ws 0 from rfl, ← hk0] at Q0 q0
      rw [← hk0] at h0 VV
      obtain ⟨k1, hk1⟩ : ∃ k, k = rd ws 1 := ⟨_, rfl⟩
      rw [show rd ws ((1 : Nat) : Int) = rd ws 1 from rfl, ← hk1] at Q1 q1
      rw [← hk1] at VV
      have q0k := cell_of_range HX.out E0.out
      have HK0 := Aside0.mk hk0
      clear hk0
      have HK1 := Aside0.mk hk1
      clear hk1
      obtain rfl : i = 2 := by omega
      clear hpos HG GE VV0 hi hlt hwn hq
      go_wp2
      obtain ⟨r, hr⟩ : ∃ r, r = (k0 == k1) := ⟨_, rfl⟩
      have RV := Aside0.mk (show decide (k0 = k1) = r by rw [hr, Bool.eq_iff_iff]; simp)
      rw [RV.out] at VV
      have rr : (k0 == k1) = r := hr.symm
      clear hr
      refine start_ (n := 8) (S := fun w' => w'.cell? ⟨gk, 0, none⟩ = some (.int .i64 k0) ∧ w'.cell? ⟨gk, 1, none⟩ = some (.int .i64 k1) ∧ Below w.heap.size w w') (ds := []) (zm 8 0) (by kernel_rfl) rfl rfl ⟨(by exact Q0.out), (by exact Q1.out), (below_drew HB.out)⟩ (fun hHeld => ?_)
      refine zpk 0 151 8 1 ?_
      refine zpk 1 152 8 3 ?_
      refine zpk 3 154 8 11 ?_
      refine zpk 4 155 8 27 ?_
      refine ztk 2 153 8 31 ?_
      refine ztk 5 156 8 63 ?_
      refine zpk 6 157 8 127 ?_
      refine zpk 7 10 8 255 ?_
      refine done_ (by kernel_rfl) ?_
      have B9 := Aside0.mk hHeld.2.2
      have Q0 := Aside0.mk hHeld.1
      have q0 := Q0.out
      have Q1 := Aside0.mk hHeld.2.1
      have q1 := Q1.out
      clear hHeld
      cases r
      case' false =>
        go_wp2
        go_ret
        exact ⟨by rw [VV.out, finB_no (.inl rfl)]; rfl, B9.out⟩
      by_cases hw1 : k0 < 1
      · have f1 : decide (k0 < 1) = true := decide_eq_true hw1
        have VV2 := Aside0.mk (VV.out.trans (finB_no (.inr (.inl hw1))))
        clear hw1
        go_wp2
        go_ret
        exact ⟨by rw [VV2.out]; rfl, B9.out⟩
      have f1 : decide (k0 < 1) = false := decide_eq_false hw1
      by_cases hw6 : 6 < k0
      · have f6 : decide (6 < k0) = true := decide_eq_true hw6
        have VV2 := Aside0.mk (VV.out.trans (finB_no (.inr (.inr hw6))))
        clear hw1 hw6
        go_wp2
        go_ret
        exact ⟨by rw [VV2.out]; rfl, B9.out⟩
      have f6 : decide (6 < k0) = false := decide_eq_false hw6
      have VV2 := Aside0.mk (VV.out.trans (finB_yes (by omega) (by omega)))
      clear hw1 hw6
      go_wp2
      go_ret
      exact ⟨by rw [VV2.out]; rfl, B9.out⟩
set_option maxHeartbeats 16000000 in
set_option maxRecDepth 100000 in
theorem l4Wide_where (N : Nat) (ih : ∀ m, m ≤ N → SwP m) (x : S39) (cs : List Value) (A : Option Addr) (c : Nat) (t : List Int) (d : Nat) (w : World) (hK : k39.K w x cs) (hsm : Small39 x) (hr : Kd.C (Kd.int .i64) w A t.length t) (hc : t.length ≤ c) (hl : t.length ≤ 3) (hd : d ≤ 1000) (hn : sz39 x ≤ N + 1) (hx : x.f0 = 2) (hlen : x.f9.length = 1) (hcl : cleanB x = true) :
    Calls Tryz.prog 63 #[.agg cs.toArray, .slice A t.length c, .int .i64 (((d + 1 : Nat) : Int))] w fun e w' => e = .returned (.int .i64 (sWide t x (d + 1))) ∧ Below w.heap.size w w' := by
  have LC := Aside0.mk (show cs.length = 19 from k39.K_len hK)
  obtain ⟨A12, c12, A15, c15, A18, c18, hcs, l12, g12, l15, g15, l18, g18⟩ := k39_open hK
  have E0 := Aside0.mk (show cs[0]? = some (.int .i64 x.f0) by rw [hcs]; rfl)
  have E18 := Aside0.mk (show cs[18]? = some (.slice A18 x.f9.length c18) by rw [hcs]; rfl)
  have HK := Aside0.mk hK
  have NONE := Aside0.mk (sWide_none (t := t) (x := x) (d := d))
  have SOME := Aside0.mk (fun ws => sWide_some (t := t) (x := x) (d := d) (ws := ws) (by rw [hx, hlen]; rfl) hcl)
  have d1 : decide (((d + 1 : Nat) : Int) < 1) = false := decide_eq_false (by omega)
  have C5 := Aside0.mk (fun W => show Calls Tryz.prog 49 #[.int .i64 2] W fun e w' => e = .returned (.int .i64 1) ∧ Below W.heap.size W w' from l4Kids_c 2 W)
  have C13 := Aside0.mk (fun (W : World) (hb : Below w.heap.size w W) => l4Clean_c x cs W (k39.K_below hb hK))
  rw [hcl] at C13
  have G18 := Aside0.mk g18
  have SK := Aside0.mk (show szs39 x.f9 ≤ N by have := sz39_kids x; omega)
  have K9 := Aside0.mk hsm.out.2.2.2
  have IH := Aside0.mk ih
  have HC := Aside0.mk hr
  have HX0 := Aside0.mk hx
  have HLEN := Aside0.mk hlen
  rw [hx] at E0
  rw [hlen] at E18
  have HA := Aside0.mk (show cs = [.int .i64 x.f0, .int .i64 x.f1] ++ (testCells x.f2 ++ [.slice A12 x.f3.length c12, .int .i64 x.f4, .int .i64 x.f5, .slice A15 x.f6.length c15, .int .i64 x.f7, .int .i64 x.f8, .slice A18 x.f9.length c18]) from hcs)
  clear hcs l12 g12 l15 g15 l18 g18 hK hr hsm hcl hx hn hlen ih
  go_enter Tryz.func63, Tryz.ntmps63
  go_wp2_with ((with_reducible refine gate_dst (N := 3) rfl ?_); refine box_ 39 (.tmp 0) rfl rfl cs.toArray rfl ?_; intro gb hg w1 hb hB; have X1 := Aside0.mk hb; have B1 := Aside0.mk hB; clear hb hB hg)
  refine start_ (n := 16) (S := fun w' => w'.heap[gb]? = some (.cells cs.toArray 39 (0, 0)) ∧ w'.cell? ⟨gb, 0, none⟩ = some (.int .i64 2) ∧ w'.cell? ⟨gb, 18, none⟩ = some (.slice A18 1 c18) ∧ Below w.heap.size w w') (ds := []) (zm 16 0) (by kernel_rfl) rfl rfl ⟨X1.out, (cell_of_range X1.out E0.out), (cell_of_range X1.out E18.out), (below_drew B1.out)⟩ (fun hHeld => ?_)
  refine zpk 0 12 16 1 ?_
  refine zpk 1 13 16 3 ?_
  refine zpk 2 14 16 7 ?_
  refine zpk 3 15 16 15 ?_
  refine zpk 6 18 16 79 ?_
  refine ztk 4 16 16 95 ?_
  refine ztk 7 19 16 223 ?_
  refine zpk 8 20 16 479 ?_
  refine one_ (i := 5) (N := some 17) (zm 16 511) rfl rfl (by kernel_rfl) (by decide) (fun K hK => ?_)
  refine goes_ Tryz.func49 (by kernel_rfl) rfl #[.int .i64 2] (by rfl) rfl rfl (by simp only [List.map_toArray, List.map_cons, List.map_nil]; rfl) ?_
  refine (C5.out _).mono ?_
  rintro e w' ⟨rfl, hb⟩
  refine ⟨_, rfl, ?_⟩
  refine hK.out _ _ ⟨((hb.block _ (blk_lt hHeld.1)).trans hHeld.1), (pw_cell_below hb hHeld.2.1), (pw_cell_below hb hHeld.2.2.1), (below_step hHeld.2.2.2 hb)⟩ (fun hHeld => ?_)
  clear hK K
  refine norm_ (a' := ?_) ?_ ?_
  rotate_left
  · show Act.put _ (some 17) _ = _
    simp only [Act.put, List.setIfInBounds_toArray, List.set_cons_zero, List.set_cons_succ, i64_w, i32_w]
    rfl
  refine zpk 9 21 16 1023 ?_
  refine zpk 10 22 16 2047 ?_
  refine zpk 11 23 16 4095 ?_
  refine take_ (i := 12) (N := some 24) (v := _) (a' := ?_) (zm 16 8191) rfl rfl (by kernel_rfl) (fun _ _ _ h => h) (yieldsIf_load_mid (by rfl) 39 (.tmp 3) rfl gb 0 rfl cs _ (fun W h => range_ h.1) Tryz.underlying39 rfl (by rw [LC.out]; kernel_rfl)) hHeld ?_ ?_
  rotate_left
  · simp only [Act.put, List.setIfInBounds_toArray, List.set_cons_zero, List.set_cons_succ, i64_w, i32_w]
    rfl
  refine one_ (i := 13) (N := some 25) (zm 16 16383) rfl rfl (by kernel_rfl) (by decide) (fun K hK => ?_)
  refine goes_ Tryz.func50 (by kernel_rfl) rfl #[.agg cs.toArray] (by rfl) rfl rfl (by simp only [List.map_toArray, List.map_cons, List.map_nil]; rfl) ?_
  refine (C13.out _ hHeld.2.2.2).mono ?_
  rintro e w' ⟨rfl, hb⟩
  refine ⟨_, rfl, ?_⟩
  refine hK.out _ _ ⟨((hb.block _ (blk_lt hHeld.1)).trans hHeld.1), (pw_cell_below hb hHeld.2.1), (pw_cell_below hb hHeld.2.2.1), (below_step hHeld.2.2.2 hb)⟩ (fun hHeld => ?_)
  clear hK K
  refine norm_ (a' := ?_) ?_ ?_
  rotate_left
  · show Act.put _ (some 25) _ = _
    simp only [Act.put, List.setIfInBounds_toArray, List.set_cons_zero, List.set_cons_succ, i64_w, i32_w]
    rfl
  refine zpk 14 26 16 32767 ?_
  refine zpk 15 27 16 65535 ?_
  refine done_ (by kernel_rfl) ?_
  have X2 := Aside0.mk hHeld.1
  have B2 := Aside0.mk hHeld.2.2.2
  clear hHeld X1 B1
  go_wp2_with ((with_reducible refine gate_dst (N := 28) rfl ?_); refine Kd.R_lit (Kd.int .i64) _ 3 ?hg (N := 28) ?hd (xs := ([] : List Int)) (inner := []) (ok := fun _ => True) (okp := fun _ => True) ?hr ?hp (fun _ hk => hk) trivial (Below.refl _ _) (Nat.le_refl _) (by simp) ?_; (case hd => rfl); (case hg => rfl); (case hr => first | (go_simp; done) | (go_simp; rfl)); (case hp => exact (Reps.none _ _)); intro v0 w3 ho hb hg_ hnew_; have R3 := Aside0.mk (Kd.R_lower ho B2.out.size); have X3 := Aside0.mk ((hb.block _ (blk_lt X2.out)).trans X2.out); have B3 := Aside0.mk (below_step B2.out hb); have p18 := (cell_of_range X3.out E18.out); clear ho hb hg_ hnew_)
  go_loopw [7, 8] (fun v7 v8 wr => ∃ (i : Nat) (ws : List Int), v8 = .int .i64 i ∧ i ≤ 1 ∧ ws.length = i ∧ (∀ k ∈ ws, 1 ≤ k) ∧ Aside0 (Kd.R (Kd.int .i64) 3 wr w.heap.size (fun _ => True) v7 ws) ∧ wr.cell? ⟨gb, 18, none⟩ = some (.slice A18 1 c18) ∧ Aside0 (wr.heap[gb]? = some (.cells cs.toArray 39 (0, 0))) ∧ Aside0 (Below w.heap.size w wr) ∧
    Aside0 (sWides t x.f9 d = (sWides t (x.f9.drop i) d).map (fun l => ws ++ l))) (fun _ v8 _ => 1 - (intOf v8).toNat)
  case atStart => exact ⟨0, [], rfl, Nat.zero_le _, rfl, by simp, R3, p18, X3, B3, ⟨by simp⟩⟩
  case round =>
    obtain ⟨i, ws, rfl, hi, hwl, hpos, HR, q18, HX, HB, HG⟩ := hrel
    clear p18
    by_cases hlt : i < 1
    · have hlt' : i < x.f9.length := by have := HLEN.out; omega
      obtain ⟨ad, c0, e18, hcl, hK0, hcell⟩ := elem_ G18.out i hlt'
      obtain rfl := e18
      have hsz := szs39_get hlt'
      have LD := Aside0.mk (show c0.length = 19 from hcl)
      have HE := Aside0.mk hcell
      have CA := Aside0.mk (fun (W : World) (hb : Below w.heap.size w W) => IH.out (sz39 x.f9[i]) (by have := SK.out; omega) x.f9[i] c0 A c t d W (Nat.le_refl _) (k39.K_below hb hK0) (K9.out _ (List.getElem_mem hlt')) (Kd.C_below HC.out hb) hc hl (by omega))
      have GD := Aside0.mk (HG.out.trans (by rw [sWides_drop t x.f9 d i hlt']))
      obtain ⟨r, hr⟩ : ∃ r, r = sWide t x.f9[i] d := ⟨_, rfl⟩
      rw [← hr] at CA GD
      have HP := Aside0.mk hpos
      have HWL := Aside0.mk hwl
      clear hK0 hcell hcl hsz HG hr hpos hwl
      go_wp2_with (first
        | ((with_reducible refine gate_dst (N := 40) rfl ?_); refine load_ 39 (.tmp 39) rfl rfl (ad.add (i * 19)) ?hx c0 _ Tryz.underlying39 ?hi (fun j v h => zhs HB.out (HE.out j v h)) ?_; (case hx => first | rfl | (go_simp; done) | (go_simp; rfl)); (case hi => rw [LD.out]; kernel_rfl))
        | (go_at_call 63; refine (CA.out _ HB.out).mono ?_; rintro e w6 ⟨rfl, hB⟩; have HR6 := Aside0.mk (Kd.R_below HR.out hB); have HX6 := Aside0.mk ((hB.block _ (blk_lt HX.out)).trans HX.out); have HB6 := Aside0.mk (below_step HB.out hB); clear hB CA HR HX HB q18)
        | (at_builtin; refine Kd.R_append (Kd.int .i64) (w0 := w) w.heap.size rfl (.tmp 47) (.tmp 49) 27 3 (.int .i64 0) 8 rfl Tryz.underlying27 info3 rfl (by decide) (by omega) _ ws r [.int .i64 r] (fun _ => True) (fun _ => False) rfl rfl ?aP (fun _ hk => hk.elim) ?aF ?aO ?aB ?aS ?aL ?_; (case aP => exact rfl); (case aB => exact HB6.out); (case aF => exact (fun _ _ => trivial)); (case aO => exact HR6.out); (case aS => exact HB6.out.size); (case aL => have := HWL.out; omega); intro v7' w7 ho hb hg hat; have HR7 := Aside0.mk ho; have HB7 := Aside0.mk hb; have HX7 := Aside0.mk ((hg.block _ (blk_lt HX6.out) (Kd.R_ne HR6.out HX6.out (by decide))).trans HX6.out); clear ho hb hg hat))
      · go_ret
        exact ⟨by rw [NONE.out (by rw [GD.out, if_pos (by assumption)]; rfl)]; rfl, HB6.out⟩
      · go_roundw
        case rel => exact ⟨i + 1, ws ++ [r], by go_num, by omega, by simp [HWL.out], by intro k hk; rcases List.mem_append.1 hk with hk | hk; exact HP.out k hk; (simp at hk; omega), HR7, cell_of_range HX7.out E18.out, HX7, HB7, ⟨by rw [GD.out, if_neg (by omega)]; simp [Option.map_map, Function.comp_def]⟩⟩
        case measure => simp [intOf]; omega
    · have GE := Aside0.mk (HG.out.trans (by rw [sWides_end t x.f9 d i (by have := HLEN.out; omega)]; simp : _ = some ws))
      have VV0 := Aside0.mk (SOME.out ws GE.out)
      have hwn : ws.length = 1 := by omega
      have VV := Aside0.mk (show sWide t x (d + 1) = finB (testB' x.f2 (rd ws 0)) (rd ws 0) by rw [VV0.out]; unfold okS wS; rw [HX0.out]; rfl)
      clear hwl
      obtain ⟨gk, c7, rfl, hq⟩ := own_at HR.out (by omega)
      have q0 := hq 0 (by omega)
      have Q0 := Aside0.mk q0
      have h0 : 1 ≤ rd ws 0 := hpos _ (by obtain ⟨a, as_, e⟩ : ∃ a as_, ws = a :: as_ := (by cases ws with | nil => simp at hwn | cons a b => exact ⟨a, b, rfl⟩); rw [e]; exact List.mem_cons_self ..)
      have t0 : 0 < ws.length := by omega
      obtain ⟨k0, hk0⟩ : ∃ k, k = rd ws 0 := ⟨_, rfl⟩
      rw [show rd ws ((0 : Nat) : Int) = rd ws 0 from rfl, ← hk0] at Q0 q0
      rw [← hk0] at h0 VV
      have q0k := cell_of_range HX.out E0.out
      have HK0 := Aside0.mk hk0
      clear hk0
      obtain rfl : i = 1 := by omega
      clear hpos HG GE VV0 hi hlt hwn hq
      go_wp2
      obtain ⟨r, hr⟩ : ∃ r, r = testB' x.f2 k0 := ⟨_, rfl⟩
      have CT := Aside0.mk (fun W => specTestOk_c x.f2 k0 W)
      rw [← hr] at CT VV
      clear hr
      refine start_ (n := 7) (S := fun w' => w'.cell? ⟨gk, 0, none⟩ = some (.int .i64 k0) ∧ w'.heap[gb]? = some (.cells cs.toArray 39 (0, 0)) ∧ Below w.heap.size w w') (ds := []) (zm 7 0) (by kernel_rfl) rfl rfl ⟨(by exact Q0.out), HX.out, (below_drew HB.out)⟩ (fun hHeld => ?_)
      refine zpk 0 106 7 1 ?_
      refine zpk 2 108 7 5 ?_
      refine zpk 3 109 7 13 ?_
      refine take_ (i := 1) (N := some 107) (v := _) (a' := ?_) (zm 7 15) rfl rfl (by kernel_rfl) (fun _ _ _ h => h) (yieldsIf_load_mid (by rfl) 35 (.tmp 106) rfl gb 2 rfl (testCells x.f2) _ (fun W h => range_mid h.2.1 HA.out rfl) Tryz.underlying35 rfl (by kernel_rfl)) hHeld ?_ ?_
      rotate_left
      · simp only [Act.put, List.setIfInBounds_toArray, List.set_cons_zero, List.set_cons_succ, i64_w, i32_w]
        rfl
      refine ztk 4 110 7 31 ?_
      refine one_ (i := 5) (N := some 111) (zm 7 63) rfl rfl (by kernel_rfl) (by decide) (fun K hK => ?_)
      refine goes_ Tryz.func51 (by kernel_rfl) rfl #[.agg (testCells x.f2).toArray, .int .i64 k0] (by rfl) rfl rfl (by simp only [List.map_toArray, List.map_cons, List.map_nil]; rfl) ?_
      refine (CT.out _).mono ?_
      rintro e w' ⟨rfl, hb⟩
      refine ⟨_, rfl, ?_⟩
      refine hK.out _ _ ⟨(pw_cell_below hb hHeld.1), ((hb.block _ (blk_lt hHeld.2.1)).trans hHeld.2.1), (below_step hHeld.2.2 hb)⟩ (fun hHeld => ?_)
      clear hK K
      refine norm_ (a' := ?_) ?_ ?_
      rotate_left
      · show Act.put _ (some 111) _ = _
        simp only [Act.put, List.setIfInBounds_toArray, List.set_cons_zero, List.set_cons_succ, i64_w, i32_w]
        rfl
      refine zpk 6 10 7 127 ?_
      refine done_ (by kernel_rfl) ?_
      have B9 := Aside0.mk hHeld.2.2
      have Q0 := Aside0.mk hHeld.1
      have q0 := Q0.out
      have HX := Aside0.mk hHeld.2.1
      clear hHeld
      cases r
      case' false =>
        go_wp2
        go_ret
        exact ⟨by rw [VV.out, finB_no (.inl rfl)]; rfl, B9.out⟩
      by_cases hw1 : k0 < 1
      · have f1 : decide (k0 < 1) = true := decide_eq_true hw1
        have VV2 := Aside0.mk (VV.out.trans (finB_no (.inr (.inl hw1))))
        clear hw1
        go_wp2
        go_ret
        exact ⟨by rw [VV2.out]; rfl, B9.out⟩
      have f1 : decide (k0 < 1) = false := decide_eq_false hw1
      by_cases hw6 : 6 < k0
      · have f6 : decide (6 < k0) = true := decide_eq_true hw6
        have VV2 := Aside0.mk (VV.out.trans (finB_no (.inr (.inr hw6))))
        clear hw1 hw6
        go_wp2
        go_ret
        exact ⟨by rw [VV2.out]; rfl, B9.out⟩
      have f6 : decide (6 < k0) = false := decide_eq_false hw6
      have VV2 := Aside0.mk (VV.out.trans (finB_yes (by omega) (by omega)))
      clear hw1 hw6
      go_wp2
      go_ret
      exact ⟨by rw [VV2.out]; rfl, B9.out⟩
set_option maxHeartbeats 16000000 in
set_option maxRecDepth 100000 in
theorem l4Wide_map (N : Nat) (ih : ∀ m, m ≤ N → SwP m) (x : S39) (cs : List Value) (A : Option Addr) (c : Nat) (t : List Int) (d : Nat) (w : World) (hK : k39.K w x cs) (hsm : Small39 x) (hr : Kd.C (Kd.int .i64) w A t.length t) (hc : t.length ≤ c) (hl : t.length ≤ 3) (hd : d ≤ 1000) (hn : sz39 x ≤ N + 1) (hx : x.f0 = 3) (hlen : x.f9.length = 1) (hcl : cleanB x = true) :
    Calls Tryz.prog 63 #[.agg cs.toArray, .slice A t.length c, .int .i64 (((d + 1 : Nat) : Int))] w fun e w' => e = .returned (.int .i64 (sWide t x (d + 1))) ∧ Below w.heap.size w w' := by
  have LC := Aside0.mk (show cs.length = 19 from k39.K_len hK)
  obtain ⟨A12, c12, A15, c15, A18, c18, hcs, l12, g12, l15, g15, l18, g18⟩ := k39_open hK
  have E0 := Aside0.mk (show cs[0]? = some (.int .i64 x.f0) by rw [hcs]; rfl)
  have E18 := Aside0.mk (show cs[18]? = some (.slice A18 x.f9.length c18) by rw [hcs]; rfl)
  have HK := Aside0.mk hK
  have NONE := Aside0.mk (sWide_none (t := t) (x := x) (d := d))
  have SOME := Aside0.mk (fun ws => sWide_some (t := t) (x := x) (d := d) (ws := ws) (by rw [hx, hlen]; rfl) hcl)
  have d1 : decide (((d + 1 : Nat) : Int) < 1) = false := decide_eq_false (by omega)
  have C5 := Aside0.mk (fun W => show Calls Tryz.prog 49 #[.int .i64 3] W fun e w' => e = .returned (.int .i64 1) ∧ Below W.heap.size W w' from l4Kids_c 3 W)
  have C13 := Aside0.mk (fun (W : World) (hb : Below w.heap.size w W) => l4Clean_c x cs W (k39.K_below hb hK))
  rw [hcl] at C13
  have G18 := Aside0.mk g18
  have SK := Aside0.mk (show szs39 x.f9 ≤ N by have := sz39_kids x; omega)
  have K9 := Aside0.mk hsm.out.2.2.2
  have IH := Aside0.mk ih
  have HC := Aside0.mk hr
  have HX0 := Aside0.mk hx
  have HLEN := Aside0.mk hlen
  rw [hx] at E0
  rw [hlen] at E18
  have E12 := Aside0.mk (show cs[12]? = some (.slice A12 x.f3.length c12) by rw [hcs]; rfl)
  have G12 := Aside0.mk g12
  have L12 := Aside0.mk l12
  have S3 := Aside0.mk hsm.out.1
  clear hcs l12 g12 l15 g15 l18 g18 hK hr hsm hcl hx hn hlen ih
  go_enter Tryz.func63, Tryz.ntmps63
  go_wp2_with ((with_reducible refine gate_dst (N := 3) rfl ?_); refine box_ 39 (.tmp 0) rfl rfl cs.toArray rfl ?_; intro gb hg w1 hb hB; have X1 := Aside0.mk hb; have B1 := Aside0.mk hB; clear hb hB hg)
  refine start_ (n := 16) (S := fun w' => w'.heap[gb]? = some (.cells cs.toArray 39 (0, 0)) ∧ w'.cell? ⟨gb, 0, none⟩ = some (.int .i64 3) ∧ w'.cell? ⟨gb, 18, none⟩ = some (.slice A18 1 c18) ∧ Below w.heap.size w w') (ds := []) (zm 16 0) (by kernel_rfl) rfl rfl ⟨X1.out, (cell_of_range X1.out E0.out), (cell_of_range X1.out E18.out), (below_drew B1.out)⟩ (fun hHeld => ?_)
  refine zpk 0 12 16 1 ?_
  refine zpk 1 13 16 3 ?_
  refine zpk 2 14 16 7 ?_
  refine zpk 3 15 16 15 ?_
  refine zpk 6 18 16 79 ?_
  refine ztk 4 16 16 95 ?_
  refine ztk 7 19 16 223 ?_
  refine zpk 8 20 16 479 ?_
  refine one_ (i := 5) (N := some 17) (zm 16 511) rfl rfl (by kernel_rfl) (by decide) (fun K hK => ?_)
  refine goes_ Tryz.func49 (by kernel_rfl) rfl #[.int .i64 3] (by rfl) rfl rfl (by simp only [List.map_toArray, List.map_cons, List.map_nil]; rfl) ?_
  refine (C5.out _).mono ?_
  rintro e w' ⟨rfl, hb⟩
  refine ⟨_, rfl, ?_⟩
  refine hK.out _ _ ⟨((hb.block _ (blk_lt hHeld.1)).trans hHeld.1), (pw_cell_below hb hHeld.2.1), (pw_cell_below hb hHeld.2.2.1), (below_step hHeld.2.2.2 hb)⟩ (fun hHeld => ?_)
  clear hK K
  refine norm_ (a' := ?_) ?_ ?_
  rotate_left
  · show Act.put _ (some 17) _ = _
    simp only [Act.put, List.setIfInBounds_toArray, List.set_cons_zero, List.set_cons_succ, i64_w, i32_w]
    rfl
  refine zpk 9 21 16 1023 ?_
  refine zpk 10 22 16 2047 ?_
  refine zpk 11 23 16 4095 ?_
  refine take_ (i := 12) (N := some 24) (v := _) (a' := ?_) (zm 16 8191) rfl rfl (by kernel_rfl) (fun _ _ _ h => h) (yieldsIf_load_mid (by rfl) 39 (.tmp 3) rfl gb 0 rfl cs _ (fun W h => range_ h.1) Tryz.underlying39 rfl (by rw [LC.out]; kernel_rfl)) hHeld ?_ ?_
  rotate_left
  · simp only [Act.put, List.setIfInBounds_toArray, List.set_cons_zero, List.set_cons_succ, i64_w, i32_w]
    rfl
  refine one_ (i := 13) (N := some 25) (zm 16 16383) rfl rfl (by kernel_rfl) (by decide) (fun K hK => ?_)
  refine goes_ Tryz.func50 (by kernel_rfl) rfl #[.agg cs.toArray] (by rfl) rfl rfl (by simp only [List.map_toArray, List.map_cons, List.map_nil]; rfl) ?_
  refine (C13.out _ hHeld.2.2.2).mono ?_
  rintro e w' ⟨rfl, hb⟩
  refine ⟨_, rfl, ?_⟩
  refine hK.out _ _ ⟨((hb.block _ (blk_lt hHeld.1)).trans hHeld.1), (pw_cell_below hb hHeld.2.1), (pw_cell_below hb hHeld.2.2.1), (below_step hHeld.2.2.2 hb)⟩ (fun hHeld => ?_)
  clear hK K
  refine norm_ (a' := ?_) ?_ ?_
  rotate_left
  · show Act.put _ (some 25) _ = _
    simp only [Act.put, List.setIfInBounds_toArray, List.set_cons_zero, List.set_cons_succ, i64_w, i32_w]
    rfl
  refine zpk 14 26 16 32767 ?_
  refine zpk 15 27 16 65535 ?_
  refine done_ (by kernel_rfl) ?_
  have X2 := Aside0.mk hHeld.1
  have B2 := Aside0.mk hHeld.2.2.2
  clear hHeld X1 B1
  go_wp2_with ((with_reducible refine gate_dst (N := 28) rfl ?_); refine Kd.R_lit (Kd.int .i64) _ 3 ?hg (N := 28) ?hd (xs := ([] : List Int)) (inner := []) (ok := fun _ => True) (okp := fun _ => True) ?hr ?hp (fun _ hk => hk) trivial (Below.refl _ _) (Nat.le_refl _) (by simp) ?_; (case hd => rfl); (case hg => rfl); (case hr => first | (go_simp; done) | (go_simp; rfl)); (case hp => exact (Reps.none _ _)); intro v0 w3 ho hb hg_ hnew_; have R3 := Aside0.mk (Kd.R_lower ho B2.out.size); have X3 := Aside0.mk ((hb.block _ (blk_lt X2.out)).trans X2.out); have B3 := Aside0.mk (below_step B2.out hb); have p18 := (cell_of_range X3.out E18.out); clear ho hb hg_ hnew_)
  go_loopw [7, 8] (fun v7 v8 wr => ∃ (i : Nat) (ws : List Int), v8 = .int .i64 i ∧ i ≤ 1 ∧ ws.length = i ∧ (∀ k ∈ ws, 1 ≤ k) ∧ Aside0 (Kd.R (Kd.int .i64) 3 wr w.heap.size (fun _ => True) v7 ws) ∧ wr.cell? ⟨gb, 18, none⟩ = some (.slice A18 1 c18) ∧ Aside0 (wr.heap[gb]? = some (.cells cs.toArray 39 (0, 0))) ∧ Aside0 (Below w.heap.size w wr) ∧
    Aside0 (sWides t x.f9 d = (sWides t (x.f9.drop i) d).map (fun l => ws ++ l))) (fun _ v8 _ => 1 - (intOf v8).toNat)
  case atStart => exact ⟨0, [], rfl, Nat.zero_le _, rfl, by simp, R3, p18, X3, B3, ⟨by simp⟩⟩
  case round =>
    obtain ⟨i, ws, rfl, hi, hwl, hpos, HR, q18, HX, HB, HG⟩ := hrel
    clear p18
    by_cases hlt : i < 1
    · have hlt' : i < x.f9.length := by have := HLEN.out; omega
      obtain ⟨ad, c0, e18, hcl, hK0, hcell⟩ := elem_ G18.out i hlt'
      obtain rfl := e18
      have hsz := szs39_get hlt'
      have LD := Aside0.mk (show c0.length = 19 from hcl)
      have HE := Aside0.mk hcell
      have CA := Aside0.mk (fun (W : World) (hb : Below w.heap.size w W) => IH.out (sz39 x.f9[i]) (by have := SK.out; omega) x.f9[i] c0 A c t d W (Nat.le_refl _) (k39.K_below hb hK0) (K9.out _ (List.getElem_mem hlt')) (Kd.C_below HC.out hb) hc hl (by omega))
      have GD := Aside0.mk (HG.out.trans (by rw [sWides_drop t x.f9 d i hlt']))
      obtain ⟨r, hr⟩ : ∃ r, r = sWide t x.f9[i] d := ⟨_, rfl⟩
      rw [← hr] at CA GD
      have HP := Aside0.mk hpos
      have HWL := Aside0.mk hwl
      clear hK0 hcell hcl hsz HG hr hpos hwl
      go_wp2_with (first
        | ((with_reducible refine gate_dst (N := 40) rfl ?_); refine load_ 39 (.tmp 39) rfl rfl (ad.add (i * 19)) ?hx c0 _ Tryz.underlying39 ?hi (fun j v h => zhs HB.out (HE.out j v h)) ?_; (case hx => first | rfl | (go_simp; done) | (go_simp; rfl)); (case hi => rw [LD.out]; kernel_rfl))
        | (go_at_call 63; refine (CA.out _ HB.out).mono ?_; rintro e w6 ⟨rfl, hB⟩; have HR6 := Aside0.mk (Kd.R_below HR.out hB); have HX6 := Aside0.mk ((hB.block _ (blk_lt HX.out)).trans HX.out); have HB6 := Aside0.mk (below_step HB.out hB); clear hB CA HR HX HB q18)
        | (at_builtin; refine Kd.R_append (Kd.int .i64) (w0 := w) w.heap.size rfl (.tmp 47) (.tmp 49) 27 3 (.int .i64 0) 8 rfl Tryz.underlying27 info3 rfl (by decide) (by omega) _ ws r [.int .i64 r] (fun _ => True) (fun _ => False) rfl rfl ?aP (fun _ hk => hk.elim) ?aF ?aO ?aB ?aS ?aL ?_; (case aP => exact rfl); (case aB => exact HB6.out); (case aF => exact (fun _ _ => trivial)); (case aO => exact HR6.out); (case aS => exact HB6.out.size); (case aL => have := HWL.out; omega); intro v7' w7 ho hb hg hat; have HR7 := Aside0.mk ho; have HB7 := Aside0.mk hb; have HX7 := Aside0.mk ((hg.block _ (blk_lt HX6.out) (Kd.R_ne HR6.out HX6.out (by decide))).trans HX6.out); clear ho hb hg hat))
      · go_ret
        exact ⟨by rw [NONE.out (by rw [GD.out, if_pos (by assumption)]; rfl)]; rfl, HB6.out⟩
      · go_roundw
        case rel => exact ⟨i + 1, ws ++ [r], by go_num, by omega, by simp [HWL.out], by intro k hk; rcases List.mem_append.1 hk with hk | hk; exact HP.out k hk; (simp at hk; omega), HR7, cell_of_range HX7.out E18.out, HX7, HB7, ⟨by rw [GD.out, if_neg (by omega)]; simp [Option.map_map, Function.comp_def]⟩⟩
        case measure => simp [intOf]; omega
    · have GE := Aside0.mk (HG.out.trans (by rw [sWides_end t x.f9 d i (by have := HLEN.out; omega)]; simp : _ = some ws))
      have VV0 := Aside0.mk (SOME.out ws GE.out)
      have hwn : ws.length = 1 := by omega
      have VV := Aside0.mk (show sWide t x (d + 1) = finB (cellsB x.f3 (rd ws 0)) ((x.f3.length : Int)) by rw [VV0.out]; unfold okS wS; rw [HX0.out]; rfl)
      clear hwl
      obtain ⟨gk, c7, rfl, hq⟩ := own_at HR.out (by omega)
      have q0 := hq 0 (by omega)
      have Q0 := Aside0.mk q0
      have h0 : 1 ≤ rd ws 0 := hpos _ (by obtain ⟨a, as_, e⟩ : ∃ a as_, ws = a :: as_ := (by cases ws with | nil => simp at hwn | cons a b => exact ⟨a, b, rfl⟩); rw [e]; exact List.mem_cons_self ..)
      have t0 : 0 < ws.length := by omega
      obtain ⟨k0, hk0⟩ : ∃ k, k = rd ws 0 := ⟨_, rfl⟩
      rw [show rd ws ((0 : Nat) : Int) = rd ws 0 from rfl, ← hk0] at Q0 q0
      rw [← hk0] at h0 VV
      have q0k := cell_of_range HX.out E0.out
      have qf3 := cell_of_range HX.out E12.out
      have HK0 := Aside0.mk hk0
      clear hk0
      obtain rfl : i = 1 := by omega
      clear hpos HG GE VV0 hi hlt hwn hq
      go_wp2
      obtain ⟨r, hr⟩ : ∃ r, r = cellsB x.f3 k0 := ⟨_, rfl⟩
      have CT := Aside0.mk (fun W hr => l4Cells_c A12 c12 x.f3 k0 W S3.out hr L12.out)
      rw [← hr] at CT VV
      clear hr
      refine start_ (n := 7) (S := fun w' => w'.cell? ⟨gk, 0, none⟩ = some (.int .i64 k0) ∧ w'.cell? ⟨gb, 12, none⟩ = some (.slice A12 x.f3.length c12) ∧ Below w.heap.size w w') (ds := []) (zm 7 0) (by kernel_rfl) rfl rfl ⟨(by exact Q0.out), (cell_of_range HX.out E12.out), (below_drew HB.out)⟩ (fun hHeld => ?_)
      refine zpk 0 117 7 1 ?_
      refine zpk 2 119 7 5 ?_
      refine zpk 3 120 7 13 ?_
      refine ztk 1 118 7 15 ?_
      refine ztk 4 121 7 31 ?_
      refine one_ (i := 5) (N := some 122) (zm 7 63) rfl rfl (by kernel_rfl) (by decide) (fun K hK => ?_)
      refine goes_ Tryz.func52 (by kernel_rfl) rfl #[.slice A12 x.f3.length c12, .int .i64 k0] (by rfl) rfl rfl (by simp only [List.map_toArray, List.map_cons, List.map_nil]; rfl) ?_
      refine (CT.out _ (Kd.C_below G12.out hHeld.2.2)).mono ?_
      rintro e w' ⟨rfl, hb⟩
      refine ⟨_, rfl, ?_⟩
      refine hK.out _ _ ⟨(pw_cell_below hb hHeld.1), (pw_cell_below hb hHeld.2.1), (below_step hHeld.2.2 hb)⟩ (fun hHeld => ?_)
      clear hK K
      refine norm_ (a' := ?_) ?_ ?_
      rotate_left
      · show Act.put _ (some 122) _ = _
        simp only [Act.put, List.setIfInBounds_toArray, List.set_cons_zero, List.set_cons_succ, i64_w, i32_w]
        rfl
      refine zpk 6 10 7 127 ?_
      refine done_ (by kernel_rfl) ?_
      have B9 := Aside0.mk hHeld.2.2
      have Q0 := Aside0.mk hHeld.1
      have q0 := Q0.out
      have qf3 := hHeld.2.1
      clear hHeld
      cases r
      case' false =>
        go_wp2
        go_ret
        exact ⟨by rw [VV.out, finB_no (.inl rfl)]; rfl, B9.out⟩
      by_cases hw1 : (x.f3.length : Int) < 1
      · have f1 : decide ((x.f3.length : Int) < 1) = true := decide_eq_true hw1
        have VV2 := Aside0.mk (VV.out.trans (finB_no (.inr (.inl hw1))))
        clear hw1
        go_wp2
        go_ret
        exact ⟨by rw [VV2.out]; rfl, B9.out⟩
      have f1 : decide ((x.f3.length : Int) < 1) = false := decide_eq_false hw1
      by_cases hw6 : 6 < (x.f3.length : Int)
      · have f6 : decide (6 < (x.f3.length : Int)) = true := decide_eq_true hw6
        have VV2 := Aside0.mk (VV.out.trans (finB_no (.inr (.inr hw6))))
        clear hw1 hw6
        go_wp2
        go_ret
        exact ⟨by rw [VV2.out]; rfl, B9.out⟩
      have f6 : decide (6 < (x.f3.length : Int)) = false := decide_eq_false hw6
      have VV2 := Aside0.mk (VV.out.trans (finB_yes (by omega) (by omega)))
      clear hw1 hw6
      go_wp2
      go_ret
      exact ⟨by rw [VV2.out]; rfl, B9.out⟩
set_option maxHeartbeats 16000000 in
set_option maxRecDepth 100000 in
theorem l4Wide_join (N : Nat) (ih : ∀ m, m ≤ N → SwP m) (x : S39) (cs : List Value) (A : Option Addr) (c : Nat) (t : List Int) (d : Nat) (w : World) (hK : k39.K w x cs) (hsm : Small39 x) (hr : Kd.C (Kd.int .i64) w A t.length t) (hc : t.length ≤ c) (hl : t.length ≤ 3) (hd : d ≤ 1000) (hn : sz39 x ≤ N + 1) (hx : x.f0 = 4) (hlen : x.f9.length = 2) (hcl : cleanB x = true) :
    Calls Tryz.prog 63 #[.agg cs.toArray, .slice A t.length c, .int .i64 (((d + 1 : Nat) : Int))] w fun e w' => e = .returned (.int .i64 (sWide t x (d + 1))) ∧ Below w.heap.size w w' := by
  have LC := Aside0.mk (show cs.length = 19 from k39.K_len hK)
  obtain ⟨A12, c12, A15, c15, A18, c18, hcs, l12, g12, l15, g15, l18, g18⟩ := k39_open hK
  have E0 := Aside0.mk (show cs[0]? = some (.int .i64 x.f0) by rw [hcs]; rfl)
  have E18 := Aside0.mk (show cs[18]? = some (.slice A18 x.f9.length c18) by rw [hcs]; rfl)
  have HK := Aside0.mk hK
  have NONE := Aside0.mk (sWide_none (t := t) (x := x) (d := d))
  have SOME := Aside0.mk (fun ws => sWide_some (t := t) (x := x) (d := d) (ws := ws) (by rw [hx, hlen]; rfl) hcl)
  have d1 : decide (((d + 1 : Nat) : Int) < 1) = false := decide_eq_false (by omega)
  have C5 := Aside0.mk (fun W => show Calls Tryz.prog 49 #[.int .i64 4] W fun e w' => e = .returned (.int .i64 2) ∧ Below W.heap.size W w' from l4Kids_c 4 W)
  have C13 := Aside0.mk (fun (W : World) (hb : Below w.heap.size w W) => l4Clean_c x cs W (k39.K_below hb hK))
  rw [hcl] at C13
  have G18 := Aside0.mk g18
  have SK := Aside0.mk (show szs39 x.f9 ≤ N by have := sz39_kids x; omega)
  have K9 := Aside0.mk hsm.out.2.2.2
  have IH := Aside0.mk ih
  have HC := Aside0.mk hr
  have HX0 := Aside0.mk hx
  have HLEN := Aside0.mk hlen
  rw [hx] at E0
  rw [hlen] at E18
  have E13 := Aside0.mk (show cs[13]? = some (.int .i64 x.f4) by rw [hcs]; rfl)
  have E14 := Aside0.mk (show cs[14]? = some (.int .i64 x.f5) by rw [hcs]; rfl)
  clear hcs l12 g12 l15 g15 l18 g18 hK hr hsm hcl hx hn hlen ih
  go_enter Tryz.func63, Tryz.ntmps63
  go_wp2_with ((with_reducible refine gate_dst (N := 3) rfl ?_); refine box_ 39 (.tmp 0) rfl rfl cs.toArray rfl ?_; intro gb hg w1 hb hB; have X1 := Aside0.mk hb; have B1 := Aside0.mk hB; clear hb hB hg)
  refine start_ (n := 16) (S := fun w' => w'.heap[gb]? = some (.cells cs.toArray 39 (0, 0)) ∧ w'.cell? ⟨gb, 0, none⟩ = some (.int .i64 4) ∧ w'.cell? ⟨gb, 18, none⟩ = some (.slice A18 2 c18) ∧ Below w.heap.size w w') (ds := []) (zm 16 0) (by kernel_rfl) rfl rfl ⟨X1.out, (cell_of_range X1.out E0.out), (cell_of_range X1.out E18.out), (below_drew B1.out)⟩ (fun hHeld => ?_)
  refine zpk 0 12 16 1 ?_
  refine zpk 1 13 16 3 ?_
  refine zpk 2 14 16 7 ?_
  refine zpk 3 15 16 15 ?_
  refine zpk 6 18 16 79 ?_
  refine ztk 4 16 16 95 ?_
  refine ztk 7 19 16 223 ?_
  refine zpk 8 20 16 479 ?_
  refine one_ (i := 5) (N := some 17) (zm 16 511) rfl rfl (by kernel_rfl) (by decide) (fun K hK => ?_)
  refine goes_ Tryz.func49 (by kernel_rfl) rfl #[.int .i64 4] (by rfl) rfl rfl (by simp only [List.map_toArray, List.map_cons, List.map_nil]; rfl) ?_
  refine (C5.out _).mono ?_
  rintro e w' ⟨rfl, hb⟩
  refine ⟨_, rfl, ?_⟩
  refine hK.out _ _ ⟨((hb.block _ (blk_lt hHeld.1)).trans hHeld.1), (pw_cell_below hb hHeld.2.1), (pw_cell_below hb hHeld.2.2.1), (below_step hHeld.2.2.2 hb)⟩ (fun hHeld => ?_)
  clear hK K
  refine norm_ (a' := ?_) ?_ ?_
  rotate_left
  · show Act.put _ (some 17) _ = _
    simp only [Act.put, List.setIfInBounds_toArray, List.set_cons_zero, List.set_cons_succ, i64_w, i32_w]
    rfl
  refine zpk 9 21 16 1023 ?_
  refine zpk 10 22 16 2047 ?_
  refine zpk 11 23 16 4095 ?_
  refine take_ (i := 12) (N := some 24) (v := _) (a' := ?_) (zm 16 8191) rfl rfl (by kernel_rfl) (fun _ _ _ h => h) (yieldsIf_load_mid (by rfl) 39 (.tmp 3) rfl gb 0 rfl cs _ (fun W h => range_ h.1) Tryz.underlying39 rfl (by rw [LC.out]; kernel_rfl)) hHeld ?_ ?_
  rotate_left
  · simp only [Act.put, List.setIfInBounds_toArray, List.set_cons_zero, List.set_cons_succ, i64_w, i32_w]
    rfl
  refine one_ (i := 13) (N := some 25) (zm 16 16383) rfl rfl (by kernel_rfl) (by decide) (fun K hK => ?_)
  refine goes_ Tryz.func50 (by kernel_rfl) rfl #[.agg cs.toArray] (by rfl) rfl rfl (by simp only [List.map_toArray, List.map_cons, List.map_nil]; rfl) ?_
  refine (C13.out _ hHeld.2.2.2).mono ?_
  rintro e w' ⟨rfl, hb⟩
  refine ⟨_, rfl, ?_⟩
  refine hK.out _ _ ⟨((hb.block _ (blk_lt hHeld.1)).trans hHeld.1), (pw_cell_below hb hHeld.2.1), (pw_cell_below hb hHeld.2.2.1), (below_step hHeld.2.2.2 hb)⟩ (fun hHeld => ?_)
  clear hK K
  refine norm_ (a' := ?_) ?_ ?_
  rotate_left
  · show Act.put _ (some 25) _ = _
    simp only [Act.put, List.setIfInBounds_toArray, List.set_cons_zero, List.set_cons_succ, i64_w, i32_w]
    rfl
  refine zpk 14 26 16 32767 ?_
  refine zpk 15 27 16 65535 ?_
  refine done_ (by kernel_rfl) ?_
  have X2 := Aside0.mk hHeld.1
  have B2 := Aside0.mk hHeld.2.2.2
  clear hHeld X1 B1
  go_wp2_with ((with_reducible refine gate_dst (N := 28) rfl ?_); refine Kd.R_lit (Kd.int .i64) _ 3 ?hg (N := 28) ?hd (xs := ([] : List Int)) (inner := []) (ok := fun _ => True) (okp := fun _ => True) ?hr ?hp (fun _ hk => hk) trivial (Below.refl _ _) (Nat.le_refl _) (by simp) ?_; (case hd => rfl); (case hg => rfl); (case hr => first | (go_simp; done) | (go_simp; rfl)); (case hp => exact (Reps.none _ _)); intro v0 w3 ho hb hg_ hnew_; have R3 := Aside0.mk (Kd.R_lower ho B2.out.size); have X3 := Aside0.mk ((hb.block _ (blk_lt X2.out)).trans X2.out); have B3 := Aside0.mk (below_step B2.out hb); have p18 := (cell_of_range X3.out E18.out); clear ho hb hg_ hnew_)
  go_loopw [7, 8] (fun v7 v8 wr => ∃ (i : Nat) (ws : List Int), v8 = .int .i64 i ∧ i ≤ 2 ∧ ws.length = i ∧ (∀ k ∈ ws, 1 ≤ k) ∧ Aside0 (Kd.R (Kd.int .i64) 3 wr w.heap.size (fun _ => True) v7 ws) ∧ wr.cell? ⟨gb, 18, none⟩ = some (.slice A18 2 c18) ∧ Aside0 (wr.heap[gb]? = some (.cells cs.toArray 39 (0, 0))) ∧ Aside0 (Below w.heap.size w wr) ∧
    Aside0 (sWides t x.f9 d = (sWides t (x.f9.drop i) d).map (fun l => ws ++ l))) (fun _ v8 _ => 2 - (intOf v8).toNat)
  case atStart => exact ⟨0, [], rfl, Nat.zero_le _, rfl, by simp, R3, p18, X3, B3, ⟨by simp⟩⟩
  case round =>
    obtain ⟨i, ws, rfl, hi, hwl, hpos, HR, q18, HX, HB, HG⟩ := hrel
    clear p18
    by_cases hlt : i < 2
    · have hlt' : i < x.f9.length := by have := HLEN.out; omega
      obtain ⟨ad, c0, e18, hcl, hK0, hcell⟩ := elem_ G18.out i hlt'
      obtain rfl := e18
      have hsz := szs39_get hlt'
      have LD := Aside0.mk (show c0.length = 19 from hcl)
      have HE := Aside0.mk hcell
      have CA := Aside0.mk (fun (W : World) (hb : Below w.heap.size w W) => IH.out (sz39 x.f9[i]) (by have := SK.out; omega) x.f9[i] c0 A c t d W (Nat.le_refl _) (k39.K_below hb hK0) (K9.out _ (List.getElem_mem hlt')) (Kd.C_below HC.out hb) hc hl (by omega))
      have GD := Aside0.mk (HG.out.trans (by rw [sWides_drop t x.f9 d i hlt']))
      obtain ⟨r, hr⟩ : ∃ r, r = sWide t x.f9[i] d := ⟨_, rfl⟩
      rw [← hr] at CA GD
      have HP := Aside0.mk hpos
      have HWL := Aside0.mk hwl
      clear hK0 hcell hcl hsz HG hr hpos hwl
      go_wp2_with (first
        | ((with_reducible refine gate_dst (N := 40) rfl ?_); refine load_ 39 (.tmp 39) rfl rfl (ad.add (i * 19)) ?hx c0 _ Tryz.underlying39 ?hi (fun j v h => zhs HB.out (HE.out j v h)) ?_; (case hx => first | rfl | (go_simp; done) | (go_simp; rfl)); (case hi => rw [LD.out]; kernel_rfl))
        | (go_at_call 63; refine (CA.out _ HB.out).mono ?_; rintro e w6 ⟨rfl, hB⟩; have HR6 := Aside0.mk (Kd.R_below HR.out hB); have HX6 := Aside0.mk ((hB.block _ (blk_lt HX.out)).trans HX.out); have HB6 := Aside0.mk (below_step HB.out hB); clear hB CA HR HX HB q18)
        | (at_builtin; refine Kd.R_append (Kd.int .i64) (w0 := w) w.heap.size rfl (.tmp 47) (.tmp 49) 27 3 (.int .i64 0) 8 rfl Tryz.underlying27 info3 rfl (by decide) (by omega) _ ws r [.int .i64 r] (fun _ => True) (fun _ => False) rfl rfl ?aP (fun _ hk => hk.elim) ?aF ?aO ?aB ?aS ?aL ?_; (case aP => exact rfl); (case aB => exact HB6.out); (case aF => exact (fun _ _ => trivial)); (case aO => exact HR6.out); (case aS => exact HB6.out.size); (case aL => have := HWL.out; omega); intro v7' w7 ho hb hg hat; have HR7 := Aside0.mk ho; have HB7 := Aside0.mk hb; have HX7 := Aside0.mk ((hg.block _ (blk_lt HX6.out) (Kd.R_ne HR6.out HX6.out (by decide))).trans HX6.out); clear ho hb hg hat))
      · go_ret
        exact ⟨by rw [NONE.out (by rw [GD.out, if_pos (by assumption)]; rfl)]; rfl, HB6.out⟩
      · go_roundw
        case rel => exact ⟨i + 1, ws ++ [r], by go_num, by omega, by simp [HWL.out], by intro k hk; rcases List.mem_append.1 hk with hk | hk; exact HP.out k hk; (simp at hk; omega), HR7, cell_of_range HX7.out E18.out, HX7, HB7, ⟨by rw [GD.out, if_neg (by omega)]; simp [Option.map_map, Function.comp_def]⟩⟩
        case measure => simp [intOf]; omega
    · have GE := Aside0.mk (HG.out.trans (by rw [sWides_end t x.f9 d i (by have := HLEN.out; omega)]; simp : _ = some ws))
      have VV0 := Aside0.mk (SOME.out ws GE.out)
      have hwn : ws.length = 2 := by omega
      have VV := Aside0.mk (show sWide t x (d + 1) = finB (colB x.f4 (rd ws 0) && colB x.f5 (rd ws 1)) (wrap64 (rd ws 0 + rd ws 1)) by rw [VV0.out]; unfold okS wS; rw [HX0.out]; rfl)
      clear hwl
      obtain ⟨gk, c7, rfl, hq⟩ := own_at HR.out (by omega)
      have q0 := hq 0 (by omega)
      have q1 := hq 1 (by omega)
      have Q0 := Aside0.mk q0
      have Q1 := Aside0.mk q1
      have h0 : 1 ≤ rd ws 0 := hpos _ (by obtain ⟨a, as_, e⟩ : ∃ a as_, ws = a :: as_ := (by cases ws with | nil => simp at hwn | cons a b => exact ⟨a, b, rfl⟩); rw [e]; exact List.mem_cons_self ..)
      have t0 : 0 < ws.length := by omega
      have t1 : (1 : Int) < (ws.length : Int) := by omega
      obtain ⟨k0, hk0⟩ : ∃ k, k = rd ws 0 := ⟨_, rfl⟩
      rw [show rd ws ((0 : Nat) : Int) = rd ws 0 from rfl, ← hk0] at Q0 q0
      rw [← hk0] at h0 VV
      obtain ⟨k1, hk1⟩ : ∃ k, k = rd ws 1 := ⟨_, rfl⟩
      rw [show rd ws ((1 : Nat) : Int) = rd ws 1 from rfl, ← hk1] at Q1 q1
      rw [← hk1] at VV
      have q0k := cell_of_range HX.out E0.out
      have qf4 := cell_of_range HX.out E13.out
      have qf5 := cell_of_range HX.out E14.out
      have HK0 := Aside0.mk hk0
      clear hk0
      have HK1 := Aside0.mk hk1
      clear hk1
      obtain rfl : i = 2 := by omega
      clear hpos HG GE VV0 hi hlt hwn hq
      go_wp2
      have C4 := Aside0.mk (fun W => l3Col_c x.f4 k0 W)
      obtain ⟨r4, hr4⟩ : ∃ r, r = colB x.f4 k0 := ⟨_, rfl⟩
      rw [← hr4] at C4 VV
      clear hr4
      cases r4
      · rw [Bool.false_and] at VV
        refine start_ (n := 15) (S := fun w' => w'.cell? ⟨gk, 0, none⟩ = some (.int .i64 k0) ∧ w'.cell? ⟨gk, 1, none⟩ = some (.int .i64 k1) ∧ w'.cell? ⟨gb, 13, none⟩ = some (.int .i64 x.f4) ∧ w'.cell? ⟨gb, 14, none⟩ = some (.int .i64 x.f5) ∧ Below w.heap.size w w') (ds := []) (zm 15 0) (by kernel_rfl) rfl rfl ⟨(by exact Q0.out), (by exact Q1.out), (cell_of_range HX.out E13.out), (cell_of_range HX.out E14.out), (below_drew HB.out)⟩ (fun hHeld => ?_)
        refine zpk 0 128 15 1 ?_
        refine zpk 2 130 15 5 ?_
        refine zpk 3 131 15 13 ?_
        refine ztk 1 129 15 15 ?_
        refine ztk 4 132 15 31 ?_
        refine one_ (i := 5) (N := some 133) (zm 15 63) rfl rfl (by kernel_rfl) (by decide) (fun K hK => ?_)
        refine goes_ Tryz.func53 (by kernel_rfl) rfl #[.int .i64 x.f4, .int .i64 k0] (by rfl) rfl rfl (by simp only [List.map_toArray, List.map_cons, List.map_nil]; rfl) ?_
        refine (C4.out _).mono ?_
        rintro e w' ⟨rfl, hb⟩
        refine ⟨_, rfl, ?_⟩
        refine hK.out _ _ ⟨(pw_cell_below hb hHeld.1), (pw_cell_below hb hHeld.2.1), (pw_cell_below hb hHeld.2.2.1), (pw_cell_below hb hHeld.2.2.2.1), (below_step hHeld.2.2.2.2 hb)⟩ (fun hHeld => ?_)
        clear hK K
        refine norm_ (a' := ?_) ?_ ?_
        rotate_left
        · show Act.put _ (some 133) _ = _
          simp only [Act.put, List.setIfInBounds_toArray, List.set_cons_zero, List.set_cons_succ, i64_w, i32_w]
          rfl
        refine zpk 6 134 15 127 ?_
        refine zqk 7 135 15 255 ?_
        refine zqk 8 136 15 511 ?_
        refine zqk 9 137 15 1023 ?_
        refine zqk 10 138 15 2047 ?_
        refine zqk 11 139 15 4095 ?_
        refine zqk 12 140 15 8191 ?_
        refine zpk 13 141 15 16383 ?_
        refine zpk 14 10 15 32767 ?_
        refine done_ (by kernel_rfl) ?_
        have B8 := Aside0.mk hHeld.2.2.2.2
        have Q0 := Aside0.mk hHeld.1
        have q0 := Q0.out
        have Q1 := Aside0.mk hHeld.2.1
        have q1 := Q1.out
        have qf4 := hHeld.2.2.1
        have qf5 := hHeld.2.2.2.1
        clear hHeld
        go_wp2
        have HB := B8
        refine start_ (n := 8) (S := fun w' => w'.cell? ⟨gk, 0, none⟩ = some (.int .i64 k0) ∧ w'.cell? ⟨gk, 1, none⟩ = some (.int .i64 k1) ∧ Below w.heap.size w w') (ds := []) (zm 8 0) (by kernel_rfl) rfl rfl ⟨(by exact Q0.out), (by exact Q1.out), (below_drew HB.out)⟩ (fun hHeld => ?_)
        refine zpk 0 142 8 1 ?_
        refine zpk 1 143 8 3 ?_
        refine zpk 3 145 8 11 ?_
        refine zpk 4 146 8 27 ?_
        refine ztk 2 144 8 31 ?_
        refine ztk 5 147 8 63 ?_
        refine zpk 6 148 8 127 ?_
        refine zpk 7 11 8 255 ?_
        refine done_ (by kernel_rfl) ?_
        have B9 := Aside0.mk hHeld.2.2
        have Q0 := Aside0.mk hHeld.1
        have q0 := Q0.out
        have Q1 := Aside0.mk hHeld.2.1
        have q1 := Q1.out
        clear hHeld
        go_wp2
        go_ret
        exact ⟨by rw [VV.out, finB_no (.inl rfl)]; rfl, B9.out⟩
      · obtain ⟨r, hr⟩ : ∃ r, r = colB x.f5 k1 := ⟨_, rfl⟩
        have C6 := Aside0.mk (fun W => l3Col_c x.f5 k1 W)
        rw [← hr, Bool.true_and] at VV
        rw [← hr] at C6
        clear hr
        refine start_ (n := 15) (S := fun w' => w'.cell? ⟨gk, 0, none⟩ = some (.int .i64 k0) ∧ w'.cell? ⟨gk, 1, none⟩ = some (.int .i64 k1) ∧ w'.cell? ⟨gb, 13, none⟩ = some (.int .i64 x.f4) ∧ w'.cell? ⟨gb, 14, none⟩ = some (.int .i64 x.f5) ∧ Below w.heap.size w w') (ds := []) (zm 15 0) (by kernel_rfl) rfl rfl ⟨(by exact Q0.out), (by exact Q1.out), (cell_of_range HX.out E13.out), (cell_of_range HX.out E14.out), (below_drew HB.out)⟩ (fun hHeld => ?_)
        refine zpk 0 128 15 1 ?_
        refine zpk 2 130 15 5 ?_
        refine zpk 3 131 15 13 ?_
        refine ztk 1 129 15 15 ?_
        refine ztk 4 132 15 31 ?_
        refine one_ (i := 5) (N := some 133) (zm 15 63) rfl rfl (by kernel_rfl) (by decide) (fun K hK => ?_)
        refine goes_ Tryz.func53 (by kernel_rfl) rfl #[.int .i64 x.f4, .int .i64 k0] (by rfl) rfl rfl (by simp only [List.map_toArray, List.map_cons, List.map_nil]; rfl) ?_
        refine (C4.out _).mono ?_
        rintro e w' ⟨rfl, hb⟩
        refine ⟨_, rfl, ?_⟩
        refine hK.out _ _ ⟨(pw_cell_below hb hHeld.1), (pw_cell_below hb hHeld.2.1), (pw_cell_below hb hHeld.2.2.1), (pw_cell_below hb hHeld.2.2.2.1), (below_step hHeld.2.2.2.2 hb)⟩ (fun hHeld => ?_)
        clear hK K
        refine norm_ (a' := ?_) ?_ ?_
        rotate_left
        · show Act.put _ (some 133) _ = _
          simp only [Act.put, List.setIfInBounds_toArray, List.set_cons_zero, List.set_cons_succ, i64_w, i32_w]
          rfl
        refine zpk 6 134 15 127 ?_
        refine zpk 7 135 15 255 ?_
        refine zpk 9 137 15 767 ?_
        refine zpk 10 138 15 1791 ?_
        refine ztk 8 136 15 2047 ?_
        refine ztk 11 139 15 4095 ?_
        refine one_ (i := 12) (N := some 140) (zm 15 8191) rfl rfl (by kernel_rfl) (by decide) (fun K hK => ?_)
        refine goes_ Tryz.func53 (by kernel_rfl) rfl #[.int .i64 x.f5, .int .i64 k1] (by rfl) rfl rfl (by simp only [List.map_toArray, List.map_cons, List.map_nil]; rfl) ?_
        refine (C6.out _).mono ?_
        rintro e w' ⟨rfl, hb⟩
        refine ⟨_, rfl, ?_⟩
        refine hK.out _ _ ⟨(pw_cell_below hb hHeld.1), (pw_cell_below hb hHeld.2.1), (pw_cell_below hb hHeld.2.2.1), (pw_cell_below hb hHeld.2.2.2.1), (below_step hHeld.2.2.2.2 hb)⟩ (fun hHeld => ?_)
        clear hK K
        refine norm_ (a' := ?_) ?_ ?_
        rotate_left
        · show Act.put _ (some 140) _ = _
          simp only [Act.put, List.setIfInBounds_toArray, List.set_cons_zero, List.set_cons_succ, i64_w, i32_w]
          rfl
        refine zpk 13 141 15 16383 ?_
        refine zpk 14 10 15 32767 ?_
        refine done_ (by kernel_rfl) ?_
        have B8 := Aside0.mk hHeld.2.2.2.2
        have Q0 := Aside0.mk hHeld.1
        have q0 := Q0.out
        have Q1 := Aside0.mk hHeld.2.1
        have q1 := Q1.out
        have qf4 := hHeld.2.2.1
        have qf5 := hHeld.2.2.2.1
        clear hHeld
        go_wp2
        have HB := B8
        refine start_ (n := 8) (S := fun w' => w'.cell? ⟨gk, 0, none⟩ = some (.int .i64 k0) ∧ w'.cell? ⟨gk, 1, none⟩ = some (.int .i64 k1) ∧ Below w.heap.size w w') (ds := []) (zm 8 0) (by kernel_rfl) rfl rfl ⟨(by exact Q0.out), (by exact Q1.out), (below_drew HB.out)⟩ (fun hHeld => ?_)
        refine zpk 0 142 8 1 ?_
        refine zpk 1 143 8 3 ?_
        refine zpk 3 145 8 11 ?_
        refine zpk 4 146 8 27 ?_
        refine ztk 2 144 8 31 ?_
        refine ztk 5 147 8 63 ?_
        refine zpk 6 148 8 127 ?_
        refine zpk 7 11 8 255 ?_
        refine done_ (by kernel_rfl) ?_
        have B9 := Aside0.mk hHeld.2.2
        have Q0 := Aside0.mk hHeld.1
        have q0 := Q0.out
        have Q1 := Aside0.mk hHeld.2.1
        have q1 := Q1.out
        clear hHeld
        cases r
        case' false =>
          go_wp2
          go_ret
          exact ⟨by rw [VV.out, finB_no (.inl rfl)]; rfl, B9.out⟩
        by_cases hw1 : (wrap64 (k0 + k1)) < 1
        · have f1 : decide ((wrap64 (k0 + k1)) < 1) = true := decide_eq_true hw1
          have VV2 := Aside0.mk (VV.out.trans (finB_no (.inr (.inl hw1))))
          clear hw1
          go_wp2
          go_ret
          exact ⟨by rw [VV2.out]; rfl, B9.out⟩
        have f1 : decide ((wrap64 (k0 + k1)) < 1) = false := decide_eq_false hw1
        by_cases hw6 : 6 < (wrap64 (k0 + k1))
        · have f6 : decide (6 < (wrap64 (k0 + k1))) = true := decide_eq_true hw6
          have VV2 := Aside0.mk (VV.out.trans (finB_no (.inr (.inr hw6))))
          clear hw1 hw6
          go_wp2
          go_ret
          exact ⟨by rw [VV2.out]; rfl, B9.out⟩
        have f6 : decide (6 < (wrap64 (k0 + k1))) = false := decide_eq_false hw6
        have VV2 := Aside0.mk (VV.out.trans (finB_yes (by omega) (by omega)))
        clear hw1 hw6
        go_wp2
        go_ret
        exact ⟨by rw [VV2.out]; rfl, B9.out⟩
set_option maxHeartbeats 16000000 in
set_option maxRecDepth 100000 in
theorem l4Wide_tabA (N : Nat) (ih : ∀ m, m ≤ N → SwP m) (x : S39) (cs : List Value) (A : Option Addr) (c : Nat) (t : List Int) (d : Nat) (w : World) (hK : k39.K w x cs) (hsm : Small39 x) (hr : Kd.C (Kd.int .i64) w A t.length t) (hc : t.length ≤ c) (hl : t.length ≤ 3) (hd : d ≤ 1000) (hn : sz39 x ≤ N + 1) (hx : x.f0 = 1) (hlen : x.f9.length = 0) (hcl : cleanB x = true) (h1 : x.f1 < 0) :
    Calls Tryz.prog 63 #[.agg cs.toArray, .slice A t.length c, .int .i64 (((d + 1 : Nat) : Int))] w fun e w' => e = .returned (.int .i64 (sWide t x (d + 1))) ∧ Below w.heap.size w w' := by
  have LC := Aside0.mk (show cs.length = 19 from k39.K_len hK)
  obtain ⟨A12, c12, A15, c15, A18, c18, hcs, l12, g12, l15, g15, l18, g18⟩ := k39_open hK
  have E0 := Aside0.mk (show cs[0]? = some (.int .i64 x.f0) by rw [hcs]; rfl)
  have E18 := Aside0.mk (show cs[18]? = some (.slice A18 x.f9.length c18) by rw [hcs]; rfl)
  have HK := Aside0.mk hK
  have NONE := Aside0.mk (sWide_none (t := t) (x := x) (d := d))
  have SOME := Aside0.mk (fun ws => sWide_some (t := t) (x := x) (d := d) (ws := ws) (by rw [hx, hlen]; rfl) hcl)
  have d1 : decide (((d + 1 : Nat) : Int) < 1) = false := decide_eq_false (by omega)
  have C5 := Aside0.mk (fun W => show Calls Tryz.prog 49 #[.int .i64 1] W fun e w' => e = .returned (.int .i64 0) ∧ Below W.heap.size W w' from l4Kids_c 1 W)
  have C13 := Aside0.mk (fun (W : World) (hb : Below w.heap.size w W) => l4Clean_c x cs W (k39.K_below hb hK))
  rw [hcl] at C13
  have G18 := Aside0.mk g18
  have SK := Aside0.mk (show szs39 x.f9 ≤ N by have := sz39_kids x; omega)
  have K9 := Aside0.mk hsm.out.2.2.2
  have IH := Aside0.mk ih
  have HC := Aside0.mk hr
  have HX0 := Aside0.mk hx
  have HLEN := Aside0.mk hlen
  rw [hx] at E0
  rw [hlen] at E18
  have E1 := Aside0.mk (show cs[1]? = some (.int .i64 x.f1) by rw [hcs]; rfl)
  have OK := Aside0.mk (show decide (0 ≤ x.f1 ∧ x.f1 < t.length) = false from decide_eq_false (by omega))
  have d1 : decide (0 ≤ x.f1) = false := decide_eq_false (by omega)
  clear h1
  clear hcs l12 g12 l15 g15 l18 g18 hK hr hsm hcl hx hn hlen ih
  go_enter Tryz.func63, Tryz.ntmps63
  go_wp2_with ((with_reducible refine gate_dst (N := 3) rfl ?_); refine box_ 39 (.tmp 0) rfl rfl cs.toArray rfl ?_; intro gb hg w1 hb hB; have X1 := Aside0.mk hb; have B1 := Aside0.mk hB; clear hb hB hg)
  refine start_ (n := 16) (S := fun w' => w'.heap[gb]? = some (.cells cs.toArray 39 (0, 0)) ∧ w'.cell? ⟨gb, 0, none⟩ = some (.int .i64 1) ∧ w'.cell? ⟨gb, 18, none⟩ = some (.slice A18 0 c18) ∧ Below w.heap.size w w') (ds := []) (zm 16 0) (by kernel_rfl) rfl rfl ⟨X1.out, (cell_of_range X1.out E0.out), (cell_of_range X1.out E18.out), (below_drew B1.out)⟩ (fun hHeld => ?_)
  refine zpk 0 12 16 1 ?_
  refine zpk 1 13 16 3 ?_
  refine zpk 2 14 16 7 ?_
  refine zpk 3 15 16 15 ?_
  refine zpk 6 18 16 79 ?_
  refine ztk 4 16 16 95 ?_
  refine ztk 7 19 16 223 ?_
  refine zpk 8 20 16 479 ?_
  refine one_ (i := 5) (N := some 17) (zm 16 511) rfl rfl (by kernel_rfl) (by decide) (fun K hK => ?_)
  refine goes_ Tryz.func49 (by kernel_rfl) rfl #[.int .i64 1] (by rfl) rfl rfl (by simp only [List.map_toArray, List.map_cons, List.map_nil]; rfl) ?_
  refine (C5.out _).mono ?_
  rintro e w' ⟨rfl, hb⟩
  refine ⟨_, rfl, ?_⟩
  refine hK.out _ _ ⟨((hb.block _ (blk_lt hHeld.1)).trans hHeld.1), (pw_cell_below hb hHeld.2.1), (pw_cell_below hb hHeld.2.2.1), (below_step hHeld.2.2.2 hb)⟩ (fun hHeld => ?_)
  clear hK K
  refine norm_ (a' := ?_) ?_ ?_
  rotate_left
  · show Act.put _ (some 17) _ = _
    simp only [Act.put, List.setIfInBounds_toArray, List.set_cons_zero, List.set_cons_succ, i64_w, i32_w]
    rfl
  refine zpk 9 21 16 1023 ?_
  refine zpk 10 22 16 2047 ?_
  refine zpk 11 23 16 4095 ?_
  refine take_ (i := 12) (N := some 24) (v := _) (a' := ?_) (zm 16 8191) rfl rfl (by kernel_rfl) (fun _ _ _ h => h) (yieldsIf_load_mid (by rfl) 39 (.tmp 3) rfl gb 0 rfl cs _ (fun W h => range_ h.1) Tryz.underlying39 rfl (by rw [LC.out]; kernel_rfl)) hHeld ?_ ?_
  rotate_left
  · simp only [Act.put, List.setIfInBounds_toArray, List.set_cons_zero, List.set_cons_succ, i64_w, i32_w]
    rfl
  refine one_ (i := 13) (N := some 25) (zm 16 16383) rfl rfl (by kernel_rfl) (by decide) (fun K hK => ?_)
  refine goes_ Tryz.func50 (by kernel_rfl) rfl #[.agg cs.toArray] (by rfl) rfl rfl (by simp only [List.map_toArray, List.map_cons, List.map_nil]; rfl) ?_
  refine (C13.out _ hHeld.2.2.2).mono ?_
  rintro e w' ⟨rfl, hb⟩
  refine ⟨_, rfl, ?_⟩
  refine hK.out _ _ ⟨((hb.block _ (blk_lt hHeld.1)).trans hHeld.1), (pw_cell_below hb hHeld.2.1), (pw_cell_below hb hHeld.2.2.1), (below_step hHeld.2.2.2 hb)⟩ (fun hHeld => ?_)
  clear hK K
  refine norm_ (a' := ?_) ?_ ?_
  rotate_left
  · show Act.put _ (some 25) _ = _
    simp only [Act.put, List.setIfInBounds_toArray, List.set_cons_zero, List.set_cons_succ, i64_w, i32_w]
    rfl
  refine zpk 14 26 16 32767 ?_
  refine zpk 15 27 16 65535 ?_
  refine done_ (by kernel_rfl) ?_
  have X2 := Aside0.mk hHeld.1
  have B2 := Aside0.mk hHeld.2.2.2
  clear hHeld X1 B1
  go_wp2_with ((with_reducible refine gate_dst (N := 28) rfl ?_); refine Kd.R_lit (Kd.int .i64) _ 3 ?hg (N := 28) ?hd (xs := ([] : List Int)) (inner := []) (ok := fun _ => True) (okp := fun _ => True) ?hr ?hp (fun _ hk => hk) trivial (Below.refl _ _) (Nat.le_refl _) (by simp) ?_; (case hd => rfl); (case hg => rfl); (case hr => first | (go_simp; done) | (go_simp; rfl)); (case hp => exact (Reps.none _ _)); intro v0 w3 ho hb hg_ hnew_; have R3 := Aside0.mk (Kd.R_lower ho B2.out.size); have X3 := Aside0.mk ((hb.block _ (blk_lt X2.out)).trans X2.out); have B3 := Aside0.mk (below_step B2.out hb); have p18 := (cell_of_range X3.out E18.out); clear ho hb hg_ hnew_)
  go_loopw [7, 8] (fun v7 v8 wr => ∃ (i : Nat) (ws : List Int), v8 = .int .i64 i ∧ i ≤ 0 ∧ ws.length = i ∧ (∀ k ∈ ws, 1 ≤ k) ∧ Aside0 (Kd.R (Kd.int .i64) 3 wr w.heap.size (fun _ => True) v7 ws) ∧ wr.cell? ⟨gb, 18, none⟩ = some (.slice A18 0 c18) ∧ Aside0 (wr.heap[gb]? = some (.cells cs.toArray 39 (0, 0))) ∧ Aside0 (Below w.heap.size w wr) ∧
    Aside0 (sWides t x.f9 d = (sWides t (x.f9.drop i) d).map (fun l => ws ++ l))) (fun _ v8 _ => 0 - (intOf v8).toNat)
  case atStart => exact ⟨0, [], rfl, Nat.zero_le _, rfl, by simp, R3, p18, X3, B3, ⟨by simp⟩⟩
  case round =>
    obtain ⟨i, ws, rfl, hi, hwl, hpos, HR, q18, HX, HB, HG⟩ := hrel
    clear p18
    by_cases hlt : i < 0
    · omega
    · have GE := Aside0.mk (HG.out.trans (by rw [sWides_end t x.f9 d i (by have := HLEN.out; omega)]; simp : _ = some ws))
      have VV0 := Aside0.mk (SOME.out ws GE.out)
      have hwn : ws.length = 0 := by omega
      have VV := Aside0.mk (show sWide t x (d + 1) = finB (false) (rd t x.f1) by rw [VV0.out]; unfold okS wS; rw [HX0.out]; show finB (decide (0 ≤ x.f1 ∧ x.f1 < t.length)) _ = _; rw [OK.out]; rfl)
      have q0k := cell_of_range HX.out E0.out
      have qf1 := cell_of_range HX.out E1.out
      clear hwl
      obtain rfl : i = 0 := by omega
      clear hpos HG GE VV0 hi hlt hwn
      have B9 := HB
      go_wp2
      go_ret
      exact ⟨by rw [VV.out, finB_no (.inl rfl)]; rfl, B9.out⟩
set_option maxHeartbeats 16000000 in
set_option maxRecDepth 100000 in
theorem l4Wide_tabB (N : Nat) (ih : ∀ m, m ≤ N → SwP m) (x : S39) (cs : List Value) (A : Option Addr) (c : Nat) (t : List Int) (d : Nat) (w : World) (hK : k39.K w x cs) (hsm : Small39 x) (hr : Kd.C (Kd.int .i64) w A t.length t) (hc : t.length ≤ c) (hl : t.length ≤ 3) (hd : d ≤ 1000) (hn : sz39 x ≤ N + 1) (hx : x.f0 = 1) (hlen : x.f9.length = 0) (hcl : cleanB x = true) (h1 : 0 ≤ x.f1) (h2 : (t.length : Int) ≤ x.f1) :
    Calls Tryz.prog 63 #[.agg cs.toArray, .slice A t.length c, .int .i64 (((d + 1 : Nat) : Int))] w fun e w' => e = .returned (.int .i64 (sWide t x (d + 1))) ∧ Below w.heap.size w w' := by
  have LC := Aside0.mk (show cs.length = 19 from k39.K_len hK)
  obtain ⟨A12, c12, A15, c15, A18, c18, hcs, l12, g12, l15, g15, l18, g18⟩ := k39_open hK
  have E0 := Aside0.mk (show cs[0]? = some (.int .i64 x.f0) by rw [hcs]; rfl)
  have E18 := Aside0.mk (show cs[18]? = some (.slice A18 x.f9.length c18) by rw [hcs]; rfl)
  have HK := Aside0.mk hK
  have NONE := Aside0.mk (sWide_none (t := t) (x := x) (d := d))
  have SOME := Aside0.mk (fun ws => sWide_some (t := t) (x := x) (d := d) (ws := ws) (by rw [hx, hlen]; rfl) hcl)
  have d1 : decide (((d + 1 : Nat) : Int) < 1) = false := decide_eq_false (by omega)
  have C5 := Aside0.mk (fun W => show Calls Tryz.prog 49 #[.int .i64 1] W fun e w' => e = .returned (.int .i64 0) ∧ Below W.heap.size W w' from l4Kids_c 1 W)
  have C13 := Aside0.mk (fun (W : World) (hb : Below w.heap.size w W) => l4Clean_c x cs W (k39.K_below hb hK))
  rw [hcl] at C13
  have G18 := Aside0.mk g18
  have SK := Aside0.mk (show szs39 x.f9 ≤ N by have := sz39_kids x; omega)
  have K9 := Aside0.mk hsm.out.2.2.2
  have IH := Aside0.mk ih
  have HC := Aside0.mk hr
  have HX0 := Aside0.mk hx
  have HLEN := Aside0.mk hlen
  rw [hx] at E0
  rw [hlen] at E18
  have E1 := Aside0.mk (show cs[1]? = some (.int .i64 x.f1) by rw [hcs]; rfl)
  have OK := Aside0.mk (show decide (0 ≤ x.f1 ∧ x.f1 < t.length) = false from decide_eq_false (by omega))
  have d1 : decide (0 ≤ x.f1) = true := decide_eq_true h1
  have d2 : decide (x.f1 < (t.length : Int)) = false := decide_eq_false (by omega)
  clear h1 h2
  clear hcs l12 g12 l15 g15 l18 g18 hK hr hsm hcl hx hn hlen ih
  go_enter Tryz.func63, Tryz.ntmps63
  go_wp2_with ((with_reducible refine gate_dst (N := 3) rfl ?_); refine box_ 39 (.tmp 0) rfl rfl cs.toArray rfl ?_; intro gb hg w1 hb hB; have X1 := Aside0.mk hb; have B1 := Aside0.mk hB; clear hb hB hg)
  refine start_ (n := 16) (S := fun w' => w'.heap[gb]? = some (.cells cs.toArray 39 (0, 0)) ∧ w'.cell? ⟨gb, 0, none⟩ = some (.int .i64 1) ∧ w'.cell? ⟨gb, 18, none⟩ = some (.slice A18 0 c18) ∧ Below w.heap.size w w') (ds := []) (zm 16 0) (by kernel_rfl) rfl rfl ⟨X1.out, (cell_of_range X1.out E0.out), (cell_of_range X1.out E18.out), (below_drew B1.out)⟩ (fun hHeld => ?_)
  refine zpk 0 12 16 1 ?_
  refine zpk 1 13 16 3 ?_
  refine zpk 2 14 16 7 ?_
  refine zpk 3 15 16 15 ?_
  refine zpk 6 18 16 79 ?_
  refine ztk 4 16 16 95 ?_
  refine ztk 7 19 16 223 ?_
  refine zpk 8 20 16 479 ?_
  refine one_ (i := 5) (N := some 17) (zm 16 511) rfl rfl (by kernel_rfl) (by decide) (fun K hK => ?_)
  refine goes_ Tryz.func49 (by kernel_rfl) rfl #[.int .i64 1] (by rfl) rfl rfl (by simp only [List.map_toArray, List.map_cons, List.map_nil]; rfl) ?_
  refine (C5.out _).mono ?_
  rintro e w' ⟨rfl, hb⟩
  refine ⟨_, rfl, ?_⟩
  refine hK.out _ _ ⟨((hb.block _ (blk_lt hHeld.1)).trans hHeld.1), (pw_cell_below hb hHeld.2.1), (pw_cell_below hb hHeld.2.2.1), (below_step hHeld.2.2.2 hb)⟩ (fun hHeld => ?_)
  clear hK K
  refine norm_ (a' := ?_) ?_ ?_
  rotate_left
  · show Act.put _ (some 17) _ = _
    simp only [Act.put, List.setIfInBounds_toArray, List.set_cons_zero, List.set_cons_succ, i64_w, i32_w]
    rfl
  refine zpk 9 21 16 1023 ?_
  refine zpk 10 22 16 2047 ?_
  refine zpk 11 23 16 4095 ?_
  refine take_ (i := 12) (N := some 24) (v := _) (a' := ?_) (zm 16 8191) rfl rfl (by kernel_rfl) (fun _ _ _ h => h) (yieldsIf_load_mid (by rfl) 39 (.tmp 3) rfl gb 0 rfl cs _ (fun W h => range_ h.1) Tryz.underlying39 rfl (by rw [LC.out]; kernel_rfl)) hHeld ?_ ?_
  rotate_left
  · simp only [Act.put, List.setIfInBounds_toArray, List.set_cons_zero, List.set_cons_succ, i64_w, i32_w]
    rfl
  refine one_ (i := 13) (N := some 25) (zm 16 16383) rfl rfl (by kernel_rfl) (by decide) (fun K hK => ?_)
  refine goes_ Tryz.func50 (by kernel_rfl) rfl #[.agg cs.toArray] (by rfl) rfl rfl (by simp only [List.map_toArray, List.map_cons, List.map_nil]; rfl) ?_
  refine (C13.out _ hHeld.2.2.2).mono ?_
  rintro e w' ⟨rfl, hb⟩
  refine ⟨_, rfl, ?_⟩
  refine hK.out _ _ ⟨((hb.block _ (blk_lt hHeld.1)).trans hHeld.1), (pw_cell_below hb hHeld.2.1), (pw_cell_below hb hHeld.2.2.1), (below_step hHeld.2.2.2 hb)⟩ (fun hHeld => ?_)
  clear hK K
  refine norm_ (a' := ?_) ?_ ?_
  rotate_left
  · show Act.put _ (some 25) _ = _
    simp only [Act.put, List.setIfInBounds_toArray, List.set_cons_zero, List.set_cons_succ, i64_w, i32_w]
    rfl
  refine zpk 14 26 16 32767 ?_
  refine zpk 15 27 16 65535 ?_
  refine done_ (by kernel_rfl) ?_
  have X2 := Aside0.mk hHeld.1
  have B2 := Aside0.mk hHeld.2.2.2
  clear hHeld X1 B1
  go_wp2_with ((with_reducible refine gate_dst (N := 28) rfl ?_); refine Kd.R_lit (Kd.int .i64) _ 3 ?hg (N := 28) ?hd (xs := ([] : List Int)) (inner := []) (ok := fun _ => True) (okp := fun _ => True) ?hr ?hp (fun _ hk => hk) trivial (Below.refl _ _) (Nat.le_refl _) (by simp) ?_; (case hd => rfl); (case hg => rfl); (case hr => first | (go_simp; done) | (go_simp; rfl)); (case hp => exact (Reps.none _ _)); intro v0 w3 ho hb hg_ hnew_; have R3 := Aside0.mk (Kd.R_lower ho B2.out.size); have X3 := Aside0.mk ((hb.block _ (blk_lt X2.out)).trans X2.out); have B3 := Aside0.mk (below_step B2.out hb); have p18 := (cell_of_range X3.out E18.out); clear ho hb hg_ hnew_)
  go_loopw [7, 8] (fun v7 v8 wr => ∃ (i : Nat) (ws : List Int), v8 = .int .i64 i ∧ i ≤ 0 ∧ ws.length = i ∧ (∀ k ∈ ws, 1 ≤ k) ∧ Aside0 (Kd.R (Kd.int .i64) 3 wr w.heap.size (fun _ => True) v7 ws) ∧ wr.cell? ⟨gb, 18, none⟩ = some (.slice A18 0 c18) ∧ Aside0 (wr.heap[gb]? = some (.cells cs.toArray 39 (0, 0))) ∧ Aside0 (Below w.heap.size w wr) ∧
    Aside0 (sWides t x.f9 d = (sWides t (x.f9.drop i) d).map (fun l => ws ++ l))) (fun _ v8 _ => 0 - (intOf v8).toNat)
  case atStart => exact ⟨0, [], rfl, Nat.zero_le _, rfl, by simp, R3, p18, X3, B3, ⟨by simp⟩⟩
  case round =>
    obtain ⟨i, ws, rfl, hi, hwl, hpos, HR, q18, HX, HB, HG⟩ := hrel
    clear p18
    by_cases hlt : i < 0
    · omega
    · have GE := Aside0.mk (HG.out.trans (by rw [sWides_end t x.f9 d i (by have := HLEN.out; omega)]; simp : _ = some ws))
      have VV0 := Aside0.mk (SOME.out ws GE.out)
      have hwn : ws.length = 0 := by omega
      have VV := Aside0.mk (show sWide t x (d + 1) = finB (false) (rd t x.f1) by rw [VV0.out]; unfold okS wS; rw [HX0.out]; show finB (decide (0 ≤ x.f1 ∧ x.f1 < t.length)) _ = _; rw [OK.out]; rfl)
      have q0k := cell_of_range HX.out E0.out
      have qf1 := cell_of_range HX.out E1.out
      clear hwl
      obtain rfl : i = 0 := by omega
      clear hpos HG GE VV0 hi hlt hwn
      have B9 := HB
      go_wp2
      go_ret
      exact ⟨by rw [VV.out, finB_no (.inl rfl)]; rfl, B9.out⟩
set_option maxHeartbeats 16000000 in
set_option maxRecDepth 100000 in
theorem l4Wide_tabC (N : Nat) (ih : ∀ m, m ≤ N → SwP m) (x : S39) (cs : List Value) (A : Option Addr) (c : Nat) (t : List Int) (d : Nat) (w : World) (hK : k39.K w x cs) (hsm : Small39 x) (hr : Kd.C (Kd.int .i64) w A t.length t) (hc : t.length ≤ c) (hl : t.length ≤ 3) (hd : d ≤ 1000) (hn : sz39 x ≤ N + 1) (hx : x.f0 = 1) (hlen : x.f9.length = 0) (hcl : cleanB x = true) (h1 : 0 ≤ x.f1) (h2 : x.f1 < (t.length : Int)) :
    Calls Tryz.prog 63 #[.agg cs.toArray, .slice A t.length c, .int .i64 (((d + 1 : Nat) : Int))] w fun e w' => e = .returned (.int .i64 (sWide t x (d + 1))) ∧ Below w.heap.size w w' := by
  have LC := Aside0.mk (show cs.length = 19 from k39.K_len hK)
  obtain ⟨A12, c12, A15, c15, A18, c18, hcs, l12, g12, l15, g15, l18, g18⟩ := k39_open hK
  have E0 := Aside0.mk (show cs[0]? = some (.int .i64 x.f0) by rw [hcs]; rfl)
  have E18 := Aside0.mk (show cs[18]? = some (.slice A18 x.f9.length c18) by rw [hcs]; rfl)
  have HK := Aside0.mk hK
  have NONE := Aside0.mk (sWide_none (t := t) (x := x) (d := d))
  have SOME := Aside0.mk (fun ws => sWide_some (t := t) (x := x) (d := d) (ws := ws) (by rw [hx, hlen]; rfl) hcl)
  have d1 : decide (((d + 1 : Nat) : Int) < 1) = false := decide_eq_false (by omega)
  have C5 := Aside0.mk (fun W => show Calls Tryz.prog 49 #[.int .i64 1] W fun e w' => e = .returned (.int .i64 0) ∧ Below W.heap.size W w' from l4Kids_c 1 W)
  have C13 := Aside0.mk (fun (W : World) (hb : Below w.heap.size w W) => l4Clean_c x cs W (k39.K_below hb hK))
  rw [hcl] at C13
  have G18 := Aside0.mk g18
  have SK := Aside0.mk (show szs39 x.f9 ≤ N by have := sz39_kids x; omega)
  have K9 := Aside0.mk hsm.out.2.2.2
  have IH := Aside0.mk ih
  have HC := Aside0.mk hr
  have HX0 := Aside0.mk hx
  have HLEN := Aside0.mk hlen
  rw [hx] at E0
  rw [hlen] at E18
  have E1 := Aside0.mk (show cs[1]? = some (.int .i64 x.f1) by rw [hcs]; rfl)
  obtain ⟨j, hj⟩ : ∃ j : Nat, x.f1 = (j : Int) := ⟨x.f1.toNat, by omega⟩
  have OK := Aside0.mk (show decide (0 ≤ x.f1 ∧ x.f1 < t.length) = true from decide_eq_true (by omega))
  obtain ⟨ad, rfl, q⟩ := ints_at hr (show j < t.length by omega)
  have QT := Aside0.mk q
  have d2 : decide ((j : Int) < (t.length : Int)) = true := decide_eq_true (by omega)
  have d3 : decide ((j : Int) < 3) = true := decide_eq_true (by omega)
  have d4 : j < t.length := by omega
  have HJ := Aside0.mk hj
  rw [hj] at E1
  clear h1 h2 hj q
  clear hcs l12 g12 l15 g15 l18 g18 hK hr hsm hcl hx hn hlen ih
  go_enter Tryz.func63, Tryz.ntmps63
  go_wp2_with ((with_reducible refine gate_dst (N := 3) rfl ?_); refine box_ 39 (.tmp 0) rfl rfl cs.toArray rfl ?_; intro gb hg w1 hb hB; have X1 := Aside0.mk hb; have B1 := Aside0.mk hB; clear hb hB hg)
  refine start_ (n := 16) (S := fun w' => w'.heap[gb]? = some (.cells cs.toArray 39 (0, 0)) ∧ w'.cell? ⟨gb, 0, none⟩ = some (.int .i64 1) ∧ w'.cell? ⟨gb, 18, none⟩ = some (.slice A18 0 c18) ∧ Below w.heap.size w w') (ds := []) (zm 16 0) (by kernel_rfl) rfl rfl ⟨X1.out, (cell_of_range X1.out E0.out), (cell_of_range X1.out E18.out), (below_drew B1.out)⟩ (fun hHeld => ?_)
  refine zpk 0 12 16 1 ?_
  refine zpk 1 13 16 3 ?_
  refine zpk 2 14 16 7 ?_
  refine zpk 3 15 16 15 ?_
  refine zpk 6 18 16 79 ?_
  refine ztk 4 16 16 95 ?_
  refine ztk 7 19 16 223 ?_
  refine zpk 8 20 16 479 ?_
  refine one_ (i := 5) (N := some 17) (zm 16 511) rfl rfl (by kernel_rfl) (by decide) (fun K hK => ?_)
  refine goes_ Tryz.func49 (by kernel_rfl) rfl #[.int .i64 1] (by rfl) rfl rfl (by simp only [List.map_toArray, List.map_cons, List.map_nil]; rfl) ?_
  refine (C5.out _).mono ?_
  rintro e w' ⟨rfl, hb⟩
  refine ⟨_, rfl, ?_⟩
  refine hK.out _ _ ⟨((hb.block _ (blk_lt hHeld.1)).trans hHeld.1), (pw_cell_below hb hHeld.2.1), (pw_cell_below hb hHeld.2.2.1), (below_step hHeld.2.2.2 hb)⟩ (fun hHeld => ?_)
  clear hK K
  refine norm_ (a' := ?_) ?_ ?_
  rotate_left
  · show Act.put _ (some 17) _ = _
    simp only [Act.put, List.setIfInBounds_toArray, List.set_cons_zero, List.set_cons_succ, i64_w, i32_w]
    rfl
  refine zpk 9 21 16 1023 ?_
  refine zpk 10 22 16 2047 ?_
  refine zpk 11 23 16 4095 ?_
  refine take_ (i := 12) (N := some 24) (v := _) (a' := ?_) (zm 16 8191) rfl rfl (by kernel_rfl) (fun _ _ _ h => h) (yieldsIf_load_mid (by rfl) 39 (.tmp 3) rfl gb 0 rfl cs _ (fun W h => range_ h.1) Tryz.underlying39 rfl (by rw [LC.out]; kernel_rfl)) hHeld ?_ ?_
  rotate_left
  · simp only [Act.put, List.setIfInBounds_toArray, List.set_cons_zero, List.set_cons_succ, i64_w, i32_w]
    rfl
  refine one_ (i := 13) (N := some 25) (zm 16 16383) rfl rfl (by kernel_rfl) (by decide) (fun K hK => ?_)
  refine goes_ Tryz.func50 (by kernel_rfl) rfl #[.agg cs.toArray] (by rfl) rfl rfl (by simp only [List.map_toArray, List.map_cons, List.map_nil]; rfl) ?_
  refine (C13.out _ hHeld.2.2.2).mono ?_
  rintro e w' ⟨rfl, hb⟩
  refine ⟨_, rfl, ?_⟩
  refine hK.out _ _ ⟨((hb.block _ (blk_lt hHeld.1)).trans hHeld.1), (pw_cell_below hb hHeld.2.1), (pw_cell_below hb hHeld.2.2.1), (below_step hHeld.2.2.2 hb)⟩ (fun hHeld => ?_)
  clear hK K
  refine norm_ (a' := ?_) ?_ ?_
  rotate_left
  · show Act.put _ (some 25) _ = _
    simp only [Act.put, List.setIfInBounds_toArray, List.set_cons_zero, List.set_cons_succ, i64_w, i32_w]
    rfl
  refine zpk 14 26 16 32767 ?_
  refine zpk 15 27 16 65535 ?_
  refine done_ (by kernel_rfl) ?_
  have X2 := Aside0.mk hHeld.1
  have B2 := Aside0.mk hHeld.2.2.2
  clear hHeld X1 B1
  go_wp2_with ((with_reducible refine gate_dst (N := 28) rfl ?_); refine Kd.R_lit (Kd.int .i64) _ 3 ?hg (N := 28) ?hd (xs := ([] : List Int)) (inner := []) (ok := fun _ => True) (okp := fun _ => True) ?hr ?hp (fun _ hk => hk) trivial (Below.refl _ _) (Nat.le_refl _) (by simp) ?_; (case hd => rfl); (case hg => rfl); (case hr => first | (go_simp; done) | (go_simp; rfl)); (case hp => exact (Reps.none _ _)); intro v0 w3 ho hb hg_ hnew_; have R3 := Aside0.mk (Kd.R_lower ho B2.out.size); have X3 := Aside0.mk ((hb.block _ (blk_lt X2.out)).trans X2.out); have B3 := Aside0.mk (below_step B2.out hb); have p18 := (cell_of_range X3.out E18.out); clear ho hb hg_ hnew_)
  go_loopw [7, 8] (fun v7 v8 wr => ∃ (i : Nat) (ws : List Int), v8 = .int .i64 i ∧ i ≤ 0 ∧ ws.length = i ∧ (∀ k ∈ ws, 1 ≤ k) ∧ Aside0 (Kd.R (Kd.int .i64) 3 wr w.heap.size (fun _ => True) v7 ws) ∧ wr.cell? ⟨gb, 18, none⟩ = some (.slice A18 0 c18) ∧ Aside0 (wr.heap[gb]? = some (.cells cs.toArray 39 (0, 0))) ∧ Aside0 (Below w.heap.size w wr) ∧
    Aside0 (sWides t x.f9 d = (sWides t (x.f9.drop i) d).map (fun l => ws ++ l))) (fun _ v8 _ => 0 - (intOf v8).toNat)
  case atStart => exact ⟨0, [], rfl, Nat.zero_le _, rfl, by simp, R3, p18, X3, B3, ⟨by simp⟩⟩
  case round =>
    obtain ⟨i, ws, rfl, hi, hwl, hpos, HR, q18, HX, HB, HG⟩ := hrel
    clear p18
    by_cases hlt : i < 0
    · omega
    · have GE := Aside0.mk (HG.out.trans (by rw [sWides_end t x.f9 d i (by have := HLEN.out; omega)]; simp : _ = some ws))
      have VV0 := Aside0.mk (SOME.out ws GE.out)
      have hwn : ws.length = 0 := by omega
      have VV := Aside0.mk (show sWide t x (d + 1) = finB (true) (rd t (j : Int)) by rw [VV0.out]; unfold okS wS; rw [HX0.out]; show finB (decide (0 ≤ x.f1 ∧ x.f1 < t.length)) (rd t x.f1) = _; rw [OK.out, HJ.out])
      have q0k := cell_of_range HX.out E0.out
      have qf1 := cell_of_range HX.out E1.out
      clear hwl
      obtain rfl : i = 0 := by omega
      clear hpos HG GE VV0 hi hlt hwn
      have B9 := HB
      have qt := zhs HB.out QT.out
      by_cases hw1 : rd t (j : Int) < 1
      · have f1 : decide (rd t (j : Int) < 1) = true := decide_eq_true hw1
        have VV2 := Aside0.mk (VV.out.trans (finB_no (.inr (.inl hw1))))
        clear hw1
        go_wp2
        go_ret
        exact ⟨by rw [VV2.out]; rfl, B9.out⟩
      have f1 : decide (rd t (j : Int) < 1) = false := decide_eq_false hw1
      by_cases hw6 : 6 < rd t (j : Int)
      · have f6 : decide (6 < rd t (j : Int)) = true := decide_eq_true hw6
        have VV2 := Aside0.mk (VV.out.trans (finB_no (.inr (.inr hw6))))
        clear hw1 hw6
        go_wp2
        go_ret
        exact ⟨by rw [VV2.out]; rfl, B9.out⟩
      have f6 : decide (6 < rd t (j : Int)) = false := decide_eq_false hw6
      have VV2 := Aside0.mk (VV.out.trans (finB_yes (by omega) (by omega)))
      clear hw1 hw6
      go_wp2
      go_ret
      exact ⟨by rw [VV2.out]; rfl, B9.out⟩
set_option maxHeartbeats 16000000 in
set_option maxRecDepth 100000 in
theorem l4Wide_group (N : Nat) (ih : ∀ m, m ≤ N → SwP m) (x : S39) (cs : List Value) (A : Option Addr) (c : Nat) (t : List Int) (d : Nat) (w : World) (hK : k39.K w x cs) (hsm : Small39 x) (hr : Kd.C (Kd.int .i64) w A t.length t) (hc : t.length ≤ c) (hl : t.length ≤ 3) (hd : d ≤ 1000) (hn : sz39 x ≤ N + 1) (hx : x.f0 = 7) (hlen : x.f9.length = 1) (hcl : cleanB x = true) :
    Calls Tryz.prog 63 #[.agg cs.toArray, .slice A t.length c, .int .i64 (((d + 1 : Nat) : Int))] w fun e w' => e = .returned (.int .i64 (sWide t x (d + 1))) ∧ Below w.heap.size w w' := by
  have LC := Aside0.mk (show cs.length = 19 from k39.K_len hK)
  obtain ⟨A12, c12, A15, c15, A18, c18, hcs, l12, g12, l15, g15, l18, g18⟩ := k39_open hK
  have E0 := Aside0.mk (show cs[0]? = some (.int .i64 x.f0) by rw [hcs]; rfl)
  have E18 := Aside0.mk (show cs[18]? = some (.slice A18 x.f9.length c18) by rw [hcs]; rfl)
  have HK := Aside0.mk hK
  have NONE := Aside0.mk (sWide_none (t := t) (x := x) (d := d))
  have SOME := Aside0.mk (fun ws => sWide_some (t := t) (x := x) (d := d) (ws := ws) (by rw [hx, hlen]; rfl) hcl)
  have d1 : decide (((d + 1 : Nat) : Int) < 1) = false := decide_eq_false (by omega)
  have C5 := Aside0.mk (fun W => show Calls Tryz.prog 49 #[.int .i64 7] W fun e w' => e = .returned (.int .i64 1) ∧ Below W.heap.size W w' from l4Kids_c 7 W)
  have C13 := Aside0.mk (fun (W : World) (hb : Below w.heap.size w W) => l4Clean_c x cs W (k39.K_below hb hK))
  rw [hcl] at C13
  have G18 := Aside0.mk g18
  have SK := Aside0.mk (show szs39 x.f9 ≤ N by have := sz39_kids x; omega)
  have K9 := Aside0.mk hsm.out.2.2.2
  have IH := Aside0.mk ih
  have HC := Aside0.mk hr
  have HX0 := Aside0.mk hx
  have HLEN := Aside0.mk hlen
  rw [hx] at E0
  rw [hlen] at E18
  have E15 := Aside0.mk (show cs[15]? = some (.slice A15 x.f6.length c15) by rw [hcs]; rfl)
  have E16 := Aside0.mk (show cs[16]? = some (.int .i64 x.f7) by rw [hcs]; rfl)
  have E17 := Aside0.mk (show cs[17]? = some (.int .i64 x.f8) by rw [hcs]; rfl)
  have G15 := Aside0.mk g15
  have L15 := Aside0.mk l15
  have S6 := hsm.out.2.1
  clear hcs l12 g12 l15 g15 l18 g18 hK hr hsm hcl hx hn hlen ih
  go_enter Tryz.func63, Tryz.ntmps63
  go_wp2_with ((with_reducible refine gate_dst (N := 3) rfl ?_); refine box_ 39 (.tmp 0) rfl rfl cs.toArray rfl ?_; intro gb hg w1 hb hB; have X1 := Aside0.mk hb; have B1 := Aside0.mk hB; clear hb hB hg)
  refine start_ (n := 16) (S := fun w' => w'.heap[gb]? = some (.cells cs.toArray 39 (0, 0)) ∧ w'.cell? ⟨gb, 0, none⟩ = some (.int .i64 7) ∧ w'.cell? ⟨gb, 18, none⟩ = some (.slice A18 1 c18) ∧ Below w.heap.size w w') (ds := []) (zm 16 0) (by kernel_rfl) rfl rfl ⟨X1.out, (cell_of_range X1.out E0.out), (cell_of_range X1.out E18.out), (below_drew B1.out)⟩ (fun hHeld => ?_)
  refine zpk 0 12 16 1 ?_
  refine zpk 1 13 16 3 ?_
  refine zpk 2 14 16 7 ?_
  refine zpk 3 15 16 15 ?_
  refine zpk 6 18 16 79 ?_
  refine ztk 4 16 16 95 ?_
  refine ztk 7 19 16 223 ?_
  refine zpk 8 20 16 479 ?_
  refine one_ (i := 5) (N := some 17) (zm 16 511) rfl rfl (by kernel_rfl) (by decide) (fun K hK => ?_)
  refine goes_ Tryz.func49 (by kernel_rfl) rfl #[.int .i64 7] (by rfl) rfl rfl (by simp only [List.map_toArray, List.map_cons, List.map_nil]; rfl) ?_
  refine (C5.out _).mono ?_
  rintro e w' ⟨rfl, hb⟩
  refine ⟨_, rfl, ?_⟩
  refine hK.out _ _ ⟨((hb.block _ (blk_lt hHeld.1)).trans hHeld.1), (pw_cell_below hb hHeld.2.1), (pw_cell_below hb hHeld.2.2.1), (below_step hHeld.2.2.2 hb)⟩ (fun hHeld => ?_)
  clear hK K
  refine norm_ (a' := ?_) ?_ ?_
  rotate_left
  · show Act.put _ (some 17) _ = _
    simp only [Act.put, List.setIfInBounds_toArray, List.set_cons_zero, List.set_cons_succ, i64_w, i32_w]
    rfl
  refine zpk 9 21 16 1023 ?_
  refine zpk 10 22 16 2047 ?_
  refine zpk 11 23 16 4095 ?_
  refine take_ (i := 12) (N := some 24) (v := _) (a' := ?_) (zm 16 8191) rfl rfl (by kernel_rfl) (fun _ _ _ h => h) (yieldsIf_load_mid (by rfl) 39 (.tmp 3) rfl gb 0 rfl cs _ (fun W h => range_ h.1) Tryz.underlying39 rfl (by rw [LC.out]; kernel_rfl)) hHeld ?_ ?_
  rotate_left
  · simp only [Act.put, List.setIfInBounds_toArray, List.set_cons_zero, List.set_cons_succ, i64_w, i32_w]
    rfl
  refine one_ (i := 13) (N := some 25) (zm 16 16383) rfl rfl (by kernel_rfl) (by decide) (fun K hK => ?_)
  refine goes_ Tryz.func50 (by kernel_rfl) rfl #[.agg cs.toArray] (by rfl) rfl rfl (by simp only [List.map_toArray, List.map_cons, List.map_nil]; rfl) ?_
  refine (C13.out _ hHeld.2.2.2).mono ?_
  rintro e w' ⟨rfl, hb⟩
  refine ⟨_, rfl, ?_⟩
  refine hK.out _ _ ⟨((hb.block _ (blk_lt hHeld.1)).trans hHeld.1), (pw_cell_below hb hHeld.2.1), (pw_cell_below hb hHeld.2.2.1), (below_step hHeld.2.2.2 hb)⟩ (fun hHeld => ?_)
  clear hK K
  refine norm_ (a' := ?_) ?_ ?_
  rotate_left
  · show Act.put _ (some 25) _ = _
    simp only [Act.put, List.setIfInBounds_toArray, List.set_cons_zero, List.set_cons_succ, i64_w, i32_w]
    rfl
  refine zpk 14 26 16 32767 ?_
  refine zpk 15 27 16 65535 ?_
  refine done_ (by kernel_rfl) ?_
  have X2 := Aside0.mk hHeld.1
  have B2 := Aside0.mk hHeld.2.2.2
  clear hHeld X1 B1
  go_wp2_with ((with_reducible refine gate_dst (N := 28) rfl ?_); refine Kd.R_lit (Kd.int .i64) _ 3 ?hg (N := 28) ?hd (xs := ([] : List Int)) (inner := []) (ok := fun _ => True) (okp := fun _ => True) ?hr ?hp (fun _ hk => hk) trivial (Below.refl _ _) (Nat.le_refl _) (by simp) ?_; (case hd => rfl); (case hg => rfl); (case hr => first | (go_simp; done) | (go_simp; rfl)); (case hp => exact (Reps.none _ _)); intro v0 w3 ho hb hg_ hnew_; have R3 := Aside0.mk (Kd.R_lower ho B2.out.size); have X3 := Aside0.mk ((hb.block _ (blk_lt X2.out)).trans X2.out); have B3 := Aside0.mk (below_step B2.out hb); have p18 := (cell_of_range X3.out E18.out); clear ho hb hg_ hnew_)
  go_loopw [7, 8] (fun v7 v8 wr => ∃ (i : Nat) (ws : List Int), v8 = .int .i64 i ∧ i ≤ 1 ∧ ws.length = i ∧ (∀ k ∈ ws, 1 ≤ k) ∧ Aside0 (Kd.R (Kd.int .i64) 3 wr w.heap.size (fun _ => True) v7 ws) ∧ wr.cell? ⟨gb, 18, none⟩ = some (.slice A18 1 c18) ∧ Aside0 (wr.heap[gb]? = some (.cells cs.toArray 39 (0, 0))) ∧ Aside0 (Below w.heap.size w wr) ∧
    Aside0 (sWides t x.f9 d = (sWides t (x.f9.drop i) d).map (fun l => ws ++ l))) (fun _ v8 _ => 1 - (intOf v8).toNat)
  case atStart => exact ⟨0, [], rfl, Nat.zero_le _, rfl, by simp, R3, p18, X3, B3, ⟨by simp⟩⟩
  case round =>
    obtain ⟨i, ws, rfl, hi, hwl, hpos, HR, q18, HX, HB, HG⟩ := hrel
    clear p18
    by_cases hlt : i < 1
    · have hlt' : i < x.f9.length := by have := HLEN.out; omega
      obtain ⟨ad, c0, e18, hcl, hK0, hcell⟩ := elem_ G18.out i hlt'
      obtain rfl := e18
      have hsz := szs39_get hlt'
      have LD := Aside0.mk (show c0.length = 19 from hcl)
      have HE := Aside0.mk hcell
      have CA := Aside0.mk (fun (W : World) (hb : Below w.heap.size w W) => IH.out (sz39 x.f9[i]) (by have := SK.out; omega) x.f9[i] c0 A c t d W (Nat.le_refl _) (k39.K_below hb hK0) (K9.out _ (List.getElem_mem hlt')) (Kd.C_below HC.out hb) hc hl (by omega))
      have GD := Aside0.mk (HG.out.trans (by rw [sWides_drop t x.f9 d i hlt']))
      obtain ⟨r, hr⟩ : ∃ r, r = sWide t x.f9[i] d := ⟨_, rfl⟩
      rw [← hr] at CA GD
      have HP := Aside0.mk hpos
      have HWL := Aside0.mk hwl
      clear hK0 hcell hcl hsz HG hr hpos hwl
      go_wp2_with (first
        | ((with_reducible refine gate_dst (N := 40) rfl ?_); refine load_ 39 (.tmp 39) rfl rfl (ad.add (i * 19)) ?hx c0 _ Tryz.underlying39 ?hi (fun j v h => zhs HB.out (HE.out j v h)) ?_; (case hx => first | rfl | (go_simp; done) | (go_simp; rfl)); (case hi => rw [LD.out]; kernel_rfl))
        | (go_at_call 63; refine (CA.out _ HB.out).mono ?_; rintro e w6 ⟨rfl, hB⟩; have HR6 := Aside0.mk (Kd.R_below HR.out hB); have HX6 := Aside0.mk ((hB.block _ (blk_lt HX.out)).trans HX.out); have HB6 := Aside0.mk (below_step HB.out hB); clear hB CA HR HX HB q18)
        | (at_builtin; refine Kd.R_append (Kd.int .i64) (w0 := w) w.heap.size rfl (.tmp 47) (.tmp 49) 27 3 (.int .i64 0) 8 rfl Tryz.underlying27 info3 rfl (by decide) (by omega) _ ws r [.int .i64 r] (fun _ => True) (fun _ => False) rfl rfl ?aP (fun _ hk => hk.elim) ?aF ?aO ?aB ?aS ?aL ?_; (case aP => exact rfl); (case aB => exact HB6.out); (case aF => exact (fun _ _ => trivial)); (case aO => exact HR6.out); (case aS => exact HB6.out.size); (case aL => have := HWL.out; omega); intro v7' w7 ho hb hg hat; have HR7 := Aside0.mk ho; have HB7 := Aside0.mk hb; have HX7 := Aside0.mk ((hg.block _ (blk_lt HX6.out) (Kd.R_ne HR6.out HX6.out (by decide))).trans HX6.out); clear ho hb hg hat))
      · go_ret
        exact ⟨by rw [NONE.out (by rw [GD.out, if_pos (by assumption)]; rfl)]; rfl, HB6.out⟩
      · go_roundw
        case rel => exact ⟨i + 1, ws ++ [r], by go_num, by omega, by simp [HWL.out], by intro k hk; rcases List.mem_append.1 hk with hk | hk; exact HP.out k hk; (simp at hk; omega), HR7, cell_of_range HX7.out E18.out, HX7, HB7, ⟨by rw [GD.out, if_neg (by omega)]; simp [Option.map_map, Function.comp_def]⟩⟩
        case measure => simp [intOf]; omega
    · have GE := Aside0.mk (HG.out.trans (by rw [sWides_end t x.f9 d i (by have := HLEN.out; omega)]; simp : _ = some ws))
      have VV0 := Aside0.mk (SOME.out ws GE.out)
      have hwn : ws.length = 1 := by omega
      have VV := Aside0.mk (show sWide t x (d + 1) = finB (keysB x.f6 (rd ws 0) && decide (0 ≤ x.f7) && decide (x.f7 ≤ 3) && colB x.f8 (rd ws 0)) ((x.f6.length : Int) + 1) by rw [VV0.out]; unfold okS wS; rw [HX0.out]; rfl)
      clear hwl
      obtain ⟨gk, c7, rfl, hq⟩ := own_at HR.out (by omega)
      have q0 := hq 0 (by omega)
      have Q0 := Aside0.mk q0
      have h0 : 1 ≤ rd ws 0 := hpos _ (by obtain ⟨a, as_, e⟩ : ∃ a as_, ws = a :: as_ := (by cases ws with | nil => simp at hwn | cons a b => exact ⟨a, b, rfl⟩); rw [e]; exact List.mem_cons_self ..)
      have t0 : 0 < ws.length := by omega
      obtain ⟨k0, hk0⟩ : ∃ k, k = rd ws 0 := ⟨_, rfl⟩
      rw [show rd ws ((0 : Nat) : Int) = rd ws 0 from rfl, ← hk0] at Q0 q0
      rw [← hk0] at h0 VV
      have q0k := cell_of_range HX.out E0.out
      have qf6 := cell_of_range HX.out E15.out
      have qf7 := cell_of_range HX.out E16.out
      have qf8 := cell_of_range HX.out E17.out
      have HK0 := Aside0.mk hk0
      clear hk0
      obtain rfl : i = 1 := by omega
      clear hpos HG GE VV0 hi hlt hwn hq
      go_wp2
      obtain ⟨r6, hr6⟩ : ∃ r, r = keysB x.f6 k0 := ⟨_, rfl⟩
      have C6 := Aside0.mk (fun W hr => l4Keys_c A15 c15 x.f6 k0 W S6 hr L15.out)
      rw [← hr6] at C6 VV
      clear hr6
      cases r6
      · rw [Bool.false_and, Bool.false_and, Bool.false_and] at VV
        refine start_ (n := 25) (S := fun w' => w'.cell? ⟨gk, 0, none⟩ = some (.int .i64 k0) ∧ w'.cell? ⟨gb, 15, none⟩ = some (.slice A15 x.f6.length c15) ∧ w'.cell? ⟨gb, 16, none⟩ = some (.int .i64 x.f7) ∧ w'.cell? ⟨gb, 17, none⟩ = some (.int .i64 x.f8) ∧ Below w.heap.size w w') (ds := []) (zm 25 0) (by kernel_rfl) rfl rfl ⟨(by exact Q0.out), (cell_of_range HX.out E15.out), (cell_of_range HX.out E16.out), (cell_of_range HX.out E17.out), (below_drew HB.out)⟩ (fun hHeld => ?_)
        refine zpk 0 53 25 1 ?_
        refine zpk 2 55 25 5 ?_
        refine zpk 3 56 25 13 ?_
        refine ztk 1 54 25 15 ?_
        refine ztk 4 57 25 31 ?_
        refine one_ (i := 5) (N := some 58) (zm 25 63) rfl rfl (by kernel_rfl) (by decide) (fun K hK => ?_)
        refine goes_ Tryz.func54 (by kernel_rfl) rfl #[.slice A15 x.f6.length c15, .int .i64 k0] (by rfl) rfl rfl (by simp only [List.map_toArray, List.map_cons, List.map_nil]; rfl) ?_
        refine (C6.out _ (Kd.C_below G15.out hHeld.2.2.2.2)).mono ?_
        rintro e w' ⟨rfl, hb⟩
        refine ⟨_, rfl, ?_⟩
        refine hK.out _ _ ⟨(pw_cell_below hb hHeld.1), (pw_cell_below hb hHeld.2.1), (pw_cell_below hb hHeld.2.2.1), (pw_cell_below hb hHeld.2.2.2.1), (below_step hHeld.2.2.2.2 hb)⟩ (fun hHeld => ?_)
        clear hK K
        refine norm_ (a' := ?_) ?_ ?_
        rotate_left
        · show Act.put _ (some 58) _ = _
          simp only [Act.put, List.setIfInBounds_toArray, List.set_cons_zero, List.set_cons_succ, i64_w, i32_w]
          rfl
        refine zpk 6 59 25 127 ?_
        refine zqk 7 60 25 255 ?_
        refine zqk 8 61 25 511 ?_
        refine zqk 9 62 25 1023 ?_
        refine zpk 10 63 25 2047 ?_
        refine zpk 11 64 25 4095 ?_
        refine zqk 12 65 25 8191 ?_
        refine zqk 13 66 25 16383 ?_
        refine zqk 14 67 25 32767 ?_
        refine zpk 15 68 25 65535 ?_
        refine zpk 16 69 25 131071 ?_
        refine zqk 17 70 25 262143 ?_
        refine zqk 18 71 25 524287 ?_
        refine zqk 19 72 25 1048575 ?_
        refine zqk 20 73 25 2097151 ?_
        refine zqk 21 74 25 4194303 ?_
        refine zqk 22 75 25 8388607 ?_
        refine zpk 23 76 25 16777215 ?_
        refine zpk 24 10 25 33554431 ?_
        refine done_ (by kernel_rfl) ?_
        have B9 := Aside0.mk hHeld.2.2.2.2
        have Q0 := Aside0.mk hHeld.1
        have q0 := Q0.out
        have qf6 := hHeld.2.1
        have qf7 := hHeld.2.2.1
        have qf8 := hHeld.2.2.2.1
        clear hHeld
        go_wp2
        go_ret
        exact ⟨by rw [VV.out, finB_no (.inl rfl)]; rfl, B9.out⟩
      rw [Bool.true_and] at VV
      by_cases h7 : x.f7 < 0
      · have d7 : decide (0 ≤ x.f7) = false := decide_eq_false (by omega)
        rw [d7, Bool.false_and, Bool.false_and] at VV
        clear h7
        refine start_ (n := 25) (S := fun w' => w'.cell? ⟨gk, 0, none⟩ = some (.int .i64 k0) ∧ w'.cell? ⟨gb, 15, none⟩ = some (.slice A15 x.f6.length c15) ∧ w'.cell? ⟨gb, 16, none⟩ = some (.int .i64 x.f7) ∧ w'.cell? ⟨gb, 17, none⟩ = some (.int .i64 x.f8) ∧ Below w.heap.size w w') (ds := []) (zm 25 0) (by kernel_rfl) rfl rfl ⟨(by exact Q0.out), (cell_of_range HX.out E15.out), (cell_of_range HX.out E16.out), (cell_of_range HX.out E17.out), (below_drew HB.out)⟩ (fun hHeld => ?_)
        refine zpk 0 53 25 1 ?_
        refine zpk 2 55 25 5 ?_
        refine zpk 3 56 25 13 ?_
        refine ztk 1 54 25 15 ?_
        refine ztk 4 57 25 31 ?_
        refine one_ (i := 5) (N := some 58) (zm 25 63) rfl rfl (by kernel_rfl) (by decide) (fun K hK => ?_)
        refine goes_ Tryz.func54 (by kernel_rfl) rfl #[.slice A15 x.f6.length c15, .int .i64 k0] (by rfl) rfl rfl (by simp only [List.map_toArray, List.map_cons, List.map_nil]; rfl) ?_
        refine (C6.out _ (Kd.C_below G15.out hHeld.2.2.2.2)).mono ?_
        rintro e w' ⟨rfl, hb⟩
        refine ⟨_, rfl, ?_⟩
        refine hK.out _ _ ⟨(pw_cell_below hb hHeld.1), (pw_cell_below hb hHeld.2.1), (pw_cell_below hb hHeld.2.2.1), (pw_cell_below hb hHeld.2.2.2.1), (below_step hHeld.2.2.2.2 hb)⟩ (fun hHeld => ?_)
        clear hK K
        refine norm_ (a' := ?_) ?_ ?_
        rotate_left
        · show Act.put _ (some 58) _ = _
          simp only [Act.put, List.setIfInBounds_toArray, List.set_cons_zero, List.set_cons_succ, i64_w, i32_w]
          rfl
        refine zpk 6 59 25 127 ?_
        refine zpk 7 60 25 255 ?_
        refine ztk 8 61 25 511 ?_
        refine zpk 9 62 25 1023 ?_
        refine zpk 10 63 25 2047 ?_
        refine zpk 11 64 25 4095 ?_
        refine zqk 12 65 25 8191 ?_
        refine zqk 13 66 25 16383 ?_
        refine zqk 14 67 25 32767 ?_
        refine zpk 15 68 25 65535 ?_
        refine zpk 16 69 25 131071 ?_
        refine zqk 17 70 25 262143 ?_
        refine zqk 18 71 25 524287 ?_
        refine zqk 19 72 25 1048575 ?_
        refine zqk 20 73 25 2097151 ?_
        refine zqk 21 74 25 4194303 ?_
        refine zqk 22 75 25 8388607 ?_
        refine zpk 23 76 25 16777215 ?_
        refine zpk 24 10 25 33554431 ?_
        refine done_ (by kernel_rfl) ?_
        have B9 := Aside0.mk hHeld.2.2.2.2
        have Q0 := Aside0.mk hHeld.1
        have q0 := Q0.out
        have qf6 := hHeld.2.1
        have qf7 := hHeld.2.2.1
        have qf8 := hHeld.2.2.2.1
        clear hHeld
        go_wp2
        go_ret
        exact ⟨by rw [VV.out, finB_no (.inl rfl)]; rfl, B9.out⟩
      have d7 : decide (0 ≤ x.f7) = true := decide_eq_true (by omega)
      rw [d7, Bool.true_and] at VV
      clear h7
      by_cases h73 : 3 < x.f7
      · have d73 : decide (x.f7 ≤ 3) = false := decide_eq_false (by omega)
        rw [d73, Bool.false_and] at VV
        clear h73
        refine start_ (n := 25) (S := fun w' => w'.cell? ⟨gk, 0, none⟩ = some (.int .i64 k0) ∧ w'.cell? ⟨gb, 15, none⟩ = some (.slice A15 x.f6.length c15) ∧ w'.cell? ⟨gb, 16, none⟩ = some (.int .i64 x.f7) ∧ w'.cell? ⟨gb, 17, none⟩ = some (.int .i64 x.f8) ∧ Below w.heap.size w w') (ds := []) (zm 25 0) (by kernel_rfl) rfl rfl ⟨(by exact Q0.out), (cell_of_range HX.out E15.out), (cell_of_range HX.out E16.out), (cell_of_range HX.out E17.out), (below_drew HB.out)⟩ (fun hHeld => ?_)
        refine zpk 0 53 25 1 ?_
        refine zpk 2 55 25 5 ?_
        refine zpk 3 56 25 13 ?_
        refine ztk 1 54 25 15 ?_
        refine ztk 4 57 25 31 ?_
        refine one_ (i := 5) (N := some 58) (zm 25 63) rfl rfl (by kernel_rfl) (by decide) (fun K hK => ?_)
        refine goes_ Tryz.func54 (by kernel_rfl) rfl #[.slice A15 x.f6.length c15, .int .i64 k0] (by rfl) rfl rfl (by simp only [List.map_toArray, List.map_cons, List.map_nil]; rfl) ?_
        refine (C6.out _ (Kd.C_below G15.out hHeld.2.2.2.2)).mono ?_
        rintro e w' ⟨rfl, hb⟩
        refine ⟨_, rfl, ?_⟩
        refine hK.out _ _ ⟨(pw_cell_below hb hHeld.1), (pw_cell_below hb hHeld.2.1), (pw_cell_below hb hHeld.2.2.1), (pw_cell_below hb hHeld.2.2.2.1), (below_step hHeld.2.2.2.2 hb)⟩ (fun hHeld => ?_)
        clear hK K
        refine norm_ (a' := ?_) ?_ ?_
        rotate_left
        · show Act.put _ (some 58) _ = _
          simp only [Act.put, List.setIfInBounds_toArray, List.set_cons_zero, List.set_cons_succ, i64_w, i32_w]
          rfl
        refine zpk 6 59 25 127 ?_
        refine zpk 7 60 25 255 ?_
        refine ztk 8 61 25 511 ?_
        refine zpk 9 62 25 1023 ?_
        refine zpk 10 63 25 2047 ?_
        refine zpk 11 64 25 4095 ?_
        refine zpk 12 65 25 8191 ?_
        refine ztk 13 66 25 16383 ?_
        refine zpk 14 67 25 32767 ?_
        refine zpk 15 68 25 65535 ?_
        refine zpk 16 69 25 131071 ?_
        refine zqk 17 70 25 262143 ?_
        refine zqk 18 71 25 524287 ?_
        refine zqk 19 72 25 1048575 ?_
        refine zqk 20 73 25 2097151 ?_
        refine zqk 21 74 25 4194303 ?_
        refine zqk 22 75 25 8388607 ?_
        refine zpk 23 76 25 16777215 ?_
        refine zpk 24 10 25 33554431 ?_
        refine done_ (by kernel_rfl) ?_
        have B9 := Aside0.mk hHeld.2.2.2.2
        have Q0 := Aside0.mk hHeld.1
        have q0 := Q0.out
        have qf6 := hHeld.2.1
        have qf7 := hHeld.2.2.1
        have qf8 := hHeld.2.2.2.1
        clear hHeld
        go_wp2
        go_ret
        exact ⟨by rw [VV.out, finB_no (.inl rfl)]; rfl, B9.out⟩
      have d73 : decide (x.f7 ≤ 3) = true := decide_eq_true (by omega)
      rw [d73, Bool.true_and] at VV
      clear h73
      obtain ⟨r, hr⟩ : ∃ r, r = colB x.f8 k0 := ⟨_, rfl⟩
      have C8 := Aside0.mk (fun W => l3Col_c x.f8 k0 W)
      rw [← hr] at C8 VV
      clear hr
      · refine start_ (n := 25) (S := fun w' => w'.cell? ⟨gk, 0, none⟩ = some (.int .i64 k0) ∧ w'.cell? ⟨gb, 15, none⟩ = some (.slice A15 x.f6.length c15) ∧ w'.cell? ⟨gb, 16, none⟩ = some (.int .i64 x.f7) ∧ w'.cell? ⟨gb, 17, none⟩ = some (.int .i64 x.f8) ∧ Below w.heap.size w w') (ds := []) (zm 25 0) (by kernel_rfl) rfl rfl ⟨(by exact Q0.out), (cell_of_range HX.out E15.out), (cell_of_range HX.out E16.out), (cell_of_range HX.out E17.out), (below_drew HB.out)⟩ (fun hHeld => ?_)
        refine zpk 0 53 25 1 ?_
        refine zpk 2 55 25 5 ?_
        refine zpk 3 56 25 13 ?_
        refine ztk 1 54 25 15 ?_
        refine ztk 4 57 25 31 ?_
        refine one_ (i := 5) (N := some 58) (zm 25 63) rfl rfl (by kernel_rfl) (by decide) (fun K hK => ?_)
        refine goes_ Tryz.func54 (by kernel_rfl) rfl #[.slice A15 x.f6.length c15, .int .i64 k0] (by rfl) rfl rfl (by simp only [List.map_toArray, List.map_cons, List.map_nil]; rfl) ?_
        refine (C6.out _ (Kd.C_below G15.out hHeld.2.2.2.2)).mono ?_
        rintro e w' ⟨rfl, hb⟩
        refine ⟨_, rfl, ?_⟩
        refine hK.out _ _ ⟨(pw_cell_below hb hHeld.1), (pw_cell_below hb hHeld.2.1), (pw_cell_below hb hHeld.2.2.1), (pw_cell_below hb hHeld.2.2.2.1), (below_step hHeld.2.2.2.2 hb)⟩ (fun hHeld => ?_)
        clear hK K
        refine norm_ (a' := ?_) ?_ ?_
        rotate_left
        · show Act.put _ (some 58) _ = _
          simp only [Act.put, List.setIfInBounds_toArray, List.set_cons_zero, List.set_cons_succ, i64_w, i32_w]
          rfl
        refine zpk 6 59 25 127 ?_
        refine zpk 7 60 25 255 ?_
        refine ztk 8 61 25 511 ?_
        refine zpk 9 62 25 1023 ?_
        refine zpk 10 63 25 2047 ?_
        refine zpk 11 64 25 4095 ?_
        refine zpk 12 65 25 8191 ?_
        refine ztk 13 66 25 16383 ?_
        refine zpk 14 67 25 32767 ?_
        refine zpk 15 68 25 65535 ?_
        refine zpk 16 69 25 131071 ?_
        refine zpk 17 70 25 262143 ?_
        refine zpk 19 72 25 786431 ?_
        refine zpk 20 73 25 1835007 ?_
        refine ztk 18 71 25 2097151 ?_
        refine ztk 21 74 25 4194303 ?_
        refine one_ (i := 22) (N := some 75) (zm 25 8388607) rfl rfl (by kernel_rfl) (by decide) (fun K hK => ?_)
        refine goes_ Tryz.func53 (by kernel_rfl) rfl #[.int .i64 x.f8, .int .i64 k0] (by rfl) rfl rfl (by simp only [List.map_toArray, List.map_cons, List.map_nil]; rfl) ?_
        refine (C8.out _).mono ?_
        rintro e w' ⟨rfl, hb⟩
        refine ⟨_, rfl, ?_⟩
        refine hK.out _ _ ⟨(pw_cell_below hb hHeld.1), (pw_cell_below hb hHeld.2.1), (pw_cell_below hb hHeld.2.2.1), (pw_cell_below hb hHeld.2.2.2.1), (below_step hHeld.2.2.2.2 hb)⟩ (fun hHeld => ?_)
        clear hK K
        refine norm_ (a' := ?_) ?_ ?_
        rotate_left
        · show Act.put _ (some 75) _ = _
          simp only [Act.put, List.setIfInBounds_toArray, List.set_cons_zero, List.set_cons_succ, i64_w, i32_w]
          rfl
        refine zpk 23 76 25 16777215 ?_
        refine zpk 24 10 25 33554431 ?_
        refine done_ (by kernel_rfl) ?_
        have B9 := Aside0.mk hHeld.2.2.2.2
        have Q0 := Aside0.mk hHeld.1
        have q0 := Q0.out
        have qf6 := hHeld.2.1
        have qf7 := hHeld.2.2.1
        have qf8 := hHeld.2.2.2.1
        clear hHeld
        cases r
        case' false =>
          go_wp2
          go_ret
          exact ⟨by rw [VV.out, finB_no (.inl rfl)]; rfl, B9.out⟩
        by_cases hw1 : ((x.f6.length : Int) + 1) < 1
        · have f1 : decide (((x.f6.length : Int) + 1) < 1) = true := decide_eq_true hw1
          have VV2 := Aside0.mk (VV.out.trans (finB_no (.inr (.inl hw1))))
          clear hw1
          go_wp2
          go_ret
          exact ⟨by rw [VV2.out]; rfl, B9.out⟩
        have f1 : decide (((x.f6.length : Int) + 1) < 1) = false := decide_eq_false hw1
        by_cases hw6 : 6 < ((x.f6.length : Int) + 1)
        · have f6 : decide (6 < ((x.f6.length : Int) + 1)) = true := decide_eq_true hw6
          have VV2 := Aside0.mk (VV.out.trans (finB_no (.inr (.inr hw6))))
          clear hw1 hw6
          go_wp2
          go_ret
          exact ⟨by rw [VV2.out]; rfl, B9.out⟩
        have f6 : decide (6 < ((x.f6.length : Int) + 1)) = false := decide_eq_false hw6
        have VV2 := Aside0.mk (VV.out.trans (finB_yes (by omega) (by omega)))
        clear hw1 hw6
        go_wp2
        go_ret
        exact ⟨by rw [VV2.out]; rfl, B9.out⟩
end Pl

end Go.Proofs.YtlpgnkndjmfcjaaGreat.PFnPlanUses
