/- The given specification's l4Plan draws some small plan, whichever its kind. -/
import Derived.Test.YtlpgnkndjmfcjaaGreatPlCopy
namespace Go.Proofs.YtlpgnkndjmfcjaaGreat.PFnPlanUses
open Go.RowKit Go.Proofs.YtlpgnkndjmfcjaaGreatW.PrintWords Go.Proofs.YtlpgnkndjmfcjaaGreatW.PrintLast Go.Proofs.YtlpgnkndjmfcjaaGreatW.PrintMore
attribute [local go_sem] max2_int min2_int max_two min_two max_three min_three max_four min_four   -- for this text's walks alone
set_option linter.unusedVariables false
set_option linter.unusedSimpArgs false
namespace Pl
set_option maxHeartbeats 16000000 in
set_option maxRecDepth 100000 in
theorem l4Plan_0 : PlP 0 := by
  intro w0 g b c w D h hD
  have RA14 := Aside0.mk (show RdW w0 g b (c + 14) w from h)
  obtain rfl : D = 1 := by omega
  clear h hD
  go_enter Tryz.func55, Tryz.ntmps55
  go_wp2_with (first
    | ((with_reducible refine gate_dst (N := 4) rfl ?_); refine alloc_ 39 rfl rfl zero39 _ _ info39 ?_; intro gr hg wq hb hB; have HG := Aside0.mk (show g < w.heap.size from RA14.out.lt); have GE := Aside0.mk (show w.heap.size ≤ gr by rw [hg]; exact Nat.le_refl _); have GB := Aside0.mk (show w0.heap.size ≤ gr by rw [hg]; exact RA14.out.bel.size); have XR := Aside0.mk hb; have KB := Aside0.mk (KeepBut.below_ hB g); have RA14_ := Aside0.mk (RA14.out.below hB); clear RA14; have RA14 := RA14_; clear RA14_; clear hb hB hg)
    | (go_at_call 33; refine (pick_c RA14.out _).mono ?_; rintro e wq ⟨⟨v14, rfl, hvv14⟩, hRD, hk⟩; have RA13 := Aside0.mk hRD; clear RA14 hRD; have KB_ := Aside0.mk (KeepBut.tr KB.out hk); have XR_ := Aside0.mk (KeepBut.blk hk XR.out (Nat.ne_of_gt (Nat.lt_of_lt_of_le HG.out GE.out))); clear KB XR; have KB := KB_; have XR := XR_; clear KB_ XR_; clear hk)
    | ((with_reducible refine gate_dst (N := 24) rfl ?_); refine build_ 39 _ rfl rfl #[(0, .int .i64 1), (1, .int .i64 v14)] ?hvs (.agg (planV (⟨1, v14, zeroT, [], 0, 0, [], 0, 0, []⟩ : S39) (.slice none 0 0) (.slice none 0 0) (.slice none 0 0)).toArray) ?hrun ?_; (case hvs => first | rfl | (go_simp; done) | (go_simp; rfl)); (case hrun => intro W; kernel_rfl))
    | ((with_reducible refine gate_ (.store 39 (.tmp 4) (.tmp 24)) rfl ?_); refine storeAll_ 39 (.tmp 4) (.tmp 24) rfl rfl rfl gr ?hp (planV (⟨1, v14, zeroT, [], 0, 0, [], 0, 0, []⟩ : S39) (.slice none 0 0) (.slice none 0 0) (.slice none 0 0)) ?hx2 ?ht ?h1 zero39 _ XR.out ?hf ?_; (case hp => first | rfl | (go_simp; done) | (go_simp; rfl)); (case hx2 => first | rfl | (go_simp; done) | (go_simp; rfl)); (case ht => kernel_rfl); (case h1 => exact planV_one); (case hf => rfl); intro wz hb hg; have XZ := Aside0.mk hb; have RZ := Aside0.mk (RdW.grown (RA13.out.less (c' := c) (by omega)) hg (by intro e; injection e with e; have := GE.out; have := HG.out; omega) (fun k e => by injection e with e; rw [← e]; exact GB.out)); have KZ := Aside0.mk (KeepBut.put KB.out hg GE.out); have OZ := Aside0.mk (OwnP.kids (W := wz) (base := w.heap.size) (ok := fun _ => True) (x := (⟨1, v14, zeroT, [], 0, 0, [], 0, 0, []⟩ : S39)) rfl rfl (Kd.R_nil _ _ _ _ _)); clear hb hg XR KB))
  exact bodyPost_ret (results_cell_tmp rfl _ _ gr _ _ _ _ rfl XZ.out Tryz.underlying39 rfl (by kernel_rfl)) rfl ⟨⟨_, _, _, rfl, OZ.out, (by rw [sz39_kids]; show 1 + szs39 [] ≤ _; rw [show szs39 ([] : List S39) = 0 by simp [szs39]]; exact sp_mono (Nat.zero_le 0)), small_kids (by simp) (by simp) (by simp) (by simp), by simp⟩, RZ.out, KZ.out⟩
set_option maxHeartbeats 16000000 in
set_option maxRecDepth 100000 in
theorem l4Plan_s (d : Nat) (hd : d ≤ 20) (ih : ∀ m, m ≤ d → PlP m) : PlP (d + 1) := by
  intro w0 g b c w D h hD
  have RA14 := Aside0.mk (show RdW w0 g b (c + pk d + pk d + 14) w from h.less (by show c + pk d + pk d + 14 ≤ c + (2 * pk d + 14); omega))
  have IH := Aside0.mk ih
  have hD2 : 2 ≤ D := by omega
  have hDm : D ≤ 100 := by omega
  have d0 : decide (D ≤ 1) = false := decide_eq_false (by omega)
  have DD := Aside0.mk hD
  clear h ih hD
  go_enter Tryz.func55, Tryz.ntmps55
  go_wp2_with (first
    | ((with_reducible refine gate_dst (N := 4) rfl ?_); refine alloc_ 39 rfl rfl zero39 _ _ info39 ?_; intro gr hg wq hb hB; have HG := Aside0.mk (show g < w.heap.size from RA14.out.lt); have GE := Aside0.mk (show w.heap.size ≤ gr by rw [hg]; exact Nat.le_refl _); have GB := Aside0.mk (show w0.heap.size ≤ gr by rw [hg]; exact RA14.out.bel.size); have XR := Aside0.mk hb; have KB := Aside0.mk (KeepBut.below_ hB g); have RA14_ := Aside0.mk (RA14.out.below hB); clear RA14; have RA14 := RA14_; clear RA14_; clear hb hB hg)
    | (go_at_call 33; refine (pick_c RA14.out _).mono ?_; rintro e wq ⟨⟨v14, rfl, hvv14⟩, hRD, hk⟩; have RA13 := Aside0.mk hRD; clear RA14 hRD; have KB_ := Aside0.mk (KeepBut.tr KB.out hk); have XR_ := Aside0.mk (KeepBut.blk hk XR.out (Nat.ne_of_gt (Nat.lt_of_lt_of_le HG.out GE.out))); clear KB XR; have KB := KB_; have XR := XR_; clear KB_ XR_; clear hk)
    | (go_at_call 33; refine (pick_c RA13.out _).mono ?_; rintro e wq ⟨⟨v13, rfl, hvv13⟩, hRD, hk⟩; have RA12 := Aside0.mk hRD; clear RA13 hRD; have KB_ := Aside0.mk (KeepBut.tr KB.out hk); have XR_ := Aside0.mk (KeepBut.blk hk XR.out (Nat.ne_of_gt (Nat.lt_of_lt_of_le HG.out GE.out))); clear KB XR; have KB := KB_; have XR := XR_; clear KB_ XR_; clear hk)
    | ((with_reducible refine gate_dst (N := 24) rfl ?_); refine build_ 39 _ rfl rfl #[(0, .int .i64 1), (1, .int .i64 v13)] ?hvs (.agg (planV (⟨1, v13, zeroT, [], 0, 0, [], 0, 0, []⟩ : S39) (.slice none 0 0) (.slice none 0 0) (.slice none 0 0)).toArray) ?hrun ?_; (case hvs => first | rfl | (go_simp; done) | (go_simp; rfl)); (case hrun => intro W; kernel_rfl))
    | ((with_reducible refine gate_ (.store 39 (.tmp 4) (.tmp 24)) rfl ?_); refine storeAll_ 39 (.tmp 4) (.tmp 24) rfl rfl rfl gr ?hp (planV (⟨1, v13, zeroT, [], 0, 0, [], 0, 0, []⟩ : S39) (.slice none 0 0) (.slice none 0 0) (.slice none 0 0)) ?hx2 ?ht ?h1 zero39 _ XR.out ?hf ?_; (case hp => first | rfl | (go_simp; done) | (go_simp; rfl)); (case hx2 => first | rfl | (go_simp; done) | (go_simp; rfl)); (case ht => kernel_rfl); (case h1 => exact planV_one); (case hf => rfl); intro wz hb hg; have XZ := Aside0.mk hb; have RZ := Aside0.mk (RdW.grown (RA12.out.less (c' := c) (by omega)) hg (by intro e; injection e with e; have := GE.out; have := HG.out; omega) (fun k e => by injection e with e; rw [← e]; exact GB.out)); have KZ := Aside0.mk (KeepBut.put KB.out hg GE.out); have OZ := Aside0.mk (OwnP.kids (W := wz) (base := w.heap.size) (ok := fun _ => True) (x := (⟨1, v13, zeroT, [], 0, 0, [], 0, 0, []⟩ : S39)) rfl rfl (Kd.R_nil _ _ _ _ _)); clear hb hg XR KB)
    | (go_at_call 55; obtain ⟨lo, hlo⟩ : ∃ n, n = wq.heap.size := ⟨_, rfl⟩; have G2 := Aside0.mk (show gr < lo by rw [hlo]; exact blk_lt XR.out); refine (IH.out d (Nat.le_refl _) w0 g b (c + pk d + 13) _ (D - 1) (RA13.out.less (by omega)) (by have := DD.out; omega)).mono ?_; rintro e wq ⟨⟨xa, csa, wa, rfl, hO, hz, hs, ht⟩, hRD, hk⟩; have TNA := Aside0.mk ht; have RB13 := Aside0.mk hRD; have OP := Aside0.mk (hlo ▸ hO); have SZA := Aside0.mk hz; have SMA := Aside0.mk hs; have LA := Aside0.mk (show csa.length = 19 from hO.len); have OA := Aside0.mk (show ∀ q ∈ csa, q.oneCell' = true from hO.one); have L4 := Aside0.mk (show lo ≤ wq.heap.size by rw [hlo]; exact hk.1); clear RA13 hRD hO hz hs ht hlo; have KB_ := Aside0.mk (KeepBut.tr KB.out hk); have XR_ := Aside0.mk (KeepBut.blk hk XR.out (Nat.ne_of_gt (Nat.lt_of_lt_of_le HG.out GE.out))); clear KB XR; have KB := KB_; have XR := XR_; clear KB_ XR_; clear hk)
    | ((with_reducible refine gate_dst (N := 6) rfl ?_); obtain ⟨hi, hhi⟩ : ∃ n, n = wq.heap.size := ⟨_, rfl⟩; refine alloc_ 39 rfl rfl zero39 _ _ info39 ?_; intro b6 hg wq hb hB; have X6 := Aside0.mk hb; have H3 := Aside0.mk (show hi ≤ b6 by rw [hg, hhi]; exact Nat.le_refl _); have H4 := Aside0.mk (show lo ≤ hi by rw [hhi]; exact L4.out); have MA := Aside0.mk (show OwnI wq w.heap.size lo hi xa csa from (by rw [hhi]; exact OP.out.I.below hB : OwnI wq lo lo hi xa csa).lower (Nat.le_trans GE.out (Nat.le_of_lt G2.out))); clear OP L4; have KB_ := Aside0.mk (KeepBut.tr KB.out (KeepBut.below_ hB _)); have XR_ := Aside0.mk ((hB.block _ (blk_lt XR.out)).trans XR.out); have RB13_ := Aside0.mk (RB13.out.below hB); clear KB XR RB13; have KB := KB_; have XR := XR_; have RB13 := RB13_; clear KB_ XR_ RB13_; clear hb hB hg hhi)
    | ((with_reducible refine gate_ (.store 39 (.tmp 6) (.tmp 30)) rfl ?_); refine storeAll_ 39 (.tmp 6) (.tmp 30) rfl rfl rfl b6 ?hp csa ?hx2 ?ht OA.out zero39 _ X6.out ?hf ?_; (case hp => first | rfl | (go_simp; done) | (go_simp; rfl)); (case hx2 => first | rfl | (go_simp; done) | (go_simp; rfl)); (case ht => rw [LA.out]; kernel_rfl); (case hf => rw [LA.out]; rfl); intro wq hb hg; have LPx := Aside0.mk (show LP w g gr b6 xa csa lo hi wq from ⟨(hg.block _ (blk_lt XR.out) (by intro e; injection e with e; have := G2.out; have := H3.out; have := H4.out; omega)).trans XR.out, hb, MA.out.row hg (fun k e => by injection e with e; have := H3.out; omega), KeepBut.put KB.out hg (by have := GE.out; have := G2.out; have := H3.out; have := H4.out; omega), HG.out, GE.out, G2.out, H3.out, H4.out⟩); have RB13_ := Aside0.mk (RB13.out.grown hg (by intro e; injection e with e; have := HG.out; have := GE.out; have := G2.out; have := H3.out; have := H4.out; omega) (fun k e => by injection e with e; have := GB.out; have := G2.out; have := H3.out; have := H4.out; omega)); clear RB13; have RB13 := RB13_; clear RB13_; clear XR KB X6 MA hb hg)
    | (go_at_call 33; refine (pick_c RB13.out _).mono ?_; rintro e wq ⟨⟨v, rfl, hv⟩, hRD, hk⟩; have RB12 := Aside0.mk hRD; clear RB13 hRD; have LPx_ := Aside0.mk (LPx.out.keep hk); clear LPx; have LPx := LPx_; clear LPx_; clear hk; refine Hid.out ?_))
  · exact bodyPost_ret (results_cell_tmp rfl _ _ gr _ _ _ _ rfl XZ.out Tryz.underlying39 rfl (by kernel_rfl)) rfl ⟨⟨_, _, _, rfl, OZ.out, (by rw [sz39_kids]; show 1 + szs39 [] ≤ _; rw [show szs39 ([] : List S39) = 0 by simp [szs39]]; exact sp_mono (Nat.zero_le (d + 1))), small_kids (by simp) (by simp) (by simp) (by simp), by simp⟩, RZ.out, KZ.out⟩
  refine Lib.hid ?_
  have hv8 := hv (by decide)
  rcases (show (v = 0 ∨ v = 1) ∨ v = 2 ∨ (v = 3 ∨ v = 4) ∨ v = 5 ∨ v = 6 ∨ v = 7 by omega) with hc | rfl | hc | rfl | rfl | rfl
  · rcases hc with rfl | rfl
    all_goals
      clear hv hv8
      go_wp2
      refine start_ (n := 9) (S := fun W => LP w g gr b6 xa csa lo hi W) (ds := [7]) (zm 9 0) (by kernel_rfl) rfl rfl (LPx.out.drew) (fun hHeld => ?_)
      refine zpk 0 37 9 1 ?_
      refine zpk 1 38 9 3 ?_
      refine take_ (i := 3) (N := some 40) (v := _) (a' := ?_) (zm 9 11) rfl rfl (by kernel_rfl) (fun _ _ _ h => h) (yieldsIf_load_mid (by rfl) 39 (.tmp 6) rfl b6 0 (by rfl) csa _ (fun W h => range_ h.ha) Tryz.underlying39 rfl (by rw [LA.out]; kernel_rfl)) hHeld ?_ ?_
      rotate_left
      · simp only [Act.put, List.setIfInBounds_toArray, List.set_cons_zero, List.set_cons_succ, i64_w, i32_w]
        rfl
      refine zpk 6 43 9 75 ?_
      have RD := Aside0.mk (RB12.out.drew)
      refine join_ (σ := S35 × Value) 3 (zm 9 95) (fun s => [(39, .agg (testCells s.1).toArray), (41, s.2)]) (fun s W => LP w g gr b6 xa csa lo hi W ∧ RdW w0 g b c W ∧ Kd.R k39 39 W w.heap.size (fun k => lo ≤ k) s.2 [xa]) (fun s W hF => ?_) (fun HJ => ?_)
      · obtain ⟨y, vk⟩ := s
        obtain ⟨hHeld, hRD, hRS⟩ := hF
        obtain ⟨A4, c4, rfl⟩ := Kd.R_slice hRS
        refine norm_ (a' := ?_) ?_ ?_
        rotate_left
        · simp only [putAll, Act.put, List.setIfInBounds_toArray, List.set_cons_zero, List.set_cons_succ]
          rfl
        refine pure_ (i := 5) (N := some 42) (v := .agg (planV (⟨2, 0, y, [], 0, 0, [], 0, 0, [xa]⟩ : S39) (.slice none 0 0) (.slice none 0 0) (.slice A4 1 c4)).toArray) (a' := ?_) (zm 9 127) rfl rfl (by kernel_rfl) (fun _ _ _ h => h) (.inl ⟨by rfl, exec_build 39 _ rfl #[(0, .int .i64 2), (2, .agg (testCells y).toArray), (9, .slice A4 1 c4)] (by first | kernel_rfl | (go_simp; done) | (go_simp; rfl)) _ (fun W => by kernel_rfl)⟩) ?_ ?_
        rotate_left
        · simp only [Act.put, List.setIfInBounds_toArray, List.set_cons_zero, List.set_cons_succ, i64_w, i32_w]
          rfl
        refine last_ (i := 7) (N := none) (zm 9 255) rfl rfl (by kernel_rfl) (by decide) (fun K hK => ?_)
        refine store_step 39 (.tmp 4) (.tmp 42) rfl rfl (by rfl) gr 0 (by rfl) (.agg (planV (⟨2, 0, y, [], 0, 0, [], 0, 0, [xa]⟩ : S39) (.slice none 0 0) (.slice none 0 0) (.slice A4 1 c4)).toArray) (by rfl) (planV (⟨2, 0, y, [], 0, 0, [], 0, 0, [xa]⟩ : S39) (.slice none 0 0) (.slice none 0 0) (.slice A4 1 c4)) rfl (by kernel_rfl) planV_one zero39 _ hHeld.hr (by simp [planV, zero39]) ?_
        intro wz hb hg
        have XZ := Aside0.mk (show wz.heap[gr]? = some (.cells (planV (⟨2, 0, y, [], 0, 0, [], 0, 0, [xa]⟩ : S39) (.slice none 0 0) (.slice none 0 0) (.slice A4 1 c4)).toArray 39 (0, 0)) from hb)
        have RZ := Aside0.mk (RdW.grown (hRD.less (c' := c) (by omega)) hg (by intro e; injection e with e; have h1 := hHeld.hg; have h2 := hHeld.h1; omega) (fun k e => by injection e with e; rw [← e]; exact GB.out))
        have KZ := Aside0.mk (KeepBut.put hHeld.kb hg hHeld.h1)
        have OZ := Aside0.mk (show OwnP wz w.heap.size (⟨2, 0, y, [], 0, 0, [], 0, 0, [xa]⟩ : S39) (planV (⟨2, 0, y, [], 0, 0, [], 0, 0, [xa]⟩ : S39) (.slice none 0 0) (.slice none 0 0) (.slice A4 1 c4)) from OwnP.kids rfl rfl (R_iv hRS hg (fun k h e => by have h1 := hHeld.h2; omega)))
        refine hK.out _ _ ?_
        refine zpk 8 5 9 511 ?_
        refine done_ (by kernel_rfl) ?_
        clear hb hg hHeld hRD hRS hK K
        go_wp2
        exact bodyPost_ret (results_cell_tmp rfl _ _ gr _ _ _ _ rfl XZ.out Tryz.underlying39 rfl (by kernel_rfl)) rfl ⟨⟨_, _, _, rfl, OZ.out, (by rw [sz_one rfl]; have h1 := SZA.out; show _ ≤ 2 * sp d + 1; omega), small_kids (by simp) (by simp) (by simp) (by intro q hq; simp at hq; rw [hq]; exact SMA.out), by simp⟩, RZ.out, KZ.out⟩
      refine two_ (i := 2) (j := 4) (Ni := some 39) (Nj := some 41) (zm 9 79) (zm 9 91) rfl rfl rfl rfl (by kernel_rfl) (by decide) (by decide) (fun K hK => ?_) (fun K hK => ?_)
      · refine goes_ Tryz.func60 (by kernel_rfl) rfl #[.pointer (some ⟨g, 0, none⟩), .int .i64 wa] (by rfl) rfl rfl (by simp only [List.map_toArray, List.map_cons, List.map_nil]; rfl) ?_
        refine (l3Test_c (c := c + pk d + 4) RD.out _).mono ?_
        rintro e we ⟨⟨y, rfl⟩, hRD, hk⟩
        refine ⟨_, rfl, ?_⟩
        have RD := Aside0.mk hRD
        refine hK.out _ _ (hHeld.keep hk) (fun hHeld => ?_)
        clear hK K
        refine znk (N := some 39) ?_
        refine one_ (i := 4) (N := some 41) (zm 9 95) rfl rfl (by kernel_rfl) (by decide) (fun K hK => ?_)
        refine Kd.R_lit_step k39 (w0 := _) w.heap.size 39 (by rfl) (N := 41) rfl (xs := [xa]) (inner := csa) (ok := fun k => lo ≤ k) (okp := Iv lo hi) (exec_lit1 37 39 (.tmp 40) rfl Tryz.underlying37 _ 19 200 info39 (by decide) (by decide) csa LA.out (by rfl)) (reps_one LA.out hHeld.ma) (fun k h => h.1) (by have h1 := blk_lt hHeld.ha; have h2 := hHeld.h3; have h3 := hHeld.h4; omega) (Below.refl _ _) hHeld.kb.1 (by simp) ?_
        intro vL we ho hB hg hnew
        have RS := Aside0.mk ho
        have RD := Aside0.mk (RD.out.grown hg (by intro e; cases e) (fun k e => by cases e))
        refine hK.out _ _ (hHeld.row hg (fun k e => by cases e)) (fun hHeld => ?_)
        clear hK K
        refine znk (N := some 41) ?_
        exact norm_ (by first | (simp only [putAll, Act.put, List.setIfInBounds_toArray, List.set_cons_zero, List.set_cons_succ]; done) | (simp only [putAll, Act.put, List.setIfInBounds_toArray, List.set_cons_zero, List.set_cons_succ]; rfl)) (HJ ⟨y, vL⟩ _ ⟨hHeld, RD.out.less (by omega), RS.out⟩)
      · refine Kd.R_lit_step k39 (w0 := _) w.heap.size 39 (by rfl) (N := 41) rfl (xs := [xa]) (inner := csa) (ok := fun k => lo ≤ k) (okp := Iv lo hi) (exec_lit1 37 39 (.tmp 40) rfl Tryz.underlying37 _ 19 200 info39 (by decide) (by decide) csa LA.out (by rfl)) (reps_one LA.out hHeld.ma) (fun k h => h.1) (by have h1 := blk_lt hHeld.ha; have h2 := hHeld.h3; have h3 := hHeld.h4; omega) (Below.refl _ _) hHeld.kb.1 (by simp) ?_
        intro vL we ho hB hg hnew
        have RS := Aside0.mk ho
        have RD := Aside0.mk (RD.out.grown hg (by intro e; cases e) (fun k e => by cases e))
        refine hK.out _ _ (hHeld.row hg (fun k e => by cases e)) (fun hHeld => ?_)
        clear hK K
        refine znk (N := some 41) ?_
        refine one_ (i := 2) (N := some 39) (zm 9 95) rfl rfl (by kernel_rfl) (by decide) (fun K hK => ?_)
        refine goes_ Tryz.func60 (by kernel_rfl) rfl #[.pointer (some ⟨g, 0, none⟩), .int .i64 wa] (by rfl) rfl rfl (by simp only [List.map_toArray, List.map_cons, List.map_nil]; rfl) ?_
        refine (l3Test_c (c := c + pk d + 4) RD.out _).mono ?_
        rintro e we ⟨⟨y, rfl⟩, hRD, hk⟩
        refine ⟨_, rfl, ?_⟩
        have RD := Aside0.mk hRD
        have RS := Aside0.mk (Kd.R_keep RS.out hk (fun k h => by have h1 := hHeld.hg; have h2 := hHeld.h1; have h3 := hHeld.h2; have h4 : lo ≤ k := h; omega))
        refine hK.out _ _ (hHeld.keep hk) (fun hHeld => ?_)
        clear hK K
        refine znk (N := some 39) ?_
        exact norm_ (by first | (simp only [putAll, Act.put, List.setIfInBounds_toArray, List.set_cons_zero, List.set_cons_succ]; done) | (simp only [putAll, Act.put, List.setIfInBounds_toArray, List.set_cons_zero, List.set_cons_succ]; rfl)) (HJ ⟨y, vL⟩ _ ⟨hHeld, RD.out.less (by omega), RS.out⟩)
  · clear hv hv8
    go_wp2_with (first
      | ((with_reducible refine gate_dst (N := 46) rfl ?_); refine loadVar_ 39 (.tmp 6) rfl rfl b6 ?hx csa _ Tryz.underlying39 ?hi _ LPx.out.ha ?_; (case hx => first | rfl | (go_simp; done) | (go_simp; rfl)); (case hi => rw [LA.out]; kernel_rfl))
      | ((with_reducible refine gate_dst (N := 47) rfl ?_); refine Kd.R_lit k39 (w0 := wq) w.heap.size 39 ?hg (N := 47) ?hd (xs := [xa]) (inner := csa) (ok := fun k => lo ≤ k) (okp := Iv lo hi) ?hr (reps_one LA.out LPx.out.ma) (fun k h => h.1) (by have h1 := blk_lt LPx.out.ha; have h2 := LPx.out.h3; have h3 := LPx.out.h4; omega) (Below.refl _ _) LPx.out.kb.1 (by simp) ?_; (case hd => rfl); (case hg => rfl); (case hr => exact exec_lit1 37 39 (.tmp 46) rfl Tryz.underlying37 _ 19 200 info39 (by decide) (by decide) csa LA.out (by first | rfl | (go_simp; done) | (go_simp; rfl))); intro vL wq ho hB hg hnew; obtain ⟨A4, c4, rfl⟩ := Kd.R_slice ho; have RS := Aside0.mk ho; have LPx_ := Aside0.mk (LPx.out.row hg (fun k e => by cases e)); have RB12_ := Aside0.mk (RB12.out.grown hg (by intro e; cases e) (fun k e => by cases e)); clear LPx RB12; have LPx := LPx_; have RB12 := RB12_; clear LPx_ RB12_; clear ho hB hg hnew)
      | ((with_reducible refine gate_dst (N := 48) rfl ?_); refine build_ 39 _ rfl rfl #[(0, .int .i64 3), (9, .slice A4 1 c4)] ?hvs (.agg (planV (⟨3, 0, zeroT, [], 0, 0, [], 0, 0, [xa]⟩ : S39) (.slice none 0 0) (.slice none 0 0) (.slice A4 1 c4)).toArray) ?hrun ?_; (case hvs => first | rfl | (go_simp; done) | (go_simp; rfl)); (case hrun => intro W; kernel_rfl))
      | ((with_reducible refine gate_dst (N := 8) rfl ?_); refine alloc_ 39 rfl rfl zero39 _ _ info39 ?_; intro b8 hg wq hb hB; have X8 := Aside0.mk hb; have G8 := Aside0.mk (show b6 < b8 by rw [hg]; exact blk_lt LPx.out.ha); have RT := Aside0.mk (show Kd.R k39 39 wq w.heap.size (fun k => lo ≤ k ∧ k ≠ b8) (.slice A4 1 c4) [xa] from Kd.R_below (Kd.R_mono (Kd.R_bound RS.out) (fun k hk => ⟨hk.1, by have := hk.2.2.1; omega⟩)) hB); clear RS; have LPx_ := Aside0.mk (LPx.out.below hB); have RB12_ := Aside0.mk (RB12.out.below hB); clear LPx RB12; have LPx := LPx_; have RB12 := RB12_; clear LPx_ RB12_; clear hb hB hg)
      | ((with_reducible refine gate_ (.store 39 (.tmp 8) (.tmp 48)) rfl ?_); refine storeAll_ 39 (.tmp 8) (.tmp 48) rfl rfl rfl b8 ?hp (planV (⟨3, 0, zeroT, [], 0, 0, [], 0, 0, [xa]⟩ : S39) (.slice none 0 0) (.slice none 0 0) (.slice A4 1 c4)) ?hx2 ?ht planV_one zero39 _ X8.out ?hf ?_; (case hp => first | rfl | (go_simp; done) | (go_simp; rfl)); (case hx2 => first | rfl | (go_simp; done) | (go_simp; rfl)); (case ht => kernel_rfl); (case hf => rfl); intro wq hb hg; have PXx := Aside0.mk (show PX w.heap.size lo b8 (⟨3, 0, zeroT, [], 0, 0, [], 0, 0, [xa]⟩ : S39) (.slice none 0 0) (.slice none 0 0) (.slice A4 1 c4) wq from ⟨hb, Kd.R_nil _ _ _ _ _, Kd.R_nil _ _ _ _ _, Kd.R_mono (R_iv RT.out hg (fun k h => h.2)) (fun k h => ⟨⟨h, by simp [Value.ownBlock]⟩, by simp [Value.ownBlock]⟩)⟩); have LPx_ := Aside0.mk (LPx.out.row hg (fun k e => by injection e with e; have := G8.out; omega)); have RB12_ := Aside0.mk (RB12.out.grown hg (by intro e; injection e with e; have h0 := HG.out; have h1 := GE.out; have h2 := G2.out; have h3 := LPx.out.h3; have h4 := LPx.out.h4; have h5 := G8.out; omega) (fun k e => by injection e with e; have h0 := GB.out; have h2 := G2.out; have h3 := LPx.out.h3; have h4 := LPx.out.h4; have h5 := G8.out; omega)); clear LPx RB12; have LPx := LPx_; have RB12 := RB12_; clear LPx_ RB12_; clear X8 RT hb hg)
      | (go_at_call 33; have GL := Aside0.mk (show g < lo by have h0 := HG.out; have h1 := GE.out; have h2 := G2.out; omega); have LB_ := Aside0.mk (show lo ≤ b8 by have h3 := LPx.out.h3; have h4 := LPx.out.h4; have h5 := G8.out; omega); have BG := Aside0.mk (show b8 ≠ g by have h0 := GL.out; have h1 := LB_.out; omega); refine (pick_c RB12.out _).mono ?_; rintro e wq ⟨⟨v3, rfl, hv3⟩, hRD, hk⟩; obtain ⟨m3, rfl⟩ : ∃ m : Nat, v3 = (m : Int) := ⟨v3.toNat, by have := hv3 (by decide); omega⟩; have hm3 : m3 < 3 := (by have := hv3 (by decide); omega); have RB11 := Aside0.mk hRD; clear RB12 hRD hv3; have LPx_ := Aside0.mk (LPx.out.keep hk); have PXx_ := Aside0.mk (PXx.out.keep hk GL.out BG.out); clear LPx PXx; have LPx := LPx_; have PXx := PXx_; clear LPx_ PXx_; clear hk))
    go_loopw [9] (fun v9 wr => ∃ (i : Nat) (cells : List S33) (v12 : Value), v9 = .int .i64 i ∧ cells.length + i ≤ 3 ∧ Aside0 (LP w g gr b6 xa csa lo hi wr) ∧ Aside0 (RdW w0 g b (c + 3 * i) wr) ∧ Aside0 (PX w.heap.size lo b8 (⟨3, 0, zeroT, cells, 0, 0, [], 0, 0, [xa]⟩ : S39) v12 (.slice none 0 0) (.slice A4 1 c4) wr) ∧ Aside0 (∀ k, v12.ownBlock = some k → b8 < k)) (fun v9 _ => (intOf v9).toNat)
    · exact ⟨1 + m3, [], (.slice none 0 0), by go_num, by simp; omega, LPx, ⟨RB11.out.less (by have := pk_pos d; omega)⟩, PXx, ⟨fun k e => by simp [Value.ownBlock] at e⟩⟩
    · clear LPx RB11 PXx
      obtain ⟨i, cells, v12, rfl, hci, LPx, RD0, PXx, O12⟩ := hrel
      have PB := Aside0.mk (pk_pos d)
      cases i with
      | zero =>
        obtain ⟨A12, c12, rfl⟩ := Kd.R_slice PXx.out.r12
        have HCI := Aside0.mk (show cells.length ≤ 3 by omega)
        clear O12
        go_wp2
        have RD := Aside0.mk (RD0.out.drew)
        refine start_ (n := 6) (S := fun W => W.heap[b8]? = some (.cells (planV (⟨3, 0, zeroT, cells, 0, 0, [], 0, 0, [xa]⟩ : S39) (.slice A12 cells.length c12) (.slice none 0 0) (.slice A4 1 c4)).toArray 39 (0, 0)) ∧ W.cell? ⟨b8, 12, none⟩ = some (.slice A12 cells.length c12)) (ds := []) (zm 6 0) (by kernel_rfl) rfl rfl (⟨PXx.out.drew.hp, PXx.out.drew.c12⟩) (fun hHeld => ?_)
        refine take_ (i := 0) (N := some 64) (v := _) (a' := ?_) (zm 6 1) rfl rfl (by kernel_rfl) (fun _ _ _ h => h) (yieldsIf_load_mid (by rfl) 39 (.tmp 8) rfl b8 0 (by rfl) (planV (⟨3, 0, zeroT, cells, 0, 0, [], 0, 0, [xa]⟩ : S39) (.slice A12 cells.length c12) (.slice none 0 0) (.slice A4 1 c4)) _ (fun W h => range_ h.1) Tryz.underlying39 rfl (by kernel_rfl)) hHeld ?_ ?_
        rotate_left
        · simp only [Act.put, List.setIfInBounds_toArray, List.set_cons_zero, List.set_cons_succ, i64_w, i32_w]
          rfl
        refine zpk 1 65 6 3 ?_
        refine ztk 2 66 6 7 ?_
        refine zpk 3 67 6 15 ?_
        refine one_ (i := 4) (N := none) (zm 6 31) rfl rfl (by kernel_rfl) (by decide) (fun K hK => ?_)
        refine store_step 39 (.tmp 4) (.tmp 64) rfl rfl (by rfl) gr 0 (by rfl) (.agg (planV (⟨3, 0, zeroT, cells, 0, 0, [], 0, 0, [xa]⟩ : S39) (.slice A12 cells.length c12) (.slice none 0 0) (.slice A4 1 c4)).toArray) (by rfl) (planV (⟨3, 0, zeroT, cells, 0, 0, [], 0, 0, [xa]⟩ : S39) (.slice A12 cells.length c12) (.slice none 0 0) (.slice A4 1 c4)) rfl (by kernel_rfl) planV_one zero39 _ LPx.out.drew.hr (by simp [planV, zero39]) ?_
        intro wz hb hg
        have XZ := Aside0.mk (show wz.heap[gr]? = some (.cells (planV (⟨3, 0, zeroT, cells, 0, 0, [], 0, 0, [xa]⟩ : S39) (.slice A12 cells.length c12) (.slice none 0 0) (.slice A4 1 c4)).toArray 39 (0, 0)) from hb)
        have RZ := Aside0.mk (RdW.grown (RD.out.less (c' := c) (by omega)) hg (by intro e; injection e with e; have h1 := HG.out; have h2 := GE.out; omega) (fun k e => by injection e with e; rw [← e]; exact GB.out))
        have KZ := Aside0.mk (KeepBut.put LPx.out.drew.kb hg GE.out)
        have PZ := PXx.out.drew.grown hg G2.out (by have h1 := LB_.out; have h2 := G2.out; omega)
        have OZ := Aside0.mk PZ.own
        refine hK.out _ _ ⟨PZ.hp, PZ.c12⟩ (fun hHeld => ?_)
        clear hK K
        refine zpk 5 5 6 63 ?_
        refine done_ (by kernel_rfl) ?_
        clear hb hg hHeld PZ
        go_wp2
        exact bodyPost_ret (results_cell_tmp rfl _ _ gr _ _ _ _ rfl XZ.out Tryz.underlying39 rfl (by kernel_rfl)) rfl ⟨⟨_, _, _, rfl, OZ.out, (by rw [sz_one rfl]; have h1 := SZA.out; show _ ≤ 2 * sp d + 1; omega), small_kids (by simp; have := HCI.out; omega) (by simp) (by simp) (by intro q hq; simp at hq; rw [hq]; exact SMA.out), by simp; have := HCI.out; omega⟩, RZ.out, KZ.out⟩
      | succ i =>
        have d1 : decide ((0 : Int) < ((i + 1 : Nat) : Int)) = true := decide_eq_true (by omega)
        have HCI := Aside0.mk (show cells.length + (i + 1) ≤ 3 from hci)
        have RD1 := Aside0.mk (RD0.out.less (c' := c + 3 * i + 3) (by omega))
        go_wp2
        have RD := Aside0.mk (RD1.out.drew)
        refine start_ (n := 9) (S := fun W => LP w g gr b6 xa csa lo hi W ∧ PX w.heap.size lo b8 (⟨3, 0, zeroT, cells, 0, 0, [], 0, 0, [xa]⟩ : S39) v12 (.slice none 0 0) (.slice A4 1 c4) W ∧ W.cell? ⟨b8, 12, none⟩ = some v12) (ds := [6, 8]) (zm 9 0) (by kernel_rfl) rfl rfl (⟨LPx.out.drew, PXx.out.drew, PXx.out.drew.c12⟩) (fun hHeld => ?_)
        refine zpk 0 56 9 1 ?_
        refine ztk 1 57 9 3 ?_
        refine zpk 2 58 9 7 ?_
        refine zpk 3 59 9 15 ?_
        refine one_ (i := 4) (N := some 60) (zm 9 31) rfl rfl (by kernel_rfl) (by decide) (fun K hK => ?_)
        refine goes_ Tryz.func57 (by kernel_rfl) rfl #[.pointer (some ⟨g, 0, none⟩), .int .i64 wa] (by rfl) rfl rfl (by simp only [List.map_toArray, List.map_cons, List.map_nil]; rfl) ?_
        refine (l3Cell_c (c := c + 3 * i) RD.out _).mono ?_
        rintro e we ⟨⟨a1, a2, a3, a4, rfl⟩, hRD, hk⟩
        refine ⟨_, rfl, ?_⟩
        have RD := Aside0.mk hRD
        refine hK.out _ _ (⟨hHeld.1.keep hk, hHeld.2.1.keep hk GL.out BG.out, (hHeld.2.1.keep hk GL.out BG.out).c12⟩) (fun hHeld => ?_)
        clear hK K
        refine znk (N := some 60) ?_
        refine one_ (i := 5) (N := some 61) (zm 9 63) rfl rfl (by kernel_rfl) (by decide) (fun K hK => ?_)
        refine event_step (v := .slice (some ⟨we.heap.size, 0, none⟩) 1 1) (w1 := we.alloc (.cells [.int .i64 a1, .int .i64 a2, .int .i64 a3, .int .i64 a4].toArray 33)) (by rfl) (exec_lit1 36 33 (.tmp 60) rfl Tryz.underlying36 _ 4 32 info33 (by decide) (by decide) [.int .i64 a1, .int .i64 a2, .int .i64 a3, .int .i64 a4] rfl (by rfl)) ?_
        have hBa : Below we.heap.size we (we.alloc (.cells [.int .i64 a1, .int .i64 a2, .int .i64 a3, .int .i64 a4].toArray 33)) := below_alloc (Below.refl _ _) _
        have S0 := hHeld
        refine hK.out _ _ (⟨hHeld.1.below hBa, hHeld.2.1.below hBa, (hHeld.2.1.below hBa).c12⟩) (fun hHeld => ?_)
        clear hK K
        refine znk (N := some 61) ?_
        refine last_ (i := 6) (N := some 62) (zm 9 127) rfl rfl (by kernel_rfl) (by decide) (fun K hK => ?_)
        refine Kd.R_append_step k33 (w0 := we) w.heap.size (by rfl) (.tmp 57) (.tmp 61) 36 33 _ _ rfl Tryz.underlying36 info33 rfl (by decide) (by decide) v12 cells (⟨a1, a2, a3, a4⟩ : S33) [.int .i64 a1, .int .i64 a2, .int .i64 a3, .int .i64 a4] (fun k => lo ≤ k ∧ k ≠ b8) (fun _ => False) (by rfl) (by rfl) (k33_mkM _ _ _ ⟨a1, a2, a3, a4⟩) (fun _ h => h.elim) (fun k hk => ⟨by have h1 := blk_lt S0.2.1.hp; have h2 := LB_.out; omega, by have h1 := blk_lt S0.2.1.hp; omega⟩) S0.2.1.r12 (Below.refl _ _) (Nat.le_trans (by have h0 := GE.out; have h1 := G2.out; have h2 := LB_.out; omega) (Nat.le_of_lt (blk_lt S0.2.1.hp))) (by have := HCI.out; simp; omega) ?_
        intro v1 wf ho hBf hgf hat
        obtain ⟨A8, c8, rfl⟩ := Kd.R_slice ho
        refine hK.out _ _ ?_
        clear hK K
        refine znk (N := some 62) ?_
        refine zpk 7 63 9 255 ?_
        refine last_ (i := 8) (N := none) (zm 9 511) rfl rfl (by kernel_rfl) (by decide) (fun K hK => ?_)
        refine store_step 36 (.tmp 63) (.tmp 62) rfl rfl (by rfl) b8 12 (by rfl) (.slice A8 (cells ++ [(⟨a1, a2, a3, a4⟩ : S33)]).length c8) (by rfl) [.slice A8 (cells ++ [(⟨a1, a2, a3, a4⟩ : S33)]).length c8] rfl (by kernel_rfl) (by simp [Value.oneCell']) (planV (⟨3, 0, zeroT, cells, 0, 0, [], 0, 0, [xa]⟩ : S39) v12 (.slice none 0 0) (.slice A4 1 c4)) _ (S0.2.1.blk12 hgf) (by simp [planV]) ?_
        intro wh hb hg
        have LPn := Aside0.mk ((S0.1.row hgf (fun k e => by have h1 := O12.out k e; have h2 := G8.out; omega)).row hg (fun k e => by injection e with e; have h2 := G8.out; omega))
        have PXn := Aside0.mk (show PX w.heap.size lo b8 (⟨3, 0, zeroT, cells ++ [(⟨a1, a2, a3, a4⟩ : S33)], 0, 0, [], 0, 0, [xa]⟩ : S39) (.slice A8 (cells ++ [(⟨a1, a2, a3, a4⟩ : S33)]).length c8) (.slice none 0 0) (.slice A4 1 c4) wh from PX.set12 S0.2.1 ho hgf hat hg hb)
        have RDn := Aside0.mk (RdW.grown (RdW.grown RD.out hgf (by intro e; have h1 := O12.out _ e.symm; have h2 := BG.out; have h3 := GL.out; have h4 := LB_.out; omega) (fun k e => by have h1 := O12.out k e; have h2 := LB_.out; have h3 := G2.out; have h4 := GB.out; omega)) hg (by intro e; injection e with e; exact BG.out e.symm) (fun k e => by injection e with e; have h2 := LB_.out; have h3 := G2.out; have h4 := GB.out; omega))
        have On := Aside0.mk (show ∀ k, ((.slice A8 (cells ++ [(⟨a1, a2, a3, a4⟩ : S33)]).length c8) : Value).ownBlock = some k → b8 < k from fun k e => hat.elim (fun h => O12.out k (h ▸ e)) (fun ⟨q, h, hq⟩ => by rw [h] at e; injection e with e; have h1 := blk_lt S0.2.1.hp; omega))
        refine hK.out _ _ ?_
        refine done_ (by kernel_rfl) ?_
        clear hHeld hK K hb hg hat hgf hBf ho S0 hBa LPx PXx RD RD0 RD1 O12
        go_wp2
        go_roundw
        case rel => exact ⟨i, _, _, by go_num, by have := HCI.out; simp; omega, LPn, RDn, PXn, On⟩
        case measure => first | (simp [intOf]; done) | (simp [intOf]; omega)
  · rcases hc with rfl | rfl
    all_goals
      clear hv hv8
      go_wp2_with (first
        | (go_at_call 61; obtain ⟨M, hM⟩ : ∃ M : Int, M = (if (2 : Int) < D - 1 then 2 else D - 1) := ⟨_, rfl⟩; refine (min_c _ _ _).mono ?_; rintro e wq ⟨he, hB⟩; rw [← hM] at he; subst he; have MM := Aside0.mk hM; have LPx_ := Aside0.mk (LPx.out.below hB); have RB12_ := Aside0.mk (RB12.out.below hB); clear LPx RB12; have LPx := LPx_; have RB12 := RB12_; clear LPx_ RB12_; clear hM hB)
            | (go_at_call 55; obtain ⟨lo2, hlo2⟩ : ∃ n, n = wq.heap.size := ⟨_, rfl⟩; have Q1 := Aside0.mk (show b6 < lo2 by rw [hlo2]; exact blk_lt LPx.out.ha); refine (IH.out (min 1 d) (Nat.min_le_right _ _) w0 g b (c + 12) _ M (RB12.out.less (c' := c + 12 + pk (min 1 d)) (by have := pk_mono (Nat.min_le_right 1 d); omega)) (by rw [MM.out]; have := DD.out; split <;> omega)).mono ?_; rintro e wq ⟨⟨xb, csb, wb, rfl, hO, hz, hs, -⟩, hRD, hk⟩; have RC12 := Aside0.mk hRD; have OB := Aside0.mk (hlo2 ▸ hO); have SZB := Aside0.mk (show sz39 xb ≤ sp d from Nat.le_trans hz (sp_mono (Nat.min_le_right 1 d))); have SMB := Aside0.mk hs; have LB := Aside0.mk (show csb.length = 19 from hO.len); have OC := Aside0.mk (show ∀ q ∈ csb, q.oneCell' = true from hO.one); have Q2 := Aside0.mk (show lo2 ≤ wq.heap.size by rw [hlo2]; exact hk.1); clear RB12 hRD hO hz hs hlo2; have LPx_ := Aside0.mk (LPx.out.keep hk); clear LPx; have LPx := LPx_; clear LPx_; clear hk)
            | ((with_reducible refine gate_dst (N := 10) rfl ?_); obtain ⟨hi2, hhi2⟩ : ∃ n, n = wq.heap.size := ⟨_, rfl⟩; refine alloc_ 39 rfl rfl zero39 _ _ info39 ?_; intro b10 hg wq hb hB; have X10 := Aside0.mk hb; have Q3 := Aside0.mk (show hi2 ≤ b10 by rw [hg, hhi2]; exact Nat.le_refl _); have Q4 := Aside0.mk (show lo2 ≤ hi2 by rw [hhi2]; exact Q2.out); have MB := Aside0.mk (show OwnI wq w.heap.size lo2 hi2 xb csb from (by rw [hhi2]; exact OB.out.I.below hB : OwnI wq lo2 lo2 hi2 xb csb).lower (by have h1 := LPx.out.h1; have h2 := LPx.out.h2; have h3 := LPx.out.h3; have h4 := LPx.out.h4; have h5 := Q1.out; omega)); clear OB Q2; have LPx_ := Aside0.mk (LPx.out.below hB); have RC12_ := Aside0.mk (RC12.out.below hB); clear LPx RC12; have LPx := LPx_; have RC12 := RC12_; clear LPx_ RC12_; clear hb hB hg hhi2)
            | ((with_reducible refine gate_ (.store 39 (.tmp 10) (.tmp 77)) rfl ?_); refine storeAll_ 39 (.tmp 10) (.tmp 77) rfl rfl rfl b10 ?hp csb ?hx2 ?ht OC.out zero39 _ X10.out ?hf ?_; (case hp => first | rfl | (go_simp; done) | (go_simp; rfl)); (case hx2 => first | rfl | (go_simp; done) | (go_simp; rfl)); (case ht => rw [LB.out]; kernel_rfl); (case hf => rw [LB.out]; rfl); intro wq hb hg; have LQx := Aside0.mk (show LQ w g gr b6 xa csa lo hi b10 xb csb lo2 hi2 wq from ⟨LPx.out.row hg (fun k e => by injection e with e; have h1 := Q1.out; have h2 := Q3.out; have h3 := Q4.out; omega), hb, (MB.out.row hg (fun k e => by injection e with e; have h2 := Q3.out; omega)).M, Q1.out, Q4.out, Q3.out⟩); have RC12_ := Aside0.mk (RC12.out.grown hg (by intro e; injection e with e; have h0 := LQx.out.lp.hg; have h1 := LQx.out.lp.h1; have h2 := LQx.out.lp.h2; have h3 := LQx.out.lp.h3; have h4 := LQx.out.lp.h4; have h5 := Q1.out; have h6 := Q3.out; have h7 := Q4.out; omega) (fun k e => by injection e with e; have h0 := GB.out; have h2 := LQx.out.lp.h2; have h3 := LQx.out.lp.h3; have h4 := LQx.out.lp.h4; have h5 := Q1.out; have h6 := Q3.out; have h7 := Q4.out; omega)); clear RC12; have RC12 := RC12_; clear RC12_; clear LPx X10 MB hb hg)
            | ((with_reducible refine gate_dst (N := 83) rfl ?_); refine loadVar_ 39 (.tmp 6) rfl rfl b6 ?hx csa _ Tryz.underlying39 ?hi _ LQx.out.lp.ha ?_; (case hx => first | rfl | (go_simp; done) | (go_simp; rfl)); (case hi => rw [LA.out]; kernel_rfl))
            | ((with_reducible refine gate_ (.store 39 (.tmp 4) (.tmp 83)) rfl ?_); refine storeAll_ 39 (.tmp 4) (.tmp 83) rfl rfl rfl gr ?hp csa ?hx2 ?ht ?h1 zero39 _ LQx.out.lp.hr ?hf ?_; (case hp => first | rfl | (go_simp; done) | (go_simp; rfl)); (case hx2 => first | rfl | (go_simp; done) | (go_simp; rfl)); (case ht => rw [LA.out]; kernel_rfl); (case h1 => exact OA.out); (case hf => rw [LA.out]; rfl); intro wz hb hg; have XZ := Aside0.mk hb; have RZ := Aside0.mk (RdW.grown (RC12.out.less (c' := c) (by omega)) hg (by intro e; injection e with e; have := GE.out; have := HG.out; omega) (fun k e => by injection e with e; rw [← e]; exact GB.out)); have KZ := Aside0.mk (KeepBut.put LQx.out.lp.kb hg GE.out); have OZ := Aside0.mk (show OwnP wz w.heap.size xa csa from (LQx.out.lp.oa.row hg (fun k e => by injection e with e; have := G2.out; omega)).P); clear hb hg ))
      · exact bodyPost_ret (results_cell_tmp rfl _ _ gr _ _ _ _ rfl XZ.out Tryz.underlying39 rfl (by simp only [List.size_toArray]; rw [LA.out]; kernel_rfl)) rfl ⟨⟨_, _, _, rfl, OZ.out, (by have h1 := SZA.out; show _ ≤ 2 * sp d + 1; omega), SMA.out, TNA.out⟩, RZ.out, KZ.out⟩
      · have RD := Aside0.mk (RC12.out.drew)
        refine start_ (n := 15) (S := fun W => LQ w g gr b6 xa csa lo hi b10 xb csb lo2 hi2 W) (ds := [13]) (zm 15 0) (by kernel_rfl) rfl rfl (LQx.out.drew) (fun hHeld => ?_)
        refine zpk 0 85 15 1 ?_
        refine zpk 1 86 15 3 ?_
        refine zpk 3 88 15 11 ?_
        refine zpk 4 89 15 27 ?_
        refine take_ (i := 6) (N := some 91) (v := _) (a' := ?_) (zm 15 91) rfl rfl (by kernel_rfl) (fun _ _ _ h => h) (yieldsIf_load_mid (by rfl) 39 (.tmp 6) rfl b6 0 (by rfl) csa _ (fun W h => range_ h.lp.ha) Tryz.underlying39 rfl (by rw [LA.out]; kernel_rfl)) hHeld ?_ ?_
        rotate_left
        · simp only [Act.put, List.setIfInBounds_toArray, List.set_cons_zero, List.set_cons_succ, i64_w, i32_w]
          rfl
        refine take_ (i := 7) (N := some 92) (v := _) (a' := ?_) (zm 15 219) rfl rfl (by kernel_rfl) (fun _ _ _ h => h) (yieldsIf_load_mid (by rfl) 39 (.tmp 10) rfl b10 0 (by rfl) csb _ (fun W h => range_ h.hb) Tryz.underlying39 rfl (by rw [LB.out]; kernel_rfl)) hHeld ?_ ?_
        rotate_left
        · simp only [Act.put, List.setIfInBounds_toArray, List.set_cons_zero, List.set_cons_succ, i64_w, i32_w]
          rfl
        refine zpk 10 95 15 1243 ?_
        refine zpk 11 96 15 3291 ?_
        refine zpk 12 97 15 7387 ?_
        refine join_ (σ := Int × Int × Value) 3 (zm 15 7679) (fun s => [(87, .int .i64 s.1), (90, .int .i64 s.2.1), (93, s.2.2)]) (fun s W => LQ w g gr b6 xa csa lo hi b10 xb csb lo2 hi2 W ∧ RdW w0 g b c W ∧ Kd.R k39 39 W w.heap.size (fun k => lo ≤ k) s.2.2 [xa, xb]) (fun s W hF => ?_) (fun HJ => ?_)
        · obtain ⟨p1, p2, vk⟩ := s
          obtain ⟨hHeld, hRD, hRS⟩ := hF
          obtain ⟨A4, c4, rfl⟩ := Kd.R_slice hRS
          refine norm_ (a' := ?_) ?_ ?_
          rotate_left
          · simp only [putAll, Act.put, List.setIfInBounds_toArray, List.set_cons_zero, List.set_cons_succ]
            rfl
          refine pure_ (i := 9) (N := some 94) (v := .agg (planV (⟨4, 0, zeroT, [], p1, p2, [], 0, 0, [xa, xb]⟩ : S39) (.slice none 0 0) (.slice none 0 0) (.slice A4 2 c4)).toArray) (a' := ?_) (zm 15 8191) rfl rfl (by kernel_rfl) (fun _ _ _ h => h) (.inl ⟨by rfl, exec_build 39 _ rfl #[(0, .int .i64 4), (4, .int .i64 p1), (5, .int .i64 p2), (9, .slice A4 2 c4)] (by first | kernel_rfl | (go_simp; done) | (go_simp; rfl)) _ (fun W => by kernel_rfl)⟩) ?_ ?_
          rotate_left
          · simp only [Act.put, List.setIfInBounds_toArray, List.set_cons_zero, List.set_cons_succ, i64_w, i32_w]
            rfl
          refine last_ (i := 13) (N := none) (zm 15 16383) rfl rfl (by kernel_rfl) (by decide) (fun K hK => ?_)
          refine store_step 39 (.tmp 4) (.tmp 94) rfl rfl (by rfl) gr 0 (by rfl) (.agg (planV (⟨4, 0, zeroT, [], p1, p2, [], 0, 0, [xa, xb]⟩ : S39) (.slice none 0 0) (.slice none 0 0) (.slice A4 2 c4)).toArray) (by rfl) (planV (⟨4, 0, zeroT, [], p1, p2, [], 0, 0, [xa, xb]⟩ : S39) (.slice none 0 0) (.slice none 0 0) (.slice A4 2 c4)) rfl (by kernel_rfl) planV_one zero39 _ hHeld.lp.hr (by simp [planV, zero39]) ?_
          intro wz hb hg
          have XZ := Aside0.mk (show wz.heap[gr]? = some (.cells (planV (⟨4, 0, zeroT, [], p1, p2, [], 0, 0, [xa, xb]⟩ : S39) (.slice none 0 0) (.slice none 0 0) (.slice A4 2 c4)).toArray 39 (0, 0)) from hb)
          have RZ := Aside0.mk (RdW.grown (hRD.less (c' := c) (by omega)) hg (by intro e; injection e with e; have h1 := hHeld.lp.hg; have h2 := hHeld.lp.h1; omega) (fun k e => by injection e with e; rw [← e]; exact GB.out))
          have KZ := Aside0.mk (KeepBut.put hHeld.lp.kb hg hHeld.lp.h1)
          have OZ := Aside0.mk (show OwnP wz w.heap.size (⟨4, 0, zeroT, [], p1, p2, [], 0, 0, [xa, xb]⟩ : S39) (planV (⟨4, 0, zeroT, [], p1, p2, [], 0, 0, [xa, xb]⟩ : S39) (.slice none 0 0) (.slice none 0 0) (.slice A4 2 c4)) from OwnP.kids rfl rfl (R_iv hRS hg (fun k h e => by have h1 := hHeld.lp.h2; omega)))
          refine hK.out _ _ ?_
          refine zpk 14 5 15 32767 ?_
          refine done_ (by kernel_rfl) ?_
          clear hb hg hHeld hRD hRS hK K
          go_wp2
          exact bodyPost_ret (results_cell_tmp rfl _ _ gr _ _ _ _ rfl XZ.out Tryz.underlying39 rfl (by kernel_rfl)) rfl ⟨⟨_, _, _, rfl, OZ.out, (by rw [sz_two rfl]; have h1 := SZA.out; have h2 := SZB.out; show _ ≤ 2 * sp d + 1; omega), small_kids (by simp) (by simp) (by simp) (by intro q hq; simp at hq; rcases hq with hq | hq <;> rw [hq] <;> first | exact SMA.out | exact SMB.out), by simp⟩, RZ.out, KZ.out⟩
        refine two_ (i := 2) (j := 8) (Ni := some 87) (Nj := some 93) (zm 15 7391) (zm 15 7643) rfl rfl rfl rfl (by kernel_rfl) (by decide) (by decide) (fun K hK => ?_) (fun K hK => ?_)
        · refine goes_ Tryz.func33 (by kernel_rfl) rfl #[.pointer (some ⟨g, 0, none⟩), .int .i64 wa] (by rfl) rfl rfl (by simp only [List.map_toArray, List.map_cons, List.map_nil]; rfl) ?_
          refine (pick_c RD.out _).mono ?_
          rintro e we ⟨⟨p1, rfl, _⟩, hRD, hk⟩
          refine ⟨_, rfl, ?_⟩
          have RD := Aside0.mk hRD
          refine hK.out _ _ (hHeld.keep hk) (fun hHeld => ?_)
          clear hK K
          refine znk (N := some 87) ?_
          refine two_ (i := 5) (j := 8) (Ni := some 90) (Nj := some 93) (zm 15 7423) (zm 15 7647) rfl rfl rfl rfl (by kernel_rfl) (by decide) (by decide) (fun K hK => ?_) (fun K hK => ?_)
          · refine goes_ Tryz.func33 (by kernel_rfl) rfl #[.pointer (some ⟨g, 0, none⟩), .int .i64 wb] (by rfl) rfl rfl (by simp only [List.map_toArray, List.map_cons, List.map_nil]; rfl) ?_
            refine (pick_c RD.out _).mono ?_
            rintro e we ⟨⟨p2, rfl, _⟩, hRD, hk⟩
            refine ⟨_, rfl, ?_⟩
            have RD := Aside0.mk hRD
            refine hK.out _ _ (hHeld.keep hk) (fun hHeld => ?_)
            clear hK K
            refine znk (N := some 90) ?_
            refine one_ (i := 8) (N := some 93) (zm 15 7679) rfl rfl (by kernel_rfl) (by decide) (fun K hK => ?_)
            refine Kd.R_lit_step k39 (w0 := _) w.heap.size 39 (by rfl) (N := 93) rfl (xs := [xa, xb]) (inner := csa ++ csb) (ok := fun k => lo ≤ k) (okp := fun k => lo ≤ k ∧ k < hi2) (exec_lit2 37 39 (.tmp 91) (.tmp 92) rfl Tryz.underlying37 _ 19 200 info39 (by decide) (by decide) csa csb LA.out LB.out (by rfl) (by rfl)) (reps_two LA.out LB.out (k39.M_mono (ok' := fun k => lo ≤ k ∧ k < hi2) (fun k h => ⟨h.1, by have h1 := h.2; have h2 := hHeld.lp.h3; have h3 := hHeld.q1; have h4 := hHeld.q2; omega⟩) hHeld.lp.ma) (k39.M_mono (fun k h => ⟨by have h1 := h.1; have h2 := hHeld.lp.h3; have h3 := hHeld.lp.h4; have h4 := hHeld.q1; omega, h.2⟩) hHeld.mb)) (fun k h => h.1) (by have h1 := blk_lt hHeld.lp.ha; have h2 := hHeld.lp.h3; have h3 := hHeld.lp.h4; omega) (Below.refl _ _) hHeld.lp.kb.1 (by simp) ?_
            intro vL we ho hB hg hnew
            have RS := Aside0.mk ho
            have RD := Aside0.mk (RD.out.grown hg (by intro e; cases e) (fun k e => by cases e))
            refine hK.out _ _ (hHeld.row hg (fun k e => by cases e)) (fun hHeld => ?_)
            clear hK K
            refine znk (N := some 93) ?_
            exact norm_ (by first | (simp only [putAll, Act.put, List.setIfInBounds_toArray, List.set_cons_zero, List.set_cons_succ]; done) | (simp only [putAll, Act.put, List.setIfInBounds_toArray, List.set_cons_zero, List.set_cons_succ]; rfl)) (HJ ⟨p1, p2, vL⟩ _ ⟨hHeld, RD.out.less (by omega), RS.out⟩)
          · refine Kd.R_lit_step k39 (w0 := _) w.heap.size 39 (by rfl) (N := 93) rfl (xs := [xa, xb]) (inner := csa ++ csb) (ok := fun k => lo ≤ k) (okp := fun k => lo ≤ k ∧ k < hi2) (exec_lit2 37 39 (.tmp 91) (.tmp 92) rfl Tryz.underlying37 _ 19 200 info39 (by decide) (by decide) csa csb LA.out LB.out (by rfl) (by rfl)) (reps_two LA.out LB.out (k39.M_mono (ok' := fun k => lo ≤ k ∧ k < hi2) (fun k h => ⟨h.1, by have h1 := h.2; have h2 := hHeld.lp.h3; have h3 := hHeld.q1; have h4 := hHeld.q2; omega⟩) hHeld.lp.ma) (k39.M_mono (fun k h => ⟨by have h1 := h.1; have h2 := hHeld.lp.h3; have h3 := hHeld.lp.h4; have h4 := hHeld.q1; omega, h.2⟩) hHeld.mb)) (fun k h => h.1) (by have h1 := blk_lt hHeld.lp.ha; have h2 := hHeld.lp.h3; have h3 := hHeld.lp.h4; omega) (Below.refl _ _) hHeld.lp.kb.1 (by simp) ?_
            intro vL we ho hB hg hnew
            have RS := Aside0.mk ho
            have RD := Aside0.mk (RD.out.grown hg (by intro e; cases e) (fun k e => by cases e))
            refine hK.out _ _ (hHeld.row hg (fun k e => by cases e)) (fun hHeld => ?_)
            clear hK K
            refine znk (N := some 93) ?_
            refine one_ (i := 5) (N := some 90) (zm 15 7679) rfl rfl (by kernel_rfl) (by decide) (fun K hK => ?_)
            refine goes_ Tryz.func33 (by kernel_rfl) rfl #[.pointer (some ⟨g, 0, none⟩), .int .i64 wb] (by rfl) rfl rfl (by simp only [List.map_toArray, List.map_cons, List.map_nil]; rfl) ?_
            refine (pick_c RD.out _).mono ?_
            rintro e we ⟨⟨p2, rfl, _⟩, hRD, hk⟩
            refine ⟨_, rfl, ?_⟩
            have RD := Aside0.mk hRD
            have RS := Aside0.mk (Kd.R_keep RS.out hk (fun k h => by have h1 := hHeld.lp.hg; have h2 := hHeld.lp.h1; have h3 := hHeld.lp.h2; have h4 : lo ≤ k := h; omega))
            refine hK.out _ _ (hHeld.keep hk) (fun hHeld => ?_)
            clear hK K
            refine znk (N := some 90) ?_
            exact norm_ (by first | (simp only [putAll, Act.put, List.setIfInBounds_toArray, List.set_cons_zero, List.set_cons_succ]; done) | (simp only [putAll, Act.put, List.setIfInBounds_toArray, List.set_cons_zero, List.set_cons_succ]; rfl)) (HJ ⟨p1, p2, vL⟩ _ ⟨hHeld, RD.out.less (by omega), RS.out⟩)
        · refine Kd.R_lit_step k39 (w0 := _) w.heap.size 39 (by rfl) (N := 93) rfl (xs := [xa, xb]) (inner := csa ++ csb) (ok := fun k => lo ≤ k) (okp := fun k => lo ≤ k ∧ k < hi2) (exec_lit2 37 39 (.tmp 91) (.tmp 92) rfl Tryz.underlying37 _ 19 200 info39 (by decide) (by decide) csa csb LA.out LB.out (by rfl) (by rfl)) (reps_two LA.out LB.out (k39.M_mono (ok' := fun k => lo ≤ k ∧ k < hi2) (fun k h => ⟨h.1, by have h1 := h.2; have h2 := hHeld.lp.h3; have h3 := hHeld.q1; have h4 := hHeld.q2; omega⟩) hHeld.lp.ma) (k39.M_mono (fun k h => ⟨by have h1 := h.1; have h2 := hHeld.lp.h3; have h3 := hHeld.lp.h4; have h4 := hHeld.q1; omega, h.2⟩) hHeld.mb)) (fun k h => h.1) (by have h1 := blk_lt hHeld.lp.ha; have h2 := hHeld.lp.h3; have h3 := hHeld.lp.h4; omega) (Below.refl _ _) hHeld.lp.kb.1 (by simp) ?_
          intro vL we ho hB hg hnew
          have RS := Aside0.mk ho
          have RD := Aside0.mk (RD.out.grown hg (by intro e; cases e) (fun k e => by cases e))
          refine hK.out _ _ (hHeld.row hg (fun k e => by cases e)) (fun hHeld => ?_)
          clear hK K
          refine znk (N := some 93) ?_
          refine one_ (i := 2) (N := some 87) (zm 15 7647) rfl rfl (by kernel_rfl) (by decide) (fun K hK => ?_)
          refine goes_ Tryz.func33 (by kernel_rfl) rfl #[.pointer (some ⟨g, 0, none⟩), .int .i64 wa] (by rfl) rfl rfl (by simp only [List.map_toArray, List.map_cons, List.map_nil]; rfl) ?_
          refine (pick_c RD.out _).mono ?_
          rintro e we ⟨⟨p1, rfl, _⟩, hRD, hk⟩
          refine ⟨_, rfl, ?_⟩
          have RD := Aside0.mk hRD
          have RS := Aside0.mk (Kd.R_keep RS.out hk (fun k h => by have h1 := hHeld.lp.hg; have h2 := hHeld.lp.h1; have h3 := hHeld.lp.h2; have h4 : lo ≤ k := h; omega))
          refine hK.out _ _ (hHeld.keep hk) (fun hHeld => ?_)
          clear hK K
          refine znk (N := some 87) ?_
          refine one_ (i := 5) (N := some 90) (zm 15 7679) rfl rfl (by kernel_rfl) (by decide) (fun K hK => ?_)
          refine goes_ Tryz.func33 (by kernel_rfl) rfl #[.pointer (some ⟨g, 0, none⟩), .int .i64 wb] (by rfl) rfl rfl (by simp only [List.map_toArray, List.map_cons, List.map_nil]; rfl) ?_
          refine (pick_c RD.out _).mono ?_
          rintro e we ⟨⟨p2, rfl, _⟩, hRD, hk⟩
          refine ⟨_, rfl, ?_⟩
          have RD := Aside0.mk hRD
          have RS := Aside0.mk (Kd.R_keep RS.out hk (fun k h => by have h1 := hHeld.lp.hg; have h2 := hHeld.lp.h1; have h3 := hHeld.lp.h2; have h4 : lo ≤ k := h; omega))
          refine hK.out _ _ (hHeld.keep hk) (fun hHeld => ?_)
          clear hK K
          refine znk (N := some 90) ?_
          exact norm_ (by first | (simp only [putAll, Act.put, List.setIfInBounds_toArray, List.set_cons_zero, List.set_cons_succ]; done) | (simp only [putAll, Act.put, List.setIfInBounds_toArray, List.set_cons_zero, List.set_cons_succ]; rfl)) (HJ ⟨p1, p2, vL⟩ _ ⟨hHeld, RD.out.less (by omega), RS.out⟩)
  · clear hv hv8
    go_wp2_with (first
      | (go_at_call 55; obtain ⟨lo2, hlo2⟩ : ∃ n, n = wq.heap.size := ⟨_, rfl⟩; have Q1 := Aside0.mk (show b6 < lo2 by rw [hlo2]; exact blk_lt LPx.out.ha); refine (IH.out d (Nat.le_refl _) w0 g b (c + 12) _ (D - 1) (RB12.out.less (c' := c + 12 + pk d) (by omega)) (by have := DD.out; omega)).mono ?_; rintro e wq ⟨⟨xb, csb, wb, rfl, hO, hz, hs, -⟩, hRD, hk⟩; have RC12 := Aside0.mk hRD; have OB := Aside0.mk (hlo2 ▸ hO); have SZB := Aside0.mk (show sz39 xb ≤ sp d from Nat.le_trans hz (sp_mono (Nat.le_refl _))); have SMB := Aside0.mk hs; have LB := Aside0.mk (show csb.length = 19 from hO.len); have OC := Aside0.mk (show ∀ q ∈ csb, q.oneCell' = true from hO.one); have Q2 := Aside0.mk (show lo2 ≤ wq.heap.size by rw [hlo2]; exact hk.1); clear RB12 hRD hO hz hs hlo2; have LPx_ := Aside0.mk (LPx.out.keep hk); clear LPx; have LPx := LPx_; clear LPx_; clear hk)
      | ((with_reducible refine gate_dst (N := 12) rfl ?_); obtain ⟨hi2, hhi2⟩ : ∃ n, n = wq.heap.size := ⟨_, rfl⟩; refine alloc_ 39 rfl rfl zero39 _ _ info39 ?_; intro b10 hg wq hb hB; have X10 := Aside0.mk hb; have Q3 := Aside0.mk (show hi2 ≤ b10 by rw [hg, hhi2]; exact Nat.le_refl _); have Q4 := Aside0.mk (show lo2 ≤ hi2 by rw [hhi2]; exact Q2.out); have MB := Aside0.mk (show OwnI wq w.heap.size lo2 hi2 xb csb from (by rw [hhi2]; exact OB.out.I.below hB : OwnI wq lo2 lo2 hi2 xb csb).lower (by have h1 := LPx.out.h1; have h2 := LPx.out.h2; have h3 := LPx.out.h3; have h4 := LPx.out.h4; have h5 := Q1.out; omega)); clear OB Q2; have LPx_ := Aside0.mk (LPx.out.below hB); have RC12_ := Aside0.mk (RC12.out.below hB); clear LPx RC12; have LPx := LPx_; have RC12 := RC12_; clear LPx_ RC12_; clear hb hB hg hhi2)
      | ((with_reducible refine gate_ (.store 39 (.tmp 12) (.tmp 105)) rfl ?_); refine storeAll_ 39 (.tmp 12) (.tmp 105) rfl rfl rfl b10 ?hp csb ?hx2 ?ht OC.out zero39 _ X10.out ?hf ?_; (case hp => first | rfl | (go_simp; done) | (go_simp; rfl)); (case hx2 => first | rfl | (go_simp; done) | (go_simp; rfl)); (case ht => rw [LB.out]; kernel_rfl); (case hf => rw [LB.out]; rfl); intro wq hb hg; have LQx := Aside0.mk (show LQ w g gr b6 xa csa lo hi b10 xb csb lo2 hi2 wq from ⟨LPx.out.row hg (fun k e => by injection e with e; have h1 := Q1.out; have h2 := Q3.out; have h3 := Q4.out; omega), hb, (MB.out.row hg (fun k e => by injection e with e; have h2 := Q3.out; omega)).M, Q1.out, Q4.out, Q3.out⟩); have RC12_ := Aside0.mk (RC12.out.grown hg (by intro e; injection e with e; have h0 := LQx.out.lp.hg; have h1 := LQx.out.lp.h1; have h2 := LQx.out.lp.h2; have h3 := LQx.out.lp.h3; have h4 := LQx.out.lp.h4; have h5 := Q1.out; have h6 := Q3.out; have h7 := Q4.out; omega) (fun k e => by injection e with e; have h0 := GB.out; have h2 := LQx.out.lp.h2; have h3 := LQx.out.lp.h3; have h4 := LQx.out.lp.h4; have h5 := Q1.out; have h6 := Q3.out; have h7 := Q4.out; omega)); clear RC12; have RC12 := RC12_; clear RC12_; clear LPx X10 MB hb hg)
      | ((with_reducible refine gate_dst (N := 116) rfl ?_); refine loadVar_ 39 (.tmp 6) rfl rfl b6 ?hx csa _ Tryz.underlying39 ?hi _ LQx.out.lp.ha ?_; (case hx => first | rfl | (go_simp; done) | (go_simp; rfl)); (case hi => rw [LA.out]; kernel_rfl))
      | ((with_reducible refine gate_dst (N := 117) rfl ?_); refine loadVar_ 39 (.tmp 12) rfl rfl b10 ?hx csb _ Tryz.underlying39 ?hi _ LQx.out.hb ?_; (case hx => first | rfl | (go_simp; done) | (go_simp; rfl)); (case hi => rw [LB.out]; kernel_rfl))
      | ((with_reducible refine gate_dst (N := 118) rfl ?_); refine Kd.R_lit k39 (w0 := wq) w.heap.size 39 ?hg (N := 118) ?hd (xs := [xa, xb]) (inner := (csa ++ csb)) (ok := fun k => lo ≤ k) (okp := fun k => lo ≤ k ∧ k < hi2) ?hr (reps_two LA.out LB.out (k39.M_mono (ok' := fun k => lo ≤ k ∧ k < hi2) (fun k h => ⟨h.1, by have h1 := h.2; have h2 := LQx.out.lp.h3; have h3 := LQx.out.q1; have h4 := LQx.out.q2; omega⟩) LQx.out.lp.ma) (k39.M_mono (fun k h => ⟨by have h1 := h.1; have h2 := LQx.out.lp.h3; have h3 := LQx.out.lp.h4; have h4 := LQx.out.q1; omega, h.2⟩) LQx.out.mb)) (fun k h => h.1) (by have h1 := blk_lt LQx.out.lp.ha; have h2 := LQx.out.lp.h3; have h3 := LQx.out.lp.h4; omega) (Below.refl _ _) LQx.out.lp.kb.1 (by simp) ?_; (case hd => rfl); (case hg => rfl); (case hr => exact exec_lit2 37 39 (.tmp 116) (.tmp 117) rfl Tryz.underlying37 _ 19 200 info39 (by decide) (by decide) csa csb LA.out LB.out (by first | rfl | (go_simp; done) | (go_simp; rfl)) (by first | rfl | (go_simp; done) | (go_simp; rfl))); intro vL wq ho hB hg hnew; obtain ⟨A4, c4, rfl⟩ := Kd.R_slice ho; have RS := Aside0.mk ho; have LQx_ := Aside0.mk (LQx.out.row hg (fun k e => by cases e)); have RC12_ := Aside0.mk (RC12.out.grown hg (by intro e; cases e) (fun k e => by cases e)); clear LQx RC12; have LQx := LQx_; have RC12 := RC12_; clear LQx_ RC12_; clear ho hB hg hnew)
      | ((with_reducible refine gate_dst (N := 119) rfl ?_); refine build_ 39 _ rfl rfl #[(0, .int .i64 5), (9, .slice A4 2 c4)] ?hvs (.agg (planV (⟨5, 0, zeroT, [], 0, 0, [], 0, 0, [xa, xb]⟩ : S39) (.slice none 0 0) (.slice none 0 0) (.slice A4 2 c4)).toArray) ?hrun ?_; (case hvs => first | rfl | (go_simp; done) | (go_simp; rfl)); (case hrun => intro W; kernel_rfl))
      | ((with_reducible refine gate_ (.store 39 (.tmp 4) (.tmp 119)) rfl ?_); refine storeAll_ 39 (.tmp 4) (.tmp 119) rfl rfl rfl gr ?hp (planV (⟨5, 0, zeroT, [], 0, 0, [], 0, 0, [xa, xb]⟩ : S39) (.slice none 0 0) (.slice none 0 0) (.slice A4 2 c4)) ?hx2 ?ht ?h1 zero39 _ LQx.out.lp.hr ?hf ?_; (case hp => first | rfl | (go_simp; done) | (go_simp; rfl)); (case hx2 => first | rfl | (go_simp; done) | (go_simp; rfl)); (case ht => kernel_rfl); (case h1 => exact planV_one); (case hf => rfl); intro wz hb hg; have XZ := Aside0.mk hb; have RZ := Aside0.mk (RdW.grown (RC12.out.less (c' := c) (by omega)) hg (by intro e; injection e with e; have := GE.out; have := HG.out; omega) (fun k e => by injection e with e; rw [← e]; exact GB.out)); have KZ := Aside0.mk (KeepBut.put LQx.out.lp.kb hg GE.out); have OZ := Aside0.mk (show OwnP wz w.heap.size (⟨5, 0, zeroT, [], 0, 0, [], 0, 0, [xa, xb]⟩ : S39) (planV (⟨5, 0, zeroT, [], 0, 0, [], 0, 0, [xa, xb]⟩ : S39) (.slice none 0 0) (.slice none 0 0) (.slice A4 2 c4)) from OwnP.kids rfl rfl (R_iv RS.out hg (fun k h e => by have h1 := G2.out; omega))); clear hb hg RS))
    · have RD := Aside0.mk (RC12.out.drew)
      refine start_ (n := 8) (S := fun W => LQ w g gr b6 xa csa lo hi b10 xb csb lo2 hi2 W) (ds := [6]) (zm 8 0) (by kernel_rfl) rfl rfl (LQx.out.drew) (fun hHeld => ?_)
      refine take_ (i := 0) (N := some 110) (v := _) (a' := ?_) (zm 8 1) rfl rfl (by kernel_rfl) (fun _ _ _ h => h) (yieldsIf_load_mid (by rfl) 39 (.tmp 6) rfl b6 0 (by rfl) csa _ (fun W h => range_ h.lp.ha) Tryz.underlying39 rfl (by rw [LA.out]; kernel_rfl)) hHeld ?_ ?_
      rotate_left
      · simp only [Act.put, List.setIfInBounds_toArray, List.set_cons_zero, List.set_cons_succ, i64_w, i32_w]
        rfl
      refine take_ (i := 1) (N := some 111) (v := _) (a' := ?_) (zm 8 3) rfl rfl (by kernel_rfl) (fun _ _ _ h => h) (yieldsIf_load_mid (by rfl) 39 (.tmp 6) rfl b6 0 (by rfl) csa _ (fun W h => range_ h.lp.ha) Tryz.underlying39 rfl (by rw [LA.out]; kernel_rfl)) hHeld ?_ ?_
      rotate_left
      · simp only [Act.put, List.setIfInBounds_toArray, List.set_cons_zero, List.set_cons_succ, i64_w, i32_w]
        rfl
      refine zpk 5 115 8 35 ?_
      refine one_ (i := 2) (N := some 112) (zm 8 39) rfl rfl (by kernel_rfl) (by decide) (fun K hK => ?_)
      refine goes_ Tryz.func62 (by kernel_rfl) rfl #[.agg csa.toArray] (by rfl) rfl rfl (by simp only [List.map_toArray, List.map_cons, List.map_nil]; rfl) ?_
      refine (l4Copy_c xa csa _ (k39.K_of_M hHeld.lp.ma) SMA.out).mono ?_
      rintro e we ⟨c1, rfl, hM, hB⟩
      refine ⟨_, rfl, ?_⟩
      have RD := Aside0.mk (RD.out.below hB)
      have LC := Aside0.mk (show c1.length = 19 from k39.K_len (k39.K_of_M hM))
      have hS0 := blk_lt hHeld.lp.ha
      refine hK.out _ _ (hHeld.below hB) (fun hHeld => ?_)
      clear hK K
      refine znk (N := some 112) ?_
      refine one_ (i := 3) (N := some 113) (zm 8 47) rfl rfl (by kernel_rfl) (by decide) (fun K hK => ?_)
      refine Kd.R_lit_step k39 (w0 := we) w.heap.size 39 (by rfl) (N := 113) rfl (xs := [xa, xa]) (inner := csa ++ c1) (ok := fun k => lo ≤ k) (okp := fun k => lo ≤ k) (exec_lit2 37 39 (.tmp 110) (.tmp 112) rfl Tryz.underlying37 _ 19 200 info39 (by decide) (by decide) csa c1 LA.out LC.out (by rfl) (by rfl)) (reps_two LA.out LC.out (k39.M_mono (fun k h => h.1) hHeld.lp.ma) (k39.M_lower (Nat.le_of_lt (Nat.lt_of_le_of_lt (Nat.le_trans hHeld.lp.h1 (Nat.le_trans (Nat.le_of_lt hHeld.lp.h2) (Nat.le_trans hHeld.lp.h4 hHeld.lp.h3))) hS0)) (k39.M_mono (fun k h => by have h1 := h.2.1; have h2 := hHeld.lp.h3; have h3 := hHeld.lp.h4; omega) (k39.M_bound hM)))) (fun k h => h) (by have h1 := blk_lt hHeld.lp.ha; have h2 := hHeld.lp.h3; have h3 := hHeld.lp.h4; omega) (Below.refl _ _) hHeld.lp.kb.1 (by simp) ?_
      intro vL wf ho hBf hg hnew
      obtain ⟨A4, c4, rfl⟩ := Kd.R_slice ho
      have RS := Aside0.mk ho
      have RD := Aside0.mk (RD.out.grown hg (by intro e; cases e) (fun k e => by cases e))
      refine hK.out _ _ (hHeld.row hg (fun k e => by cases e)) (fun hHeld => ?_)
      clear hK K
      refine znk (N := some 113) ?_
      refine pure_ (i := 4) (N := some 114) (v := .agg (planV (⟨5, 0, zeroT, [], 0, 0, [], 0, 0, [xa, xa]⟩ : S39) (.slice none 0 0) (.slice none 0 0) (.slice A4 2 c4)).toArray) (a' := ?_) (zm 8 63) rfl rfl (by kernel_rfl) (fun _ _ _ h => h) (.inl ⟨by rfl, exec_build 39 _ rfl #[(0, .int .i64 5), (9, .slice A4 2 c4)] (by first | kernel_rfl | (go_simp; done) | (go_simp; rfl)) _ (fun W => by kernel_rfl)⟩) ?_ ?_
      rotate_left
      · simp only [Act.put, List.setIfInBounds_toArray, List.set_cons_zero, List.set_cons_succ, i64_w, i32_w]
        rfl
      refine last_ (i := 6) (N := none) (zm 8 127) rfl rfl (by kernel_rfl) (by decide) (fun K hK => ?_)
      refine store_step 39 (.tmp 4) (.tmp 114) rfl rfl (by rfl) gr 0 (by rfl) (.agg (planV (⟨5, 0, zeroT, [], 0, 0, [], 0, 0, [xa, xa]⟩ : S39) (.slice none 0 0) (.slice none 0 0) (.slice A4 2 c4)).toArray) (by rfl) (planV (⟨5, 0, zeroT, [], 0, 0, [], 0, 0, [xa, xa]⟩ : S39) (.slice none 0 0) (.slice none 0 0) (.slice A4 2 c4)) rfl (by kernel_rfl) planV_one zero39 _ hHeld.lp.hr (by simp [planV, zero39]) ?_
      intro wz hb hg
      have XZ := Aside0.mk (show wz.heap[gr]? = some (.cells (planV (⟨5, 0, zeroT, [], 0, 0, [], 0, 0, [xa, xa]⟩ : S39) (.slice none 0 0) (.slice none 0 0) (.slice A4 2 c4)).toArray 39 (0, 0)) from hb)
      have RZ := Aside0.mk (RdW.grown (RD.out.less (c' := c) (by omega)) hg (by intro e; injection e with e; have h1 := hHeld.lp.hg; have h2 := hHeld.lp.h1; omega) (fun k e => by injection e with e; rw [← e]; exact GB.out))
      have KZ := Aside0.mk (KeepBut.put hHeld.lp.kb hg hHeld.lp.h1)
      have OZ := Aside0.mk (show OwnP wz w.heap.size (⟨5, 0, zeroT, [], 0, 0, [], 0, 0, [xa, xa]⟩ : S39) (planV (⟨5, 0, zeroT, [], 0, 0, [], 0, 0, [xa, xa]⟩ : S39) (.slice none 0 0) (.slice none 0 0) (.slice A4 2 c4)) from OwnP.kids rfl rfl (R_iv RS.out hg (fun k h e => by have h1 := hHeld.lp.h2; omega)))
      refine hK.out _ _ ?_
      refine zpk 7 5 8 255 ?_
      refine done_ (by kernel_rfl) ?_
      clear hb hg hHeld hK K
      go_wp2
      exact bodyPost_ret (results_cell_tmp rfl _ _ gr _ _ _ _ rfl XZ.out Tryz.underlying39 rfl (by kernel_rfl)) rfl ⟨⟨_, _, _, rfl, OZ.out, (by rw [sz_two rfl]; have h1 := SZA.out; show _ ≤ 2 * sp d + 1; omega), small_kids (by simp) (by simp) (by simp) (by intro q hq; simp at hq; rw [hq]; exact SMA.out), by simp⟩, RZ.out, KZ.out⟩
    · exact bodyPost_ret (results_cell_tmp rfl _ _ gr _ _ _ _ rfl XZ.out Tryz.underlying39 rfl (by kernel_rfl)) rfl ⟨⟨_, _, _, rfl, OZ.out, (by rw [sz_two rfl]; have h1 := SZA.out; have h2 := SZB.out; show _ ≤ 2 * sp d + 1; omega), small_kids (by simp) (by simp) (by simp) (by intro q hq; simp at hq; rcases hq with hq | hq <;> rw [hq] <;> first | exact SMA.out | exact SMB.out), by simp⟩, RZ.out, KZ.out⟩
  · clear hv hv8
    go_wp2_with (first
      | ((with_reducible refine gate_dst (N := 123) rfl ?_); refine loadVar_ 39 (.tmp 6) rfl rfl b6 ?hx csa _ Tryz.underlying39 ?hi _ LPx.out.ha ?_; (case hx => first | rfl | (go_simp; done) | (go_simp; rfl)); (case hi => rw [LA.out]; kernel_rfl))
      | ((with_reducible refine gate_dst (N := 124) rfl ?_); refine Kd.R_lit k39 (w0 := wq) w.heap.size 39 ?hg (N := 124) ?hd (xs := [xa]) (inner := csa) (ok := fun k => lo ≤ k) (okp := Iv lo hi) ?hr (reps_one LA.out LPx.out.ma) (fun k h => h.1) (by have h1 := blk_lt LPx.out.ha; have h2 := LPx.out.h3; have h3 := LPx.out.h4; omega) (Below.refl _ _) LPx.out.kb.1 (by simp) ?_; (case hd => rfl); (case hg => rfl); (case hr => exact exec_lit1 37 39 (.tmp 123) rfl Tryz.underlying37 _ 19 200 info39 (by decide) (by decide) csa LA.out (by first | rfl | (go_simp; done) | (go_simp; rfl))); intro vL wq ho hB hg hnew; obtain ⟨A4, c4, rfl⟩ := Kd.R_slice ho; have RS := Aside0.mk ho; have LPx_ := Aside0.mk (LPx.out.row hg (fun k e => by cases e)); have RB12_ := Aside0.mk (RB12.out.grown hg (by intro e; cases e) (fun k e => by cases e)); clear LPx RB12; have LPx := LPx_; have RB12 := RB12_; clear LPx_ RB12_; clear ho hB hg hnew)
      | ((with_reducible refine gate_dst (N := 125) rfl ?_); refine build_ 39 _ rfl rfl #[(0, .int .i64 6), (9, .slice A4 1 c4)] ?hvs (.agg (planV (⟨6, 0, zeroT, [], 0, 0, [], 0, 0, [xa]⟩ : S39) (.slice none 0 0) (.slice none 0 0) (.slice A4 1 c4)).toArray) ?hrun ?_; (case hvs => first | rfl | (go_simp; done) | (go_simp; rfl)); (case hrun => intro W; kernel_rfl))
      | ((with_reducible refine gate_ (.store 39 (.tmp 4) (.tmp 125)) rfl ?_); refine storeAll_ 39 (.tmp 4) (.tmp 125) rfl rfl rfl gr ?hp (planV (⟨6, 0, zeroT, [], 0, 0, [], 0, 0, [xa]⟩ : S39) (.slice none 0 0) (.slice none 0 0) (.slice A4 1 c4)) ?hx2 ?ht ?h1 zero39 _ LPx.out.hr ?hf ?_; (case hp => first | rfl | (go_simp; done) | (go_simp; rfl)); (case hx2 => first | rfl | (go_simp; done) | (go_simp; rfl)); (case ht => kernel_rfl); (case h1 => exact planV_one); (case hf => rfl); intro wz hb hg; have XZ := Aside0.mk hb; have RZ := Aside0.mk (RdW.grown (RB12.out.less (c' := c) (by omega)) hg (by intro e; injection e with e; have := GE.out; have := HG.out; omega) (fun k e => by injection e with e; rw [← e]; exact GB.out)); have KZ := Aside0.mk (KeepBut.put LPx.out.kb hg GE.out); have OZ := Aside0.mk (show OwnP wz w.heap.size (⟨6, 0, zeroT, [], 0, 0, [], 0, 0, [xa]⟩ : S39) (planV (⟨6, 0, zeroT, [], 0, 0, [], 0, 0, [xa]⟩ : S39) (.slice none 0 0) (.slice none 0 0) (.slice A4 1 c4)) from OwnP.kids rfl rfl (R_iv RS.out hg (fun k h e => by have h1 := G2.out; omega))); clear hb hg RS))
    exact bodyPost_ret (results_cell_tmp rfl _ _ gr _ _ _ _ rfl XZ.out Tryz.underlying39 rfl (by kernel_rfl)) rfl ⟨⟨_, _, _, rfl, OZ.out, (by rw [sz_one rfl]; have h1 := SZA.out; show _ ≤ 2 * sp d + 1; omega), small_kids (by simp) (by simp) (by simp) (by intro q hq; simp at hq; rw [hq]; exact SMA.out), by simp⟩, RZ.out, KZ.out⟩
  · clear hv hv8
    go_wp2
    have RD := Aside0.mk (RB12.out.drew)
    refine start_ (n := 10) (S := fun W => LP w g gr b6 xa csa lo hi W) (ds := [9]) (zm 10 0) (by kernel_rfl) rfl rfl (LPx.out.drew) (fun hHeld => ?_)
    refine zpk 0 127 10 1 ?_
    refine zpk 2 129 10 5 ?_
    refine zpk 3 130 10 13 ?_
    refine take_ (i := 5) (N := some 132) (v := _) (a' := ?_) (zm 10 45) rfl rfl (by kernel_rfl) (fun _ _ _ h => h) (yieldsIf_load_mid (by rfl) 39 (.tmp 6) rfl b6 0 (by rfl) csa _ (fun W h => range_ h.ha) Tryz.underlying39 rfl (by rw [LA.out]; kernel_rfl)) hHeld ?_ ?_
    rotate_left
    · simp only [Act.put, List.setIfInBounds_toArray, List.set_cons_zero, List.set_cons_succ, i64_w, i32_w]
      rfl
    refine join_ (σ := Int × Int × (Option Addr × Nat) × Nat) 1 (zm 10 511) (fun s => [(128, .int .i64 s.1), (131, .int .i64 s.2.1), (133, .slice s.2.2.1.1 1 s.2.2.1.2), (14, .pointer (some ⟨s.2.2.2, 0, none⟩)), (134, .agg (planV (⟨7, 0, zeroT, [], 0, 0, [], s.1, s.2.1, [xa]⟩ : S39) (.slice none 0 0) (.slice none 0 0) (.slice s.2.2.1.1 1 s.2.2.1.2)).toArray)]) (fun s W => LP w g gr b6 xa csa lo hi W ∧ RdW w0 g b (c + pk d + 10) W ∧ Kd.R k39 39 W w.heap.size (fun k => lo ≤ k ∧ k ≠ s.2.2.2) (.slice s.2.2.1.1 1 s.2.2.1.2) [xa] ∧ W.heap[s.2.2.2]? = some (.cells zero39.toArray 39 (0, 0)) ∧ b6 < s.2.2.2) (fun s W hF => ?_) (fun HJ => ?_)
    · obtain ⟨p1, p2, ⟨A4, c4⟩, al⟩ := s
      obtain ⟨hHeld, hRD, hRS, hAL, hAG⟩ := hF
      replace hAG : b6 < al := hAG
      refine norm_ (a' := ?_) ?_ ?_
      rotate_left
      · simp only [putAll, Act.put, List.setIfInBounds_toArray, List.set_cons_zero, List.set_cons_succ]
        rfl
      refine last_ (i := 9) (N := none) (zm 10 1023) rfl rfl (by kernel_rfl) (by decide) (fun K hK => ?_)
      refine store_step 39 (.tmp 14) (.tmp 134) rfl rfl (by rfl) al 0 (by rfl) (.agg (planV (⟨7, 0, zeroT, [], 0, 0, [], p1, p2, [xa]⟩ : S39) (.slice none 0 0) (.slice none 0 0) (.slice A4 1 c4)).toArray) (by rfl) (planV (⟨7, 0, zeroT, [], 0, 0, [], p1, p2, [xa]⟩ : S39) (.slice none 0 0) (.slice none 0 0) (.slice A4 1 c4)) rfl (by kernel_rfl) planV_one zero39 _ hAL (by simp [planV, zero39]) ?_
      intro wy hb hg
      have G8 := Aside0.mk hAG
      have GL := Aside0.mk (show g < lo by have h0 := HG.out; have h1 := GE.out; have h2 := G2.out; omega)
      have LB_ := Aside0.mk (show lo ≤ al by have h3 := hHeld.h3; have h4 := hHeld.h4; omega)
      have BG := Aside0.mk (show al ≠ g by have h0 := GL.out; have h1 := LB_.out; omega)
      have LPy := Aside0.mk (hHeld.row hg (fun k e => by injection e with e; omega))
      have RB10 := Aside0.mk (hRD.grown hg (by intro e; injection e with e; exact BG.out e.symm) (fun k e => by injection e with e; have h2 := LB_.out; have h3 := G2.out; have h4 := GB.out; omega))
      have PXx := Aside0.mk (show PX w.heap.size lo al (⟨7, 0, zeroT, [], 0, 0, [], p1, p2, [xa]⟩ : S39) (.slice none 0 0) (.slice none 0 0) (.slice A4 1 c4) wy from ⟨hb, Kd.R_nil _ _ _ _ _, Kd.R_nil _ _ _ _ _, Kd.R_mono (R_iv hRS hg (fun k h => h.2)) (fun k h => ⟨⟨h, by simp [Value.ownBlock]⟩, by simp [Value.ownBlock]⟩)⟩)
      refine hK.out _ _ ?_
      refine done_ (by kernel_rfl) ?_
      clear hK K hb hg hHeld hRD hRS hAL hAG LPx RB12
      go_wp2_with (go_at_call 33; refine (pick_c RB10.out _).mono ?_; rintro e wq ⟨⟨v4, rfl, hv4⟩, hRD, hk⟩; have RB9 := Aside0.mk hRD; have LPx := Aside0.mk (LPy.out.keep hk); clear RB10 LPy hRD hv4; have PXx_ := Aside0.mk (PXx.out.keep hk GL.out BG.out); clear PXx; have PXx := PXx_; clear PXx_; clear hk)
      · have RD := Aside0.mk (RB9.out.drew)
        refine start_ (n := 9) (S := fun W => LP w g gr b6 xa csa lo hi W ∧ PX w.heap.size lo al (⟨7, 0, zeroT, [], 0, 0, [], p1, p2, [xa]⟩ : S39) (.slice none 0 0) (.slice none 0 0) (.slice A4 1 c4) W ∧ W.cell? ⟨al, 15, none⟩ = some (.slice none 0 0)) (ds := [6, 8]) (zm 9 0) (by kernel_rfl) rfl rfl (⟨LPx.out.drew, PXx.out.drew, PXx.out.drew.c15⟩) (fun hHeld => ?_)
        refine zpk 0 138 9 1 ?_
        refine ztk 1 139 9 3 ?_
        refine zpk 2 140 9 7 ?_
        refine zpk 3 141 9 15 ?_
        refine one_ (i := 4) (N := some 142) (zm 9 31) rfl rfl (by kernel_rfl) (by decide) (fun K hK => ?_)
        refine goes_ Tryz.func33 (by kernel_rfl) rfl #[.pointer (some ⟨g, 0, none⟩), .int .i64 wa] (by rfl) rfl rfl (by simp only [List.map_toArray, List.map_cons, List.map_nil]; rfl) ?_
        refine (pick_c RD.out _).mono ?_
        rintro e we ⟨⟨kv, rfl, _⟩, hRD, hk⟩
        refine ⟨_, rfl, ?_⟩
        have RD := Aside0.mk hRD
        refine hK.out _ _ (⟨hHeld.1.keep hk, hHeld.2.1.keep hk GL.out BG.out, (hHeld.2.1.keep hk GL.out BG.out).c15⟩) (fun hHeld => ?_)
        clear hK K
        refine znk (N := some 142) ?_
        refine one_ (i := 5) (N := some 143) (zm 9 63) rfl rfl (by kernel_rfl) (by decide) (fun K hK => ?_)
        refine event_step (v := .slice (some ⟨we.heap.size, 0, none⟩) 1 1) (w1 := we.alloc (.cells [.int .i64 kv].toArray 3)) (by rfl) (show _ = Result.ok _ (we.alloc (.cells [.int .i64 kv].toArray 3)) from by first | (go_simp; done) | (go_simp; rfl)) ?_
        have hBa : Below we.heap.size we (we.alloc (.cells [.int .i64 kv].toArray 3)) := below_alloc (Below.refl _ _) _
        have S0 := hHeld
        refine hK.out _ _ (⟨hHeld.1.below hBa, hHeld.2.1.below hBa, (hHeld.2.1.below hBa).c15⟩) (fun hHeld => ?_)
        clear hK K
        refine znk (N := some 143) ?_
        refine last_ (i := 6) (N := some 144) (zm 9 127) rfl rfl (by kernel_rfl) (by decide) (fun K hK => ?_)
        refine Kd.R_append_step (Kd.int .i64) (w0 := we) w.heap.size (by rfl) (.tmp 139) (.tmp 143) 27 3 _ _ rfl Tryz.underlying27 info3 rfl (by decide) (by decide) (.slice none 0 0) ([] : List Int) kv [.int .i64 kv] (fun k => lo ≤ k ∧ k ≠ al) (fun _ => False) (by rfl) (by rfl) rfl (fun _ h => h.elim) (fun k hk => ⟨by have h1 := blk_lt S0.2.1.hp; have h2 := LB_.out; omega, by have h1 := blk_lt S0.2.1.hp; omega⟩) S0.2.1.r15 (Below.refl _ _) (Nat.le_trans (by have h0 := GE.out; have h1 := G2.out; have h2 := LB_.out; omega) (Nat.le_of_lt (blk_lt S0.2.1.hp))) (by decide) ?_
        intro v1 wf ho hBf hgf hat
        obtain ⟨A8, c8, rfl⟩ := Kd.R_slice ho
        refine hK.out _ _ ?_
        clear hK K
        refine znk (N := some 144) ?_
        refine zpk 7 145 9 255 ?_
        refine last_ (i := 8) (N := none) (zm 9 511) rfl rfl (by kernel_rfl) (by decide) (fun K hK => ?_)
        refine store_step 27 (.tmp 145) (.tmp 144) rfl rfl (by rfl) al 15 (by rfl) (.slice A8 (([] : List Int) ++ [kv]).length c8) (by rfl) [.slice A8 (([] : List Int) ++ [kv]).length c8] rfl (by kernel_rfl) (by simp [Value.oneCell']) (planV (⟨7, 0, zeroT, [], 0, 0, [], p1, p2, [xa]⟩ : S39) (.slice none 0 0) (.slice none 0 0) (.slice A4 1 c4)) _ (S0.2.1.blk15 hgf) (by simp [planV]) ?_
        intro wh hb hg
        have LPn := Aside0.mk ((S0.1.row hgf (fun k e => by simp [Value.ownBlock] at e)).row hg (fun k e => by injection e with e; have h2 := G8.out; omega))
        have PXn := Aside0.mk (show PX w.heap.size lo al (⟨7, 0, zeroT, [], 0, 0, (([] : List Int) ++ [kv]), p1, p2, [xa]⟩ : S39) (.slice none 0 0) (.slice A8 (([] : List Int) ++ [kv]).length c8) (.slice A4 1 c4) wh from PX.set15 S0.2.1 ho hgf hat hg hb)
        have RDn := Aside0.mk (RdW.grown (RdW.grown RD.out hgf (by intro e; simp [Value.ownBlock] at e) (fun k e => by simp [Value.ownBlock] at e)) hg (by intro e; injection e with e; exact BG.out e.symm) (fun k e => by injection e with e; have h2 := LB_.out; have h3 := G2.out; have h4 := GB.out; omega))
        refine hK.out _ _ ?_
        refine done_ (by kernel_rfl) ?_
        clear hHeld hK K hb hg hat hgf hBf ho S0 hBa LPx PXx RD RB9
        go_wp2
        have RD := Aside0.mk (RDn.out.drew)
        refine start_ (n := 7) (S := fun W => W.heap[al]? = some (.cells (planV (⟨7, 0, zeroT, [], 0, 0, (([] : List Int) ++ [kv]), p1, p2, [xa]⟩ : S39) (.slice none 0 0) (.slice A8 (([] : List Int) ++ [kv]).length c8) (.slice A4 1 c4)).toArray 39 (0, 0)) ∧ W.cell? ⟨al, 15, none⟩ = some (.slice A8 (([] : List Int) ++ [kv]).length c8)) (ds := []) (zm 7 0) (by kernel_rfl) rfl rfl (⟨PXn.out.drew.hp, PXn.out.drew.c15⟩) (fun hHeld => ?_)
        refine take_ (i := 0) (N := some 146) (v := _) (a' := ?_) (zm 7 1) rfl rfl (by kernel_rfl) (fun _ _ _ h => h) (yieldsIf_load_mid (by rfl) 39 (.tmp 14) rfl al 0 (by rfl) (planV (⟨7, 0, zeroT, [], 0, 0, (([] : List Int) ++ [kv]), p1, p2, [xa]⟩ : S39) (.slice none 0 0) (.slice A8 (([] : List Int) ++ [kv]).length c8) (.slice A4 1 c4)) _ (fun W h => range_ h.1) Tryz.underlying39 rfl (by kernel_rfl)) hHeld ?_ ?_
        rotate_left
        · simp only [Act.put, List.setIfInBounds_toArray, List.set_cons_zero, List.set_cons_succ, i64_w, i32_w]
          rfl
        refine zpk 1 147 7 3 ?_
        refine ztk 2 148 7 7 ?_
        refine zpk 3 149 7 15 ?_
        refine zpk 4 150 7 31 ?_
        refine one_ (i := 5) (N := none) (zm 7 63) rfl rfl (by kernel_rfl) (by decide) (fun K hK => ?_)
        refine store_step 39 (.tmp 4) (.tmp 146) rfl rfl (by rfl) gr 0 (by rfl) (.agg (planV (⟨7, 0, zeroT, [], 0, 0, (([] : List Int) ++ [kv]), p1, p2, [xa]⟩ : S39) (.slice none 0 0) (.slice A8 (([] : List Int) ++ [kv]).length c8) (.slice A4 1 c4)).toArray) (by rfl) (planV (⟨7, 0, zeroT, [], 0, 0, (([] : List Int) ++ [kv]), p1, p2, [xa]⟩ : S39) (.slice none 0 0) (.slice A8 (([] : List Int) ++ [kv]).length c8) (.slice A4 1 c4)) rfl (by kernel_rfl) planV_one zero39 _ LPn.out.drew.hr (by simp [planV, zero39]) ?_
        intro wz hb hg
        have XZ := Aside0.mk (show wz.heap[gr]? = some (.cells (planV (⟨7, 0, zeroT, [], 0, 0, (([] : List Int) ++ [kv]), p1, p2, [xa]⟩ : S39) (.slice none 0 0) (.slice A8 (([] : List Int) ++ [kv]).length c8) (.slice A4 1 c4)).toArray 39 (0, 0)) from hb)
        have RZ := Aside0.mk (RdW.grown (RD.out.less (c' := c) (by omega)) hg (by intro e; injection e with e; have h1 := HG.out; have h2 := GE.out; omega) (fun k e => by injection e with e; rw [← e]; exact GB.out))
        have KZ := Aside0.mk (KeepBut.put LPn.out.drew.kb hg GE.out)
        have PZ := PXn.out.drew.grown hg G2.out (by have h1 := LB_.out; have h2 := G2.out; omega)
        have OZ := Aside0.mk PZ.own
        refine hK.out _ _ ⟨PZ.hp, PZ.c15⟩ (fun hHeld => ?_)
        clear hK K
        refine zpk 6 5 7 127 ?_
        refine done_ (by kernel_rfl) ?_
        clear hb hg hHeld PZ
        go_wp2
        exact bodyPost_ret (results_cell_tmp rfl _ _ gr _ _ _ _ rfl XZ.out Tryz.underlying39 rfl (by kernel_rfl)) rfl ⟨⟨_, _, _, rfl, OZ.out, (by rw [sz_one rfl]; have h1 := SZA.out; show _ ≤ 2 * sp d + 1; omega), small_kids (by simp) (by simp) (by simp) (by intro q hq; simp at hq; rw [hq]; exact SMA.out), by simp⟩, RZ.out, KZ.out⟩
      · have RD := Aside0.mk (RB9.out.drew)
        refine start_ (n := 7) (S := fun W => W.heap[al]? = some (.cells (planV (⟨7, 0, zeroT, [], 0, 0, [], p1, p2, [xa]⟩ : S39) (.slice none 0 0) (.slice none 0 0) (.slice A4 1 c4)).toArray 39 (0, 0)) ∧ W.cell? ⟨al, 15, none⟩ = some (.slice none 0 0)) (ds := []) (zm 7 0) (by kernel_rfl) rfl rfl (⟨PXx.out.drew.hp, PXx.out.drew.c15⟩) (fun hHeld => ?_)
        refine take_ (i := 0) (N := some 146) (v := _) (a' := ?_) (zm 7 1) rfl rfl (by kernel_rfl) (fun _ _ _ h => h) (yieldsIf_load_mid (by rfl) 39 (.tmp 14) rfl al 0 (by rfl) (planV (⟨7, 0, zeroT, [], 0, 0, [], p1, p2, [xa]⟩ : S39) (.slice none 0 0) (.slice none 0 0) (.slice A4 1 c4)) _ (fun W h => range_ h.1) Tryz.underlying39 rfl (by kernel_rfl)) hHeld ?_ ?_
        rotate_left
        · simp only [Act.put, List.setIfInBounds_toArray, List.set_cons_zero, List.set_cons_succ, i64_w, i32_w]
          rfl
        refine zpk 1 147 7 3 ?_
        refine ztk 2 148 7 7 ?_
        refine zpk 3 149 7 15 ?_
        refine zpk 4 150 7 31 ?_
        refine one_ (i := 5) (N := none) (zm 7 63) rfl rfl (by kernel_rfl) (by decide) (fun K hK => ?_)
        refine store_step 39 (.tmp 4) (.tmp 146) rfl rfl (by rfl) gr 0 (by rfl) (.agg (planV (⟨7, 0, zeroT, [], 0, 0, [], p1, p2, [xa]⟩ : S39) (.slice none 0 0) (.slice none 0 0) (.slice A4 1 c4)).toArray) (by rfl) (planV (⟨7, 0, zeroT, [], 0, 0, [], p1, p2, [xa]⟩ : S39) (.slice none 0 0) (.slice none 0 0) (.slice A4 1 c4)) rfl (by kernel_rfl) planV_one zero39 _ LPx.out.drew.hr (by simp [planV, zero39]) ?_
        intro wz hb hg
        have XZ := Aside0.mk (show wz.heap[gr]? = some (.cells (planV (⟨7, 0, zeroT, [], 0, 0, [], p1, p2, [xa]⟩ : S39) (.slice none 0 0) (.slice none 0 0) (.slice A4 1 c4)).toArray 39 (0, 0)) from hb)
        have RZ := Aside0.mk (RdW.grown (RD.out.less (c' := c) (by omega)) hg (by intro e; injection e with e; have h1 := HG.out; have h2 := GE.out; omega) (fun k e => by injection e with e; rw [← e]; exact GB.out))
        have KZ := Aside0.mk (KeepBut.put LPx.out.drew.kb hg GE.out)
        have PZ := PXx.out.drew.grown hg G2.out (by have h1 := LB_.out; have h2 := G2.out; omega)
        have OZ := Aside0.mk PZ.own
        refine hK.out _ _ ⟨PZ.hp, PZ.c15⟩ (fun hHeld => ?_)
        clear hK K
        refine zpk 6 5 7 127 ?_
        refine done_ (by kernel_rfl) ?_
        clear hb hg hHeld PZ
        go_wp2
        exact bodyPost_ret (results_cell_tmp rfl _ _ gr _ _ _ _ rfl XZ.out Tryz.underlying39 rfl (by kernel_rfl)) rfl ⟨⟨_, _, _, rfl, OZ.out, (by rw [sz_one rfl]; have h1 := SZA.out; show _ ≤ 2 * sp d + 1; omega), small_kids (by simp) (by simp) (by simp) (by intro q hq; simp at hq; rw [hq]; exact SMA.out), by simp⟩, RZ.out, KZ.out⟩
    refine three_ (i := 1) (j := 6) (k := 8) (Ni := some 128) (Nj := some 133) (Nk := some 14) (zm 10 47) (zm 10 109) (zm 10 301) rfl rfl rfl rfl rfl rfl (by kernel_rfl) (by decide) (by decide) (by decide) (fun K hK => ?_) (fun K hK => ?_) (fun K hK => ?_)
    · refine goes_ Tryz.func33 (by kernel_rfl) rfl #[.pointer (some ⟨g, 0, none⟩), .int .i64 4] (by rfl) rfl rfl (by simp only [List.map_toArray, List.map_cons, List.map_nil]; rfl) ?_
      refine (pick_c RD.out _).mono ?_
      rintro e we ⟨⟨p1, rfl, _⟩, hRD, hk⟩
      refine ⟨_, rfl, ?_⟩
      have RD := Aside0.mk hRD
      refine hK.out _ _ (hHeld.keep hk) (fun hHeld => ?_)
      clear hK K
      refine znk (N := some 128) ?_
      refine three_ (i := 4) (j := 6) (k := 8) (Ni := some 131) (Nj := some 133) (Nk := some 14) (zm 10 63) (zm 10 111) (zm 10 303) rfl rfl rfl rfl rfl rfl (by kernel_rfl) (by decide) (by decide) (by decide) (fun K hK => ?_) (fun K hK => ?_) (fun K hK => ?_)
      · refine goes_ Tryz.func33 (by kernel_rfl) rfl #[.pointer (some ⟨g, 0, none⟩), .int .i64 wa] (by rfl) rfl rfl (by simp only [List.map_toArray, List.map_cons, List.map_nil]; rfl) ?_
        refine (pick_c RD.out _).mono ?_
        rintro e we ⟨⟨p2, rfl, _⟩, hRD, hk⟩
        refine ⟨_, rfl, ?_⟩
        have RD := Aside0.mk hRD
        refine hK.out _ _ (hHeld.keep hk) (fun hHeld => ?_)
        clear hK K
        refine znk (N := some 131) ?_
        refine two_ (i := 6) (j := 8) (Ni := some 133) (Nj := some 14) (zm 10 127) (zm 10 319) rfl rfl rfl rfl (by kernel_rfl) (by decide) (by decide) (fun K hK => ?_) (fun K hK => ?_)
        · refine Kd.R_lit_step k39 (w0 := _) w.heap.size 39 (by rfl) (N := 133) rfl (xs := [xa]) (inner := csa) (ok := fun k => lo ≤ k) (okp := Iv lo hi) (exec_lit1 37 39 (.tmp 132) rfl Tryz.underlying37 _ 19 200 info39 (by decide) (by decide) csa LA.out (by rfl)) (reps_one LA.out hHeld.ma) (fun k h => h.1) (by have h1 := blk_lt hHeld.ha; have h2 := hHeld.h3; have h3 := hHeld.h4; omega) (Below.refl _ _) hHeld.kb.1 (by simp) ?_
          intro vL we ho hB hg hnew
          obtain ⟨A4, c4, rfl⟩ := Kd.R_slice ho
          have RS := Aside0.mk ho
          have RD := Aside0.mk (RD.out.grown hg (by intro e; cases e) (fun k e => by cases e))
          refine hK.out _ _ (hHeld.row hg (fun k e => by cases e)) (fun hHeld => ?_)
          clear hK K
          refine znk (N := some 133) ?_
          refine pure_ (i := 7) (N := some 134) (v := .agg (planV (⟨7, 0, zeroT, [], 0, 0, [], p1, p2, [xa]⟩ : S39) (.slice none 0 0) (.slice none 0 0) (.slice A4 1 c4)).toArray) (a' := ?_) (zm 10 255) rfl rfl (by kernel_rfl) (fun _ _ _ h => h) (.inl ⟨by rfl, exec_build 39 _ rfl #[(0, .int .i64 7), (7, .int .i64 p1), (8, .int .i64 p2), (9, .slice A4 1 c4)] (by first | kernel_rfl | (go_simp; done) | (go_simp; rfl)) _ (fun W => by kernel_rfl)⟩) ?_ ?_
          rotate_left
          · simp only [Act.put, List.setIfInBounds_toArray, List.set_cons_zero, List.set_cons_succ, i64_w, i32_w]
            rfl
          refine one_ (i := 8) (N := some 14) (zm 10 511) rfl rfl (by kernel_rfl) (by decide) (fun K hK => ?_)
          refine alloc_step 39 rfl (by rfl) zero39 _ _ info39 ?_
          intro al hg we hb hB hgn
          have AL := Aside0.mk hb
          have AG := Aside0.mk (show b6 < al by rw [hg]; exact blk_lt hHeld.ha)
          have RS := Aside0.mk (show Kd.R k39 39 we w.heap.size (fun k => lo ≤ k ∧ k ≠ al) (.slice A4 1 c4) [xa] from Kd.R_below (Kd.R_mono (Kd.R_bound RS.out) (fun k hk => ⟨hk.1, by have := hk.2.2.1; omega⟩)) hB)
          have RD := Aside0.mk (RD.out.below hB)
          refine hK.out _ _ (hHeld.below hB) (fun hHeld => ?_)
          clear hK K
          refine znk (N := some 14) ?_
          exact norm_ (by first | (simp only [putAll, Act.put, List.setIfInBounds_toArray, List.set_cons_zero, List.set_cons_succ]; done) | (simp only [putAll, Act.put, List.setIfInBounds_toArray, List.set_cons_zero, List.set_cons_succ]; rfl)) (HJ ⟨p1, p2, ⟨A4, c4⟩, al⟩ _ ⟨hHeld, RD.out.less (by omega), RS.out, AL.out, AG.out⟩)
        · refine alloc_step 39 rfl (by rfl) zero39 _ _ info39 ?_
          intro al hg we hb hB hgn
          have AL := Aside0.mk hb
          have AG := Aside0.mk (show b6 < al by rw [hg]; exact blk_lt hHeld.ha)
          have RD := Aside0.mk (RD.out.below hB)
          refine hK.out _ _ (hHeld.below hB) (fun hHeld => ?_)
          clear hK K
          refine znk (N := some 14) ?_
          refine one_ (i := 6) (N := some 133) (zm 10 383) rfl rfl (by kernel_rfl) (by decide) (fun K hK => ?_)
          refine Kd.R_lit_step k39 (w0 := _) w.heap.size 39 (by rfl) (N := 133) rfl (xs := [xa]) (inner := csa) (ok := fun k => lo ≤ k ∧ k ≠ al) (okp := Iv lo hi) (exec_lit1 37 39 (.tmp 132) rfl Tryz.underlying37 _ 19 200 info39 (by decide) (by decide) csa LA.out (by rfl)) (reps_one LA.out hHeld.ma) (fun k h => ⟨h.1, by have h1 := h.2; have h2 := hHeld.h3; have h3 := AG.out; omega⟩) ⟨by have h1 := blk_lt hHeld.ha; have h2 := hHeld.h3; have h3 := hHeld.h4; omega, Nat.ne_of_gt (blk_lt AL.out)⟩ (Below.refl _ _) hHeld.kb.1 (by simp) ?_
          intro vL we ho hB hg hnew
          obtain ⟨A4, c4, rfl⟩ := Kd.R_slice ho
          have RS := Aside0.mk ho
          have RD := Aside0.mk (RD.out.grown hg (by intro e; cases e) (fun k e => by cases e))
          have AL := Aside0.mk ((hg.block _ (blk_lt AL.out) (by intro e; cases e)).trans AL.out)
          refine hK.out _ _ (hHeld.row hg (fun k e => by cases e)) (fun hHeld => ?_)
          clear hK K
          refine znk (N := some 133) ?_
          refine pure_ (i := 7) (N := some 134) (v := .agg (planV (⟨7, 0, zeroT, [], 0, 0, [], p1, p2, [xa]⟩ : S39) (.slice none 0 0) (.slice none 0 0) (.slice A4 1 c4)).toArray) (a' := ?_) (zm 10 511) rfl rfl (by kernel_rfl) (fun _ _ _ h => h) (.inl ⟨by rfl, exec_build 39 _ rfl #[(0, .int .i64 7), (7, .int .i64 p1), (8, .int .i64 p2), (9, .slice A4 1 c4)] (by first | kernel_rfl | (go_simp; done) | (go_simp; rfl)) _ (fun W => by kernel_rfl)⟩) ?_ ?_
          rotate_left
          · simp only [Act.put, List.setIfInBounds_toArray, List.set_cons_zero, List.set_cons_succ, i64_w, i32_w]
            rfl
          exact norm_ (by first | (simp only [putAll, Act.put, List.setIfInBounds_toArray, List.set_cons_zero, List.set_cons_succ]; done) | (simp only [putAll, Act.put, List.setIfInBounds_toArray, List.set_cons_zero, List.set_cons_succ]; rfl)) (HJ ⟨p1, p2, ⟨A4, c4⟩, al⟩ _ ⟨hHeld, RD.out.less (by omega), RS.out, AL.out, AG.out⟩)
      · refine Kd.R_lit_step k39 (w0 := _) w.heap.size 39 (by rfl) (N := 133) rfl (xs := [xa]) (inner := csa) (ok := fun k => lo ≤ k) (okp := Iv lo hi) (exec_lit1 37 39 (.tmp 132) rfl Tryz.underlying37 _ 19 200 info39 (by decide) (by decide) csa LA.out (by rfl)) (reps_one LA.out hHeld.ma) (fun k h => h.1) (by have h1 := blk_lt hHeld.ha; have h2 := hHeld.h3; have h3 := hHeld.h4; omega) (Below.refl _ _) hHeld.kb.1 (by simp) ?_
        intro vL we ho hB hg hnew
        obtain ⟨A4, c4, rfl⟩ := Kd.R_slice ho
        have RS := Aside0.mk ho
        have RD := Aside0.mk (RD.out.grown hg (by intro e; cases e) (fun k e => by cases e))
        refine hK.out _ _ (hHeld.row hg (fun k e => by cases e)) (fun hHeld => ?_)
        clear hK K
        refine znk (N := some 133) ?_
        refine two_ (i := 4) (j := 8) (Ni := some 131) (Nj := some 14) (zm 10 127) (zm 10 367) rfl rfl rfl rfl (by kernel_rfl) (by decide) (by decide) (fun K hK => ?_) (fun K hK => ?_)
        · refine goes_ Tryz.func33 (by kernel_rfl) rfl #[.pointer (some ⟨g, 0, none⟩), .int .i64 wa] (by rfl) rfl rfl (by simp only [List.map_toArray, List.map_cons, List.map_nil]; rfl) ?_
          refine (pick_c RD.out _).mono ?_
          rintro e we ⟨⟨p2, rfl, _⟩, hRD, hk⟩
          refine ⟨_, rfl, ?_⟩
          have RD := Aside0.mk hRD
          have RS := Aside0.mk (Kd.R_keep RS.out hk (fun k h => by have h1 := hHeld.hg; have h2 := hHeld.h1; have h3 := hHeld.h2; have h4 : lo ≤ k := h; omega))
          refine hK.out _ _ (hHeld.keep hk) (fun hHeld => ?_)
          clear hK K
          refine znk (N := some 131) ?_
          refine pure_ (i := 7) (N := some 134) (v := .agg (planV (⟨7, 0, zeroT, [], 0, 0, [], p1, p2, [xa]⟩ : S39) (.slice none 0 0) (.slice none 0 0) (.slice A4 1 c4)).toArray) (a' := ?_) (zm 10 255) rfl rfl (by kernel_rfl) (fun _ _ _ h => h) (.inl ⟨by rfl, exec_build 39 _ rfl #[(0, .int .i64 7), (7, .int .i64 p1), (8, .int .i64 p2), (9, .slice A4 1 c4)] (by first | kernel_rfl | (go_simp; done) | (go_simp; rfl)) _ (fun W => by kernel_rfl)⟩) ?_ ?_
          rotate_left
          · simp only [Act.put, List.setIfInBounds_toArray, List.set_cons_zero, List.set_cons_succ, i64_w, i32_w]
            rfl
          refine one_ (i := 8) (N := some 14) (zm 10 511) rfl rfl (by kernel_rfl) (by decide) (fun K hK => ?_)
          refine alloc_step 39 rfl (by rfl) zero39 _ _ info39 ?_
          intro al hg we hb hB hgn
          have AL := Aside0.mk hb
          have AG := Aside0.mk (show b6 < al by rw [hg]; exact blk_lt hHeld.ha)
          have RS := Aside0.mk (show Kd.R k39 39 we w.heap.size (fun k => lo ≤ k ∧ k ≠ al) (.slice A4 1 c4) [xa] from Kd.R_below (Kd.R_mono (Kd.R_bound RS.out) (fun k hk => ⟨hk.1, by have := hk.2.2.1; omega⟩)) hB)
          have RD := Aside0.mk (RD.out.below hB)
          refine hK.out _ _ (hHeld.below hB) (fun hHeld => ?_)
          clear hK K
          refine znk (N := some 14) ?_
          exact norm_ (by first | (simp only [putAll, Act.put, List.setIfInBounds_toArray, List.set_cons_zero, List.set_cons_succ]; done) | (simp only [putAll, Act.put, List.setIfInBounds_toArray, List.set_cons_zero, List.set_cons_succ]; rfl)) (HJ ⟨p1, p2, ⟨A4, c4⟩, al⟩ _ ⟨hHeld, RD.out.less (by omega), RS.out, AL.out, AG.out⟩)
        · refine alloc_step 39 rfl (by rfl) zero39 _ _ info39 ?_
          intro al hg we hb hB hgn
          have AL := Aside0.mk hb
          have AG := Aside0.mk (show b6 < al by rw [hg]; exact blk_lt hHeld.ha)
          have RS := Aside0.mk (show Kd.R k39 39 we w.heap.size (fun k => lo ≤ k ∧ k ≠ al) (.slice A4 1 c4) [xa] from Kd.R_below (Kd.R_mono (Kd.R_bound RS.out) (fun k hk => ⟨hk.1, by have := hk.2.2.1; omega⟩)) hB)
          have RD := Aside0.mk (RD.out.below hB)
          refine hK.out _ _ (hHeld.below hB) (fun hHeld => ?_)
          clear hK K
          refine znk (N := some 14) ?_
          refine one_ (i := 4) (N := some 131) (zm 10 383) rfl rfl (by kernel_rfl) (by decide) (fun K hK => ?_)
          refine goes_ Tryz.func33 (by kernel_rfl) rfl #[.pointer (some ⟨g, 0, none⟩), .int .i64 wa] (by rfl) rfl rfl (by simp only [List.map_toArray, List.map_cons, List.map_nil]; rfl) ?_
          refine (pick_c RD.out _).mono ?_
          rintro e we ⟨⟨p2, rfl, _⟩, hRD, hk⟩
          refine ⟨_, rfl, ?_⟩
          have RD := Aside0.mk hRD
          have RS := Aside0.mk (Kd.R_keep RS.out hk (fun k h => by have h1 := hHeld.hg; have h2 := hHeld.h1; have h3 := hHeld.h2; have h4 : lo ≤ k := h.1; omega))
          have AL := Aside0.mk (KeepBut.blk hk AL.out (by have h1 := hHeld.hg; have h2 := hHeld.h1; have h3 := hHeld.h2; have h4 := hHeld.h3; have h5 := hHeld.h4; have h6 := AG.out; omega))
          refine hK.out _ _ (hHeld.keep hk) (fun hHeld => ?_)
          clear hK K
          refine znk (N := some 131) ?_
          refine pure_ (i := 7) (N := some 134) (v := .agg (planV (⟨7, 0, zeroT, [], 0, 0, [], p1, p2, [xa]⟩ : S39) (.slice none 0 0) (.slice none 0 0) (.slice A4 1 c4)).toArray) (a' := ?_) (zm 10 511) rfl rfl (by kernel_rfl) (fun _ _ _ h => h) (.inl ⟨by rfl, exec_build 39 _ rfl #[(0, .int .i64 7), (7, .int .i64 p1), (8, .int .i64 p2), (9, .slice A4 1 c4)] (by first | kernel_rfl | (go_simp; done) | (go_simp; rfl)) _ (fun W => by kernel_rfl)⟩) ?_ ?_
          rotate_left
          · simp only [Act.put, List.setIfInBounds_toArray, List.set_cons_zero, List.set_cons_succ, i64_w, i32_w]
            rfl
          exact norm_ (by first | (simp only [putAll, Act.put, List.setIfInBounds_toArray, List.set_cons_zero, List.set_cons_succ]; done) | (simp only [putAll, Act.put, List.setIfInBounds_toArray, List.set_cons_zero, List.set_cons_succ]; rfl)) (HJ ⟨p1, p2, ⟨A4, c4⟩, al⟩ _ ⟨hHeld, RD.out.less (by omega), RS.out, AL.out, AG.out⟩)
      · refine alloc_step 39 rfl (by rfl) zero39 _ _ info39 ?_
        intro al hg we hb hB hgn
        have AL := Aside0.mk hb
        have AG := Aside0.mk (show b6 < al by rw [hg]; exact blk_lt hHeld.ha)
        have RD := Aside0.mk (RD.out.below hB)
        refine hK.out _ _ (hHeld.below hB) (fun hHeld => ?_)
        clear hK K
        refine znk (N := some 14) ?_
        refine two_ (i := 4) (j := 6) (Ni := some 131) (Nj := some 133) (zm 10 319) (zm 10 367) rfl rfl rfl rfl (by kernel_rfl) (by decide) (by decide) (fun K hK => ?_) (fun K hK => ?_)
        · refine goes_ Tryz.func33 (by kernel_rfl) rfl #[.pointer (some ⟨g, 0, none⟩), .int .i64 wa] (by rfl) rfl rfl (by simp only [List.map_toArray, List.map_cons, List.map_nil]; rfl) ?_
          refine (pick_c RD.out _).mono ?_
          rintro e we ⟨⟨p2, rfl, _⟩, hRD, hk⟩
          refine ⟨_, rfl, ?_⟩
          have RD := Aside0.mk hRD
          have AL := Aside0.mk (KeepBut.blk hk AL.out (by have h1 := hHeld.hg; have h2 := hHeld.h1; have h3 := hHeld.h2; have h4 := hHeld.h3; have h5 := hHeld.h4; have h6 := AG.out; omega))
          refine hK.out _ _ (hHeld.keep hk) (fun hHeld => ?_)
          clear hK K
          refine znk (N := some 131) ?_
          refine one_ (i := 6) (N := some 133) (zm 10 383) rfl rfl (by kernel_rfl) (by decide) (fun K hK => ?_)
          refine Kd.R_lit_step k39 (w0 := _) w.heap.size 39 (by rfl) (N := 133) rfl (xs := [xa]) (inner := csa) (ok := fun k => lo ≤ k ∧ k ≠ al) (okp := Iv lo hi) (exec_lit1 37 39 (.tmp 132) rfl Tryz.underlying37 _ 19 200 info39 (by decide) (by decide) csa LA.out (by rfl)) (reps_one LA.out hHeld.ma) (fun k h => ⟨h.1, by have h1 := h.2; have h2 := hHeld.h3; have h3 := AG.out; omega⟩) ⟨by have h1 := blk_lt hHeld.ha; have h2 := hHeld.h3; have h3 := hHeld.h4; omega, Nat.ne_of_gt (blk_lt AL.out)⟩ (Below.refl _ _) hHeld.kb.1 (by simp) ?_
          intro vL we ho hB hg hnew
          obtain ⟨A4, c4, rfl⟩ := Kd.R_slice ho
          have RS := Aside0.mk ho
          have RD := Aside0.mk (RD.out.grown hg (by intro e; cases e) (fun k e => by cases e))
          have AL := Aside0.mk ((hg.block _ (blk_lt AL.out) (by intro e; cases e)).trans AL.out)
          refine hK.out _ _ (hHeld.row hg (fun k e => by cases e)) (fun hHeld => ?_)
          clear hK K
          refine znk (N := some 133) ?_
          refine pure_ (i := 7) (N := some 134) (v := .agg (planV (⟨7, 0, zeroT, [], 0, 0, [], p1, p2, [xa]⟩ : S39) (.slice none 0 0) (.slice none 0 0) (.slice A4 1 c4)).toArray) (a' := ?_) (zm 10 511) rfl rfl (by kernel_rfl) (fun _ _ _ h => h) (.inl ⟨by rfl, exec_build 39 _ rfl #[(0, .int .i64 7), (7, .int .i64 p1), (8, .int .i64 p2), (9, .slice A4 1 c4)] (by first | kernel_rfl | (go_simp; done) | (go_simp; rfl)) _ (fun W => by kernel_rfl)⟩) ?_ ?_
          rotate_left
          · simp only [Act.put, List.setIfInBounds_toArray, List.set_cons_zero, List.set_cons_succ, i64_w, i32_w]
            rfl
          exact norm_ (by first | (simp only [putAll, Act.put, List.setIfInBounds_toArray, List.set_cons_zero, List.set_cons_succ]; done) | (simp only [putAll, Act.put, List.setIfInBounds_toArray, List.set_cons_zero, List.set_cons_succ]; rfl)) (HJ ⟨p1, p2, ⟨A4, c4⟩, al⟩ _ ⟨hHeld, RD.out.less (by omega), RS.out, AL.out, AG.out⟩)
        · refine Kd.R_lit_step k39 (w0 := _) w.heap.size 39 (by rfl) (N := 133) rfl (xs := [xa]) (inner := csa) (ok := fun k => lo ≤ k ∧ k ≠ al) (okp := Iv lo hi) (exec_lit1 37 39 (.tmp 132) rfl Tryz.underlying37 _ 19 200 info39 (by decide) (by decide) csa LA.out (by rfl)) (reps_one LA.out hHeld.ma) (fun k h => ⟨h.1, by have h1 := h.2; have h2 := hHeld.h3; have h3 := AG.out; omega⟩) ⟨by have h1 := blk_lt hHeld.ha; have h2 := hHeld.h3; have h3 := hHeld.h4; omega, Nat.ne_of_gt (blk_lt AL.out)⟩ (Below.refl _ _) hHeld.kb.1 (by simp) ?_
          intro vL we ho hB hg hnew
          obtain ⟨A4, c4, rfl⟩ := Kd.R_slice ho
          have RS := Aside0.mk ho
          have RD := Aside0.mk (RD.out.grown hg (by intro e; cases e) (fun k e => by cases e))
          have AL := Aside0.mk ((hg.block _ (blk_lt AL.out) (by intro e; cases e)).trans AL.out)
          refine hK.out _ _ (hHeld.row hg (fun k e => by cases e)) (fun hHeld => ?_)
          clear hK K
          refine znk (N := some 133) ?_
          refine one_ (i := 4) (N := some 131) (zm 10 383) rfl rfl (by kernel_rfl) (by decide) (fun K hK => ?_)
          refine goes_ Tryz.func33 (by kernel_rfl) rfl #[.pointer (some ⟨g, 0, none⟩), .int .i64 wa] (by rfl) rfl rfl (by simp only [List.map_toArray, List.map_cons, List.map_nil]; rfl) ?_
          refine (pick_c RD.out _).mono ?_
          rintro e we ⟨⟨p2, rfl, _⟩, hRD, hk⟩
          refine ⟨_, rfl, ?_⟩
          have RD := Aside0.mk hRD
          have RS := Aside0.mk (Kd.R_keep RS.out hk (fun k h => by have h1 := hHeld.hg; have h2 := hHeld.h1; have h3 := hHeld.h2; have h4 : lo ≤ k := h.1; omega))
          have AL := Aside0.mk (KeepBut.blk hk AL.out (by have h1 := hHeld.hg; have h2 := hHeld.h1; have h3 := hHeld.h2; have h4 := hHeld.h3; have h5 := hHeld.h4; have h6 := AG.out; omega))
          refine hK.out _ _ (hHeld.keep hk) (fun hHeld => ?_)
          clear hK K
          refine znk (N := some 131) ?_
          refine pure_ (i := 7) (N := some 134) (v := .agg (planV (⟨7, 0, zeroT, [], 0, 0, [], p1, p2, [xa]⟩ : S39) (.slice none 0 0) (.slice none 0 0) (.slice A4 1 c4)).toArray) (a' := ?_) (zm 10 511) rfl rfl (by kernel_rfl) (fun _ _ _ h => h) (.inl ⟨by rfl, exec_build 39 _ rfl #[(0, .int .i64 7), (7, .int .i64 p1), (8, .int .i64 p2), (9, .slice A4 1 c4)] (by first | kernel_rfl | (go_simp; done) | (go_simp; rfl)) _ (fun W => by kernel_rfl)⟩) ?_ ?_
          rotate_left
          · simp only [Act.put, List.setIfInBounds_toArray, List.set_cons_zero, List.set_cons_succ, i64_w, i32_w]
            rfl
          exact norm_ (by first | (simp only [putAll, Act.put, List.setIfInBounds_toArray, List.set_cons_zero, List.set_cons_succ]; done) | (simp only [putAll, Act.put, List.setIfInBounds_toArray, List.set_cons_zero, List.set_cons_succ]; rfl)) (HJ ⟨p1, p2, ⟨A4, c4⟩, al⟩ _ ⟨hHeld, RD.out.less (by omega), RS.out, AL.out, AG.out⟩)
    · refine Kd.R_lit_step k39 (w0 := _) w.heap.size 39 (by rfl) (N := 133) rfl (xs := [xa]) (inner := csa) (ok := fun k => lo ≤ k) (okp := Iv lo hi) (exec_lit1 37 39 (.tmp 132) rfl Tryz.underlying37 _ 19 200 info39 (by decide) (by decide) csa LA.out (by rfl)) (reps_one LA.out hHeld.ma) (fun k h => h.1) (by have h1 := blk_lt hHeld.ha; have h2 := hHeld.h3; have h3 := hHeld.h4; omega) (Below.refl _ _) hHeld.kb.1 (by simp) ?_
      intro vL we ho hB hg hnew
      obtain ⟨A4, c4, rfl⟩ := Kd.R_slice ho
      have RS := Aside0.mk ho
      have RD := Aside0.mk (RD.out.grown hg (by intro e; cases e) (fun k e => by cases e))
      refine hK.out _ _ (hHeld.row hg (fun k e => by cases e)) (fun hHeld => ?_)
      clear hK K
      refine znk (N := some 133) ?_
      refine two_ (i := 1) (j := 8) (Ni := some 128) (Nj := some 14) (zm 10 111) (zm 10 365) rfl rfl rfl rfl (by kernel_rfl) (by decide) (by decide) (fun K hK => ?_) (fun K hK => ?_)
      · refine goes_ Tryz.func33 (by kernel_rfl) rfl #[.pointer (some ⟨g, 0, none⟩), .int .i64 4] (by rfl) rfl rfl (by simp only [List.map_toArray, List.map_cons, List.map_nil]; rfl) ?_
        refine (pick_c RD.out _).mono ?_
        rintro e we ⟨⟨p1, rfl, _⟩, hRD, hk⟩
        refine ⟨_, rfl, ?_⟩
        have RD := Aside0.mk hRD
        have RS := Aside0.mk (Kd.R_keep RS.out hk (fun k h => by have h1 := hHeld.hg; have h2 := hHeld.h1; have h3 := hHeld.h2; have h4 : lo ≤ k := h; omega))
        refine hK.out _ _ (hHeld.keep hk) (fun hHeld => ?_)
        clear hK K
        refine znk (N := some 128) ?_
        refine two_ (i := 4) (j := 8) (Ni := some 131) (Nj := some 14) (zm 10 127) (zm 10 367) rfl rfl rfl rfl (by kernel_rfl) (by decide) (by decide) (fun K hK => ?_) (fun K hK => ?_)
        · refine goes_ Tryz.func33 (by kernel_rfl) rfl #[.pointer (some ⟨g, 0, none⟩), .int .i64 wa] (by rfl) rfl rfl (by simp only [List.map_toArray, List.map_cons, List.map_nil]; rfl) ?_
          refine (pick_c RD.out _).mono ?_
          rintro e we ⟨⟨p2, rfl, _⟩, hRD, hk⟩
          refine ⟨_, rfl, ?_⟩
          have RD := Aside0.mk hRD
          have RS := Aside0.mk (Kd.R_keep RS.out hk (fun k h => by have h1 := hHeld.hg; have h2 := hHeld.h1; have h3 := hHeld.h2; have h4 : lo ≤ k := h; omega))
          refine hK.out _ _ (hHeld.keep hk) (fun hHeld => ?_)
          clear hK K
          refine znk (N := some 131) ?_
          refine pure_ (i := 7) (N := some 134) (v := .agg (planV (⟨7, 0, zeroT, [], 0, 0, [], p1, p2, [xa]⟩ : S39) (.slice none 0 0) (.slice none 0 0) (.slice A4 1 c4)).toArray) (a' := ?_) (zm 10 255) rfl rfl (by kernel_rfl) (fun _ _ _ h => h) (.inl ⟨by rfl, exec_build 39 _ rfl #[(0, .int .i64 7), (7, .int .i64 p1), (8, .int .i64 p2), (9, .slice A4 1 c4)] (by first | kernel_rfl | (go_simp; done) | (go_simp; rfl)) _ (fun W => by kernel_rfl)⟩) ?_ ?_
          rotate_left
          · simp only [Act.put, List.setIfInBounds_toArray, List.set_cons_zero, List.set_cons_succ, i64_w, i32_w]
            rfl
          refine one_ (i := 8) (N := some 14) (zm 10 511) rfl rfl (by kernel_rfl) (by decide) (fun K hK => ?_)
          refine alloc_step 39 rfl (by rfl) zero39 _ _ info39 ?_
          intro al hg we hb hB hgn
          have AL := Aside0.mk hb
          have AG := Aside0.mk (show b6 < al by rw [hg]; exact blk_lt hHeld.ha)
          have RS := Aside0.mk (show Kd.R k39 39 we w.heap.size (fun k => lo ≤ k ∧ k ≠ al) (.slice A4 1 c4) [xa] from Kd.R_below (Kd.R_mono (Kd.R_bound RS.out) (fun k hk => ⟨hk.1, by have := hk.2.2.1; omega⟩)) hB)
          have RD := Aside0.mk (RD.out.below hB)
          refine hK.out _ _ (hHeld.below hB) (fun hHeld => ?_)
          clear hK K
          refine znk (N := some 14) ?_
          exact norm_ (by first | (simp only [putAll, Act.put, List.setIfInBounds_toArray, List.set_cons_zero, List.set_cons_succ]; done) | (simp only [putAll, Act.put, List.setIfInBounds_toArray, List.set_cons_zero, List.set_cons_succ]; rfl)) (HJ ⟨p1, p2, ⟨A4, c4⟩, al⟩ _ ⟨hHeld, RD.out.less (by omega), RS.out, AL.out, AG.out⟩)
        · refine alloc_step 39 rfl (by rfl) zero39 _ _ info39 ?_
          intro al hg we hb hB hgn
          have AL := Aside0.mk hb
          have AG := Aside0.mk (show b6 < al by rw [hg]; exact blk_lt hHeld.ha)
          have RS := Aside0.mk (show Kd.R k39 39 we w.heap.size (fun k => lo ≤ k ∧ k ≠ al) (.slice A4 1 c4) [xa] from Kd.R_below (Kd.R_mono (Kd.R_bound RS.out) (fun k hk => ⟨hk.1, by have := hk.2.2.1; omega⟩)) hB)
          have RD := Aside0.mk (RD.out.below hB)
          refine hK.out _ _ (hHeld.below hB) (fun hHeld => ?_)
          clear hK K
          refine znk (N := some 14) ?_
          refine one_ (i := 4) (N := some 131) (zm 10 383) rfl rfl (by kernel_rfl) (by decide) (fun K hK => ?_)
          refine goes_ Tryz.func33 (by kernel_rfl) rfl #[.pointer (some ⟨g, 0, none⟩), .int .i64 wa] (by rfl) rfl rfl (by simp only [List.map_toArray, List.map_cons, List.map_nil]; rfl) ?_
          refine (pick_c RD.out _).mono ?_
          rintro e we ⟨⟨p2, rfl, _⟩, hRD, hk⟩
          refine ⟨_, rfl, ?_⟩
          have RD := Aside0.mk hRD
          have RS := Aside0.mk (Kd.R_keep RS.out hk (fun k h => by have h1 := hHeld.hg; have h2 := hHeld.h1; have h3 := hHeld.h2; have h4 : lo ≤ k := h.1; omega))
          have AL := Aside0.mk (KeepBut.blk hk AL.out (by have h1 := hHeld.hg; have h2 := hHeld.h1; have h3 := hHeld.h2; have h4 := hHeld.h3; have h5 := hHeld.h4; have h6 := AG.out; omega))
          refine hK.out _ _ (hHeld.keep hk) (fun hHeld => ?_)
          clear hK K
          refine znk (N := some 131) ?_
          refine pure_ (i := 7) (N := some 134) (v := .agg (planV (⟨7, 0, zeroT, [], 0, 0, [], p1, p2, [xa]⟩ : S39) (.slice none 0 0) (.slice none 0 0) (.slice A4 1 c4)).toArray) (a' := ?_) (zm 10 511) rfl rfl (by kernel_rfl) (fun _ _ _ h => h) (.inl ⟨by rfl, exec_build 39 _ rfl #[(0, .int .i64 7), (7, .int .i64 p1), (8, .int .i64 p2), (9, .slice A4 1 c4)] (by first | kernel_rfl | (go_simp; done) | (go_simp; rfl)) _ (fun W => by kernel_rfl)⟩) ?_ ?_
          rotate_left
          · simp only [Act.put, List.setIfInBounds_toArray, List.set_cons_zero, List.set_cons_succ, i64_w, i32_w]
            rfl
          exact norm_ (by first | (simp only [putAll, Act.put, List.setIfInBounds_toArray, List.set_cons_zero, List.set_cons_succ]; done) | (simp only [putAll, Act.put, List.setIfInBounds_toArray, List.set_cons_zero, List.set_cons_succ]; rfl)) (HJ ⟨p1, p2, ⟨A4, c4⟩, al⟩ _ ⟨hHeld, RD.out.less (by omega), RS.out, AL.out, AG.out⟩)
      · refine alloc_step 39 rfl (by rfl) zero39 _ _ info39 ?_
        intro al hg we hb hB hgn
        have AL := Aside0.mk hb
        have AG := Aside0.mk (show b6 < al by rw [hg]; exact blk_lt hHeld.ha)
        have RS := Aside0.mk (show Kd.R k39 39 we w.heap.size (fun k => lo ≤ k ∧ k ≠ al) (.slice A4 1 c4) [xa] from Kd.R_below (Kd.R_mono (Kd.R_bound RS.out) (fun k hk => ⟨hk.1, by have := hk.2.2.1; omega⟩)) hB)
        have RD := Aside0.mk (RD.out.below hB)
        refine hK.out _ _ (hHeld.below hB) (fun hHeld => ?_)
        clear hK K
        refine znk (N := some 14) ?_
        refine one_ (i := 1) (N := some 128) (zm 10 367) rfl rfl (by kernel_rfl) (by decide) (fun K hK => ?_)
        refine goes_ Tryz.func33 (by kernel_rfl) rfl #[.pointer (some ⟨g, 0, none⟩), .int .i64 4] (by rfl) rfl rfl (by simp only [List.map_toArray, List.map_cons, List.map_nil]; rfl) ?_
        refine (pick_c RD.out _).mono ?_
        rintro e we ⟨⟨p1, rfl, _⟩, hRD, hk⟩
        refine ⟨_, rfl, ?_⟩
        have RD := Aside0.mk hRD
        have RS := Aside0.mk (Kd.R_keep RS.out hk (fun k h => by have h1 := hHeld.hg; have h2 := hHeld.h1; have h3 := hHeld.h2; have h4 : lo ≤ k := h.1; omega))
        have AL := Aside0.mk (KeepBut.blk hk AL.out (by have h1 := hHeld.hg; have h2 := hHeld.h1; have h3 := hHeld.h2; have h4 := hHeld.h3; have h5 := hHeld.h4; have h6 := AG.out; omega))
        refine hK.out _ _ (hHeld.keep hk) (fun hHeld => ?_)
        clear hK K
        refine znk (N := some 128) ?_
        refine one_ (i := 4) (N := some 131) (zm 10 383) rfl rfl (by kernel_rfl) (by decide) (fun K hK => ?_)
        refine goes_ Tryz.func33 (by kernel_rfl) rfl #[.pointer (some ⟨g, 0, none⟩), .int .i64 wa] (by rfl) rfl rfl (by simp only [List.map_toArray, List.map_cons, List.map_nil]; rfl) ?_
        refine (pick_c RD.out _).mono ?_
        rintro e we ⟨⟨p2, rfl, _⟩, hRD, hk⟩
        refine ⟨_, rfl, ?_⟩
        have RD := Aside0.mk hRD
        have RS := Aside0.mk (Kd.R_keep RS.out hk (fun k h => by have h1 := hHeld.hg; have h2 := hHeld.h1; have h3 := hHeld.h2; have h4 : lo ≤ k := h.1; omega))
        have AL := Aside0.mk (KeepBut.blk hk AL.out (by have h1 := hHeld.hg; have h2 := hHeld.h1; have h3 := hHeld.h2; have h4 := hHeld.h3; have h5 := hHeld.h4; have h6 := AG.out; omega))
        refine hK.out _ _ (hHeld.keep hk) (fun hHeld => ?_)
        clear hK K
        refine znk (N := some 131) ?_
        refine pure_ (i := 7) (N := some 134) (v := .agg (planV (⟨7, 0, zeroT, [], 0, 0, [], p1, p2, [xa]⟩ : S39) (.slice none 0 0) (.slice none 0 0) (.slice A4 1 c4)).toArray) (a' := ?_) (zm 10 511) rfl rfl (by kernel_rfl) (fun _ _ _ h => h) (.inl ⟨by rfl, exec_build 39 _ rfl #[(0, .int .i64 7), (7, .int .i64 p1), (8, .int .i64 p2), (9, .slice A4 1 c4)] (by first | kernel_rfl | (go_simp; done) | (go_simp; rfl)) _ (fun W => by kernel_rfl)⟩) ?_ ?_
        rotate_left
        · simp only [Act.put, List.setIfInBounds_toArray, List.set_cons_zero, List.set_cons_succ, i64_w, i32_w]
          rfl
        exact norm_ (by first | (simp only [putAll, Act.put, List.setIfInBounds_toArray, List.set_cons_zero, List.set_cons_succ]; done) | (simp only [putAll, Act.put, List.setIfInBounds_toArray, List.set_cons_zero, List.set_cons_succ]; rfl)) (HJ ⟨p1, p2, ⟨A4, c4⟩, al⟩ _ ⟨hHeld, RD.out.less (by omega), RS.out, AL.out, AG.out⟩)
    · refine alloc_step 39 rfl (by rfl) zero39 _ _ info39 ?_
      intro al hg we hb hB hgn
      have AL := Aside0.mk hb
      have AG := Aside0.mk (show b6 < al by rw [hg]; exact blk_lt hHeld.ha)
      have RD := Aside0.mk (RD.out.below hB)
      refine hK.out _ _ (hHeld.below hB) (fun hHeld => ?_)
      clear hK K
      refine znk (N := some 14) ?_
      refine two_ (i := 1) (j := 6) (Ni := some 128) (Nj := some 133) (zm 10 303) (zm 10 365) rfl rfl rfl rfl (by kernel_rfl) (by decide) (by decide) (fun K hK => ?_) (fun K hK => ?_)
      · refine goes_ Tryz.func33 (by kernel_rfl) rfl #[.pointer (some ⟨g, 0, none⟩), .int .i64 4] (by rfl) rfl rfl (by simp only [List.map_toArray, List.map_cons, List.map_nil]; rfl) ?_
        refine (pick_c RD.out _).mono ?_
        rintro e we ⟨⟨p1, rfl, _⟩, hRD, hk⟩
        refine ⟨_, rfl, ?_⟩
        have RD := Aside0.mk hRD
        have AL := Aside0.mk (KeepBut.blk hk AL.out (by have h1 := hHeld.hg; have h2 := hHeld.h1; have h3 := hHeld.h2; have h4 := hHeld.h3; have h5 := hHeld.h4; have h6 := AG.out; omega))
        refine hK.out _ _ (hHeld.keep hk) (fun hHeld => ?_)
        clear hK K
        refine znk (N := some 128) ?_
        refine two_ (i := 4) (j := 6) (Ni := some 131) (Nj := some 133) (zm 10 319) (zm 10 367) rfl rfl rfl rfl (by kernel_rfl) (by decide) (by decide) (fun K hK => ?_) (fun K hK => ?_)
        · refine goes_ Tryz.func33 (by kernel_rfl) rfl #[.pointer (some ⟨g, 0, none⟩), .int .i64 wa] (by rfl) rfl rfl (by simp only [List.map_toArray, List.map_cons, List.map_nil]; rfl) ?_
          refine (pick_c RD.out _).mono ?_
          rintro e we ⟨⟨p2, rfl, _⟩, hRD, hk⟩
          refine ⟨_, rfl, ?_⟩
          have RD := Aside0.mk hRD
          have AL := Aside0.mk (KeepBut.blk hk AL.out (by have h1 := hHeld.hg; have h2 := hHeld.h1; have h3 := hHeld.h2; have h4 := hHeld.h3; have h5 := hHeld.h4; have h6 := AG.out; omega))
          refine hK.out _ _ (hHeld.keep hk) (fun hHeld => ?_)
          clear hK K
          refine znk (N := some 131) ?_
          refine one_ (i := 6) (N := some 133) (zm 10 383) rfl rfl (by kernel_rfl) (by decide) (fun K hK => ?_)
          refine Kd.R_lit_step k39 (w0 := _) w.heap.size 39 (by rfl) (N := 133) rfl (xs := [xa]) (inner := csa) (ok := fun k => lo ≤ k ∧ k ≠ al) (okp := Iv lo hi) (exec_lit1 37 39 (.tmp 132) rfl Tryz.underlying37 _ 19 200 info39 (by decide) (by decide) csa LA.out (by rfl)) (reps_one LA.out hHeld.ma) (fun k h => ⟨h.1, by have h1 := h.2; have h2 := hHeld.h3; have h3 := AG.out; omega⟩) ⟨by have h1 := blk_lt hHeld.ha; have h2 := hHeld.h3; have h3 := hHeld.h4; omega, Nat.ne_of_gt (blk_lt AL.out)⟩ (Below.refl _ _) hHeld.kb.1 (by simp) ?_
          intro vL we ho hB hg hnew
          obtain ⟨A4, c4, rfl⟩ := Kd.R_slice ho
          have RS := Aside0.mk ho
          have RD := Aside0.mk (RD.out.grown hg (by intro e; cases e) (fun k e => by cases e))
          have AL := Aside0.mk ((hg.block _ (blk_lt AL.out) (by intro e; cases e)).trans AL.out)
          refine hK.out _ _ (hHeld.row hg (fun k e => by cases e)) (fun hHeld => ?_)
          clear hK K
          refine znk (N := some 133) ?_
          refine pure_ (i := 7) (N := some 134) (v := .agg (planV (⟨7, 0, zeroT, [], 0, 0, [], p1, p2, [xa]⟩ : S39) (.slice none 0 0) (.slice none 0 0) (.slice A4 1 c4)).toArray) (a' := ?_) (zm 10 511) rfl rfl (by kernel_rfl) (fun _ _ _ h => h) (.inl ⟨by rfl, exec_build 39 _ rfl #[(0, .int .i64 7), (7, .int .i64 p1), (8, .int .i64 p2), (9, .slice A4 1 c4)] (by first | kernel_rfl | (go_simp; done) | (go_simp; rfl)) _ (fun W => by kernel_rfl)⟩) ?_ ?_
          rotate_left
          · simp only [Act.put, List.setIfInBounds_toArray, List.set_cons_zero, List.set_cons_succ, i64_w, i32_w]
            rfl
          exact norm_ (by first | (simp only [putAll, Act.put, List.setIfInBounds_toArray, List.set_cons_zero, List.set_cons_succ]; done) | (simp only [putAll, Act.put, List.setIfInBounds_toArray, List.set_cons_zero, List.set_cons_succ]; rfl)) (HJ ⟨p1, p2, ⟨A4, c4⟩, al⟩ _ ⟨hHeld, RD.out.less (by omega), RS.out, AL.out, AG.out⟩)
        · refine Kd.R_lit_step k39 (w0 := _) w.heap.size 39 (by rfl) (N := 133) rfl (xs := [xa]) (inner := csa) (ok := fun k => lo ≤ k ∧ k ≠ al) (okp := Iv lo hi) (exec_lit1 37 39 (.tmp 132) rfl Tryz.underlying37 _ 19 200 info39 (by decide) (by decide) csa LA.out (by rfl)) (reps_one LA.out hHeld.ma) (fun k h => ⟨h.1, by have h1 := h.2; have h2 := hHeld.h3; have h3 := AG.out; omega⟩) ⟨by have h1 := blk_lt hHeld.ha; have h2 := hHeld.h3; have h3 := hHeld.h4; omega, Nat.ne_of_gt (blk_lt AL.out)⟩ (Below.refl _ _) hHeld.kb.1 (by simp) ?_
          intro vL we ho hB hg hnew
          obtain ⟨A4, c4, rfl⟩ := Kd.R_slice ho
          have RS := Aside0.mk ho
          have RD := Aside0.mk (RD.out.grown hg (by intro e; cases e) (fun k e => by cases e))
          have AL := Aside0.mk ((hg.block _ (blk_lt AL.out) (by intro e; cases e)).trans AL.out)
          refine hK.out _ _ (hHeld.row hg (fun k e => by cases e)) (fun hHeld => ?_)
          clear hK K
          refine znk (N := some 133) ?_
          refine one_ (i := 4) (N := some 131) (zm 10 383) rfl rfl (by kernel_rfl) (by decide) (fun K hK => ?_)
          refine goes_ Tryz.func33 (by kernel_rfl) rfl #[.pointer (some ⟨g, 0, none⟩), .int .i64 wa] (by rfl) rfl rfl (by simp only [List.map_toArray, List.map_cons, List.map_nil]; rfl) ?_
          refine (pick_c RD.out _).mono ?_
          rintro e we ⟨⟨p2, rfl, _⟩, hRD, hk⟩
          refine ⟨_, rfl, ?_⟩
          have RD := Aside0.mk hRD
          have RS := Aside0.mk (Kd.R_keep RS.out hk (fun k h => by have h1 := hHeld.hg; have h2 := hHeld.h1; have h3 := hHeld.h2; have h4 : lo ≤ k := h.1; omega))
          have AL := Aside0.mk (KeepBut.blk hk AL.out (by have h1 := hHeld.hg; have h2 := hHeld.h1; have h3 := hHeld.h2; have h4 := hHeld.h3; have h5 := hHeld.h4; have h6 := AG.out; omega))
          refine hK.out _ _ (hHeld.keep hk) (fun hHeld => ?_)
          clear hK K
          refine znk (N := some 131) ?_
          refine pure_ (i := 7) (N := some 134) (v := .agg (planV (⟨7, 0, zeroT, [], 0, 0, [], p1, p2, [xa]⟩ : S39) (.slice none 0 0) (.slice none 0 0) (.slice A4 1 c4)).toArray) (a' := ?_) (zm 10 511) rfl rfl (by kernel_rfl) (fun _ _ _ h => h) (.inl ⟨by rfl, exec_build 39 _ rfl #[(0, .int .i64 7), (7, .int .i64 p1), (8, .int .i64 p2), (9, .slice A4 1 c4)] (by first | kernel_rfl | (go_simp; done) | (go_simp; rfl)) _ (fun W => by kernel_rfl)⟩) ?_ ?_
          rotate_left
          · simp only [Act.put, List.setIfInBounds_toArray, List.set_cons_zero, List.set_cons_succ, i64_w, i32_w]
            rfl
          exact norm_ (by first | (simp only [putAll, Act.put, List.setIfInBounds_toArray, List.set_cons_zero, List.set_cons_succ]; done) | (simp only [putAll, Act.put, List.setIfInBounds_toArray, List.set_cons_zero, List.set_cons_succ]; rfl)) (HJ ⟨p1, p2, ⟨A4, c4⟩, al⟩ _ ⟨hHeld, RD.out.less (by omega), RS.out, AL.out, AG.out⟩)
      · refine Kd.R_lit_step k39 (w0 := _) w.heap.size 39 (by rfl) (N := 133) rfl (xs := [xa]) (inner := csa) (ok := fun k => lo ≤ k ∧ k ≠ al) (okp := Iv lo hi) (exec_lit1 37 39 (.tmp 132) rfl Tryz.underlying37 _ 19 200 info39 (by decide) (by decide) csa LA.out (by rfl)) (reps_one LA.out hHeld.ma) (fun k h => ⟨h.1, by have h1 := h.2; have h2 := hHeld.h3; have h3 := AG.out; omega⟩) ⟨by have h1 := blk_lt hHeld.ha; have h2 := hHeld.h3; have h3 := hHeld.h4; omega, Nat.ne_of_gt (blk_lt AL.out)⟩ (Below.refl _ _) hHeld.kb.1 (by simp) ?_
        intro vL we ho hB hg hnew
        obtain ⟨A4, c4, rfl⟩ := Kd.R_slice ho
        have RS := Aside0.mk ho
        have RD := Aside0.mk (RD.out.grown hg (by intro e; cases e) (fun k e => by cases e))
        have AL := Aside0.mk ((hg.block _ (blk_lt AL.out) (by intro e; cases e)).trans AL.out)
        refine hK.out _ _ (hHeld.row hg (fun k e => by cases e)) (fun hHeld => ?_)
        clear hK K
        refine znk (N := some 133) ?_
        refine one_ (i := 1) (N := some 128) (zm 10 367) rfl rfl (by kernel_rfl) (by decide) (fun K hK => ?_)
        refine goes_ Tryz.func33 (by kernel_rfl) rfl #[.pointer (some ⟨g, 0, none⟩), .int .i64 4] (by rfl) rfl rfl (by simp only [List.map_toArray, List.map_cons, List.map_nil]; rfl) ?_
        refine (pick_c RD.out _).mono ?_
        rintro e we ⟨⟨p1, rfl, _⟩, hRD, hk⟩
        refine ⟨_, rfl, ?_⟩
        have RD := Aside0.mk hRD
        have RS := Aside0.mk (Kd.R_keep RS.out hk (fun k h => by have h1 := hHeld.hg; have h2 := hHeld.h1; have h3 := hHeld.h2; have h4 : lo ≤ k := h.1; omega))
        have AL := Aside0.mk (KeepBut.blk hk AL.out (by have h1 := hHeld.hg; have h2 := hHeld.h1; have h3 := hHeld.h2; have h4 := hHeld.h3; have h5 := hHeld.h4; have h6 := AG.out; omega))
        refine hK.out _ _ (hHeld.keep hk) (fun hHeld => ?_)
        clear hK K
        refine znk (N := some 128) ?_
        refine one_ (i := 4) (N := some 131) (zm 10 383) rfl rfl (by kernel_rfl) (by decide) (fun K hK => ?_)
        refine goes_ Tryz.func33 (by kernel_rfl) rfl #[.pointer (some ⟨g, 0, none⟩), .int .i64 wa] (by rfl) rfl rfl (by simp only [List.map_toArray, List.map_cons, List.map_nil]; rfl) ?_
        refine (pick_c RD.out _).mono ?_
        rintro e we ⟨⟨p2, rfl, _⟩, hRD, hk⟩
        refine ⟨_, rfl, ?_⟩
        have RD := Aside0.mk hRD
        have RS := Aside0.mk (Kd.R_keep RS.out hk (fun k h => by have h1 := hHeld.hg; have h2 := hHeld.h1; have h3 := hHeld.h2; have h4 : lo ≤ k := h.1; omega))
        have AL := Aside0.mk (KeepBut.blk hk AL.out (by have h1 := hHeld.hg; have h2 := hHeld.h1; have h3 := hHeld.h2; have h4 := hHeld.h3; have h5 := hHeld.h4; have h6 := AG.out; omega))
        refine hK.out _ _ (hHeld.keep hk) (fun hHeld => ?_)
        clear hK K
        refine znk (N := some 131) ?_
        refine pure_ (i := 7) (N := some 134) (v := .agg (planV (⟨7, 0, zeroT, [], 0, 0, [], p1, p2, [xa]⟩ : S39) (.slice none 0 0) (.slice none 0 0) (.slice A4 1 c4)).toArray) (a' := ?_) (zm 10 511) rfl rfl (by kernel_rfl) (fun _ _ _ h => h) (.inl ⟨by rfl, exec_build 39 _ rfl #[(0, .int .i64 7), (7, .int .i64 p1), (8, .int .i64 p2), (9, .slice A4 1 c4)] (by first | kernel_rfl | (go_simp; done) | (go_simp; rfl)) _ (fun W => by kernel_rfl)⟩) ?_ ?_
        rotate_left
        · simp only [Act.put, List.setIfInBounds_toArray, List.set_cons_zero, List.set_cons_succ, i64_w, i32_w]
          rfl
        exact norm_ (by first | (simp only [putAll, Act.put, List.setIfInBounds_toArray, List.set_cons_zero, List.set_cons_succ]; done) | (simp only [putAll, Act.put, List.setIfInBounds_toArray, List.set_cons_zero, List.set_cons_succ]; rfl)) (HJ ⟨p1, p2, ⟨A4, c4⟩, al⟩ _ ⟨hHeld, RD.out.less (by omega), RS.out, AL.out, AG.out⟩)
end Pl

end Go.Proofs.YtlpgnkndjmfcjaaGreat.PFnPlanUses
