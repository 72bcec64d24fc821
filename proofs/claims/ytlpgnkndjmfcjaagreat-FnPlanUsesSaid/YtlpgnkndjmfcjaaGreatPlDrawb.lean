/- The given specification's l4Bent draws some small plan. The plain law of FnPlanUses. The given specification's DrawPlanUses draws some small plan and some number. -/
import Derived.Test.YtlpgnkndjmfcjaaGreatPlDraws
namespace Go.Proofs.YtlpgnkndjmfcjaaGreat.PFnPlanUses
open Go.RowKit Go.Proofs.YtlpgnkndjmfcjaaGreatW.PrintWords Go.Proofs.YtlpgnkndjmfcjaaGreatW.PrintLast Go.Proofs.YtlpgnkndjmfcjaaGreatW.PrintMore
attribute [local go_sem] max2_int min2_int max_two min_two max_three min_three max_four min_four   -- for this text's walks alone
set_option linter.unusedVariables false
set_option linter.unusedSimpArgs false
namespace Pl
/-- What l4Bent gives. -/
def BeR (w0 : World) (g : Nat) (b : List Int) (c : Nat) (w : World) (e : Ending) (w' : World) : Prop :=
  (∃ (x : S39) (cs : List Value), e = .returned (.agg cs.toArray) ∧ OwnP w' w.heap.size x cs ∧ sz39 x ≤ 30 ∧ Small39 x) ∧ RdW w0 g b c w' ∧ KeepBut w w' g none
set_option maxHeartbeats 16000000 in
set_option maxRecDepth 100000 in
/-- **spec.l4Bent** -/
theorem l4Bent_c {w0 : World} {g : Nat} {b : List Int} {c : Nat} {w : World} (h : RdW w0 g b (c + 310) w) :
    Calls Tryz.prog 32 #[.pointer (some ⟨g, 0, none⟩)] w (BeR w0 g b c w) := by
  have RA := Aside0.mk h
  clear h
  go_enter Tryz.func32, Tryz.ntmps32
  go_wp2_with (first
    | ((with_reducible refine gate_dst (N := 2) rfl ?_); refine alloc_ 39 rfl rfl zero39 _ _ info39 ?_; intro gr hg wq hb hB; have GB := Aside0.mk (show w0.heap.size ≤ gr by rw [hg]; exact RA.out.bel.size); have RGx := Aside0.mk (show RG w g gr wq from ⟨hb, KeepBut.below_ hB g, RA.out.lt, by rw [hg]; exact Nat.le_refl _⟩); have RA_ := Aside0.mk (RA.out.below hB); clear RA; have RA := RA_; clear RA_; clear hb hB hg)
    | (go_at_call 44; obtain ⟨lo, hlo⟩ : ∃ n, n = wq.heap.size := ⟨_, rfl⟩; have GQ := Aside0.mk (show gr < lo by rw [hlo]; exact blk_lt RGx.out.hr); refine (l4Some_c (c := c + 10) (RA.out.less (by omega))).mono ?_; rintro e wq ⟨⟨x0, cs0, rfl, hO, hz, hs, ht⟩, hRD, hk⟩; obtain ⟨u12, u15, u18, rfl, h12, h15, h18⟩ := hO; obtain ⟨A12, c12, rfl⟩ := Kd.R_slice h12; obtain ⟨A15, c15, rfl⟩ := Kd.R_slice h15; obtain ⟨A18, c18, rfl⟩ := Kd.R_slice h18; have H12 := Aside0.mk (hlo ▸ h12); have H15 := Aside0.mk (hlo ▸ h15); have H18 := Aside0.mk (hlo ▸ h18); have RB := Aside0.mk hRD; have LWp := Aside0.mk (show lo ≤ wq.heap.size by rw [hlo]; exact hk.1); have SZ0 := Aside0.mk hz; have SM0 := Aside0.mk hs; have TN0 := Aside0.mk ht; clear RA hRD h12 h15 h18 hz hs ht hlo; have RGx_ := Aside0.mk (RGx.out.keep hk); clear RGx; have RGx := RGx_; clear RGx_; clear hk)
    | ((with_reducible refine gate_dst (N := 3) rfl ?_); refine alloc_ 39 rfl rfl zero39 _ _ info39 ?_; intro bx hg wr hb hB; have BP := Aside0.mk hB; have BXp := Aside0.mk (show wq.heap.size ≤ bx by rw [hg]; exact Nat.le_refl _); have X6 := Aside0.mk hb; have LW := Aside0.mk (show lo ≤ wq.heap.size from LWp.out); have RGx_ := Aside0.mk (RGx.out.below hB); have RB_ := Aside0.mk (RB.out.below hB); clear RGx RB; have RGx := RGx_; have RB := RB_; clear RGx_ RB_; clear hb hB hg LWp)
    | ((with_reducible refine gate_ (.store 39 (.tmp 3) (.tmp 6)) rfl ?_); refine storeAll_ 39 (.tmp 3) (.tmp 6) rfl rfl rfl bx ?hp (planV x0 (.slice A12 x0.f3.length c12) (.slice A15 x0.f6.length c15) (.slice A18 x0.f9.length c18)) ?hx2 ?ht planV_one zero39 _ X6.out ?hf ?_; (case hp => first | rfl | (go_simp; done) | (go_simp; rfl)); (case hx2 => first | rfl | (go_simp; done) | (go_simp; rfl)); (case ht => kernel_rfl); (case hf => rfl); intro wt hb hg; have GX := Aside0.mk (show gr < bx by have := GQ.out; have := LW.out; have := BXp.out; omega); have GL := Aside0.mk (show g < lo by have := RGx.out.hg; have := RGx.out.h1; have := GQ.out; omega); have LB_ := Aside0.mk (show lo ≤ bx from Nat.le_trans LW.out BXp.out); have BG := Aside0.mk (show bx ≠ g by have := GL.out; have := LB_.out; omega); have PEx := Aside0.mk (show PE w.heap.size lo bx 30 20 wt from ⟨x0, _, _, _, OwnP.box H12.out H15.out H18.out BP.out BXp.out hg hb (Nat.le_refl _) (by have := RGx.out.h1; have := GQ.out; omega), Nat.le_trans SZ0.out (by decide), SM0.out, by have := TN0.out; omega, by have := TN0.out; omega⟩); have PE0 := Aside0.mk (show PE w.heap.size lo bx 15 10 wt from ⟨x0, _, _, _, OwnP.box H12.out H15.out H18.out BP.out BXp.out hg hb (Nat.le_refl _) (by have := RGx.out.h1; have := GQ.out; omega), SZ0.out, SM0.out, by have := TN0.out; omega, by have := TN0.out; omega⟩); have RGx_ := Aside0.mk (RGx.out.row hg (fun k e => by injection e with e; have := GX.out; omega)); have RB_ := Aside0.mk (RB.out.grown hg (by intro e; injection e with e; exact BG.out e.symm) (fun k e => by injection e with e; have := GB.out; have := GX.out; omega)); clear RGx RB; have RGx := RGx_; have RB := RB_; clear RGx_ RB_; clear H12 H15 H18 BP BXp X6 SZ0 SM0 TN0 LW hb hg)
    | (go_at_call 33; refine (pick_c RB.out _).mono ?_; rintro e wu ⟨⟨v, rfl, hv⟩, hRD, hk⟩; have RC := Aside0.mk hRD; clear RB hRD; have RGx_ := Aside0.mk (RGx.out.keep hk); have PEx_ := Aside0.mk (PEx.out.keep hk GL.out BG.out); have PE0_ := Aside0.mk (PE0.out.keep hk GL.out BG.out); clear RGx PEx PE0; have RGx := RGx_; have PEx := PEx_; have PE0 := PE0_; clear RGx_ PEx_ PE0_; clear hk; refine Hid.out ?_))
  refine Lib.hid ?_
  have hv8 := hv (by decide)
  rcases (show v = 0 ∨ v = 1 ∨ v = 2 ∨ v = 3 ∨ v = 4 ∨ v = 5 ∨ v = 6 ∨ (7 ≤ v ∧ v < 60) by omega) with rfl | rfl | rfl | rfl | rfl | rfl | rfl | hv7
  · clear hv hv8 PE0
    go_wp2_with (first
      | ((with_reducible refine gate_dst (N := 12) rfl ?_); refine Kd.R_lit (Kd.int .i64) _ 3 ?hg (N := 12) ?hd (xs := ([0, 8, 5, 1] : List Int)) (inner := [.int .i64 0, .int .i64 8, .int .i64 5, .int .i64 1]) (ok := fun k => k ≠ g) (okp := fun k => k ≠ g) ?hr ?hp (fun _ hk => hk) (Nat.ne_of_gt RC.out.lt) (Below.refl _ _) (Nat.le_refl _) (by simp) ?_; (case hd => rfl); (case hg => rfl); (case hr => first | (go_simp; done) | (go_simp; rfl)); (case hp => exact (Reps.one (show Kd.M (Kd.int .i64) _ _ _ 0 [.int .i64 0] from rfl) (Reps.one (show Kd.M (Kd.int .i64) _ _ _ 8 [.int .i64 8] from rfl) (Reps.one (show Kd.M (Kd.int .i64) _ _ _ 5 [.int .i64 5] from rfl) (Reps.one (show Kd.M (Kd.int .i64) _ _ _ 1 [.int .i64 1] from rfl) (Reps.none _ _)))))); intro v0 wq ho hB hg_ hnew_; obtain ⟨A0, m0, rfl, hc, hr⟩ := Kd.R_reads ho; have HC12 := Aside0.mk hc; have HR0 := Aside0.mk hr; have HF0 := Aside0.mk (show ∀ ad, A0 = some ad → 0 < ([0, 8, 5, 1] : List Int).length → ad.block ≠ g from fun ad e _ => ho.1 ad.block (by rw [e]; rfl)); have RGx_ := Aside0.mk (RGx.out.below hB); have PEx_ := Aside0.mk (PEx.out.below hB); have RC_ := Aside0.mk (RC.out.below hB); clear RGx PEx RC; have RGx := RGx_; have PEx := PEx_; have RC := RC_; clear RGx_ PEx_ RC_; clear ho hg_ hnew_ hc hr hB)
      | (go_at_call 45; refine (num_c RC.out A0 m0 ([0, 8, 5, 1] : List Int) (by simp) HR0.out HC12.out HF0.out).mono ?_; rintro e wq ⟨⟨n1, rfl⟩, hRD, hk⟩; have RD := Aside0.mk hRD; clear RC hRD HR0 HC12 HF0; have RGx_ := Aside0.mk (RGx.out.keep hk); have PEx_ := Aside0.mk (PEx.out.keep hk GL.out BG.out); clear RGx PEx; have RGx := RGx_; have PEx := PEx_; clear RGx_ PEx_; clear hk)
      | ((with_reducible refine gate_ (.store 3 (.tmp 14) (.tmp 13)) rfl ?_); obtain ⟨x, v12, v15, v18, hP, hz, hs, l3, l6⟩ := PEx.out; refine store_ 3 (.tmp 14) (.tmp 13) rfl rfl rfl bx 0 ?hp (.int .i64 n1) ?hx [.int .i64 n1] ?hu ?ht ?h1 (planV x v12 v15 v18) _ hP.hp ?hf ?_; (case hp => first | rfl | (go_simp; done) | (go_simp; rfl)); (case hx => first | rfl | (go_simp; done) | (go_simp; rfl)); (case hu => rfl); (case ht => kernel_rfl); (case h1 => simp [Value.oneCell']); (case hf => simp [planV]); intro wq hb hg; clear PEx; have PEx := Aside0.mk (show PE w.heap.size lo bx 30 20 wq from PE.setI (x' := ⟨n1, x.f1, x.f2, x.f3, x.f4, x.f5, x.f6, x.f7, x.f8, x.f9⟩) hP hz hs l3 l6 hg hb rfl rfl rfl); have RGx_ := Aside0.mk (RGx.out.row hg (fun k e => by injection e with e; have := GX.out; omega)); have RD_ := Aside0.mk (RD.out.grown hg (by intro e; injection e with e; exact BG.out e.symm) (fun k e => by injection e with e; have := GB.out; have := GX.out; omega)); clear RGx RD; have RGx := RGx_; have RD := RD_; clear RGx_ RD_; clear hb hg hP hz hs l3 l6)
      | ((with_reducible refine gate_dst (N := 62) rfl ?_); obtain ⟨x, v12, v15, v18, hP, hz, hs, l3, l6⟩ := PEx.out; obtain ⟨A2, c2, rfl⟩ := Kd.R_slice hP.r12; obtain ⟨A5, c5, rfl⟩ := Kd.R_slice hP.r15; obtain ⟨A8, c8, rfl⟩ := Kd.R_slice hP.r18; have PXx := Aside0.mk hP; have SZx := Aside0.mk hz; have SMx := Aside0.mk hs; refine loadVar_ 39 (.tmp 3) rfl rfl bx ?hx (planV x (.slice A2 x.f3.length c2) (.slice A5 x.f6.length c5) (.slice A8 x.f9.length c8)) _ Tryz.underlying39 ?hi _ PXx.out.hp ?_; (case hx => first | rfl | (go_simp; done) | (go_simp; rfl)); (case hi => kernel_rfl); clear hP hz hs l3 l6 PEx)
      | ((with_reducible refine gate_ (.store 39 (.tmp 2) (.tmp 62)) rfl ?_); refine storeAll_ 39 (.tmp 2) (.tmp 62) rfl rfl rfl gr ?hp (planV x (.slice A2 x.f3.length c2) (.slice A5 x.f6.length c5) (.slice A8 x.f9.length c8)) ?hx2 ?ht planV_one zero39 _ RGx.out.hr ?hf ?_; (case hp => first | rfl | (go_simp; done) | (go_simp; rfl)); (case hx2 => first | rfl | (go_simp; done) | (go_simp; rfl)); (case ht => kernel_rfl); (case hf => rfl); intro wz hb hg; have XZ := Aside0.mk hb; have RZ := Aside0.mk (RdW.grown (RD.out.less (c' := c) (by omega)) hg (by intro e; injection e with e; have := RGx.out.h1; have := RGx.out.hg; omega) (fun k e => by injection e with e; rw [← e]; exact GB.out)); have KZ := Aside0.mk (KeepBut.put RGx.out.kb hg RGx.out.h1); have OZ := Aside0.mk (PXx.out.grown hg GQ.out (by have := GX.out; omega)).own; clear hb hg RGx PXx))
    exact bodyPost_ret (results_cell_row rfl _ _ gr _ _ _ _ rfl XZ.out Tryz.underlying39 rfl (by kernel_rfl)) rfl ⟨⟨_, _, rfl, OZ.out, SZx.out, SMx.out⟩, RZ.out, KZ.out⟩
  · clear hv hv8 PE0
    go_wp2_with (first
      | ((with_reducible refine gate_dst (N := 18) rfl ?_); refine Kd.R_lit (Kd.int .i64) _ 3 ?hg (N := 18) ?hd (xs := ([(-1), 3, 1] : List Int)) (inner := [.int .i64 (-1), .int .i64 3, .int .i64 1]) (ok := fun k => k ≠ g) (okp := fun k => k ≠ g) ?hr ?hp (fun _ hk => hk) (Nat.ne_of_gt RC.out.lt) (Below.refl _ _) (Nat.le_refl _) (by simp) ?_; (case hd => rfl); (case hg => rfl); (case hr => first | (go_simp; done) | (go_simp; rfl)); (case hp => exact (Reps.one (show Kd.M (Kd.int .i64) _ _ _ (-1) [.int .i64 (-1)] from rfl) (Reps.one (show Kd.M (Kd.int .i64) _ _ _ 3 [.int .i64 3] from rfl) (Reps.one (show Kd.M (Kd.int .i64) _ _ _ 1 [.int .i64 1] from rfl) (Reps.none _ _))))); intro v0 wq ho hB hg_ hnew_; obtain ⟨A0, m0, rfl, hc, hr⟩ := Kd.R_reads ho; have HC18 := Aside0.mk hc; have HR0 := Aside0.mk hr; have HF0 := Aside0.mk (show ∀ ad, A0 = some ad → 0 < ([(-1), 3, 1] : List Int).length → ad.block ≠ g from fun ad e _ => ho.1 ad.block (by rw [e]; rfl)); have RGx_ := Aside0.mk (RGx.out.below hB); have PEx_ := Aside0.mk (PEx.out.below hB); have RC_ := Aside0.mk (RC.out.below hB); clear RGx PEx RC; have RGx := RGx_; have PEx := PEx_; have RC := RC_; clear RGx_ PEx_ RC_; clear ho hg_ hnew_ hc hr hB)
      | (go_at_call 45; refine (num_c RC.out A0 m0 ([(-1), 3, 1] : List Int) (by simp) HR0.out HC18.out HF0.out).mono ?_; rintro e wq ⟨⟨n1, rfl⟩, hRD, hk⟩; have RD := Aside0.mk hRD; clear RC hRD HR0 HC18 HF0; have RGx_ := Aside0.mk (RGx.out.keep hk); have PEx_ := Aside0.mk (PEx.out.keep hk GL.out BG.out); clear RGx PEx; have RGx := RGx_; have PEx := PEx_; clear RGx_ PEx_; clear hk)
      | ((with_reducible refine gate_ (.store 3 (.tmp 20) (.tmp 19)) rfl ?_); obtain ⟨x, v12, v15, v18, hP, hz, hs, l3, l6⟩ := PEx.out; refine store_ 3 (.tmp 20) (.tmp 19) rfl rfl rfl bx 1 ?hp (.int .i64 n1) ?hx [.int .i64 n1] ?hu ?ht ?h1 (planV x v12 v15 v18) _ hP.hp ?hf ?_; (case hp => first | rfl | (go_simp; done) | (go_simp; rfl)); (case hx => first | rfl | (go_simp; done) | (go_simp; rfl)); (case hu => rfl); (case ht => kernel_rfl); (case h1 => simp [Value.oneCell']); (case hf => simp [planV]); intro wq hb hg; clear PEx; have PEx := Aside0.mk (show PE w.heap.size lo bx 30 20 wq from PE.setI (x' := ⟨x.f0, n1, x.f2, x.f3, x.f4, x.f5, x.f6, x.f7, x.f8, x.f9⟩) hP hz hs l3 l6 hg hb rfl rfl rfl); have RGx_ := Aside0.mk (RGx.out.row hg (fun k e => by injection e with e; have := GX.out; omega)); have RD_ := Aside0.mk (RD.out.grown hg (by intro e; injection e with e; exact BG.out e.symm) (fun k e => by injection e with e; have := GB.out; have := GX.out; omega)); clear RGx RD; have RGx := RGx_; have RD := RD_; clear RGx_ RD_; clear hb hg hP hz hs l3 l6)
      | ((with_reducible refine gate_dst (N := 62) rfl ?_); obtain ⟨x, v12, v15, v18, hP, hz, hs, l3, l6⟩ := PEx.out; obtain ⟨A2, c2, rfl⟩ := Kd.R_slice hP.r12; obtain ⟨A5, c5, rfl⟩ := Kd.R_slice hP.r15; obtain ⟨A8, c8, rfl⟩ := Kd.R_slice hP.r18; have PXx := Aside0.mk hP; have SZx := Aside0.mk hz; have SMx := Aside0.mk hs; refine loadVar_ 39 (.tmp 3) rfl rfl bx ?hx (planV x (.slice A2 x.f3.length c2) (.slice A5 x.f6.length c5) (.slice A8 x.f9.length c8)) _ Tryz.underlying39 ?hi _ PXx.out.hp ?_; (case hx => first | rfl | (go_simp; done) | (go_simp; rfl)); (case hi => kernel_rfl); clear hP hz hs l3 l6 PEx)
      | ((with_reducible refine gate_ (.store 39 (.tmp 2) (.tmp 62)) rfl ?_); refine storeAll_ 39 (.tmp 2) (.tmp 62) rfl rfl rfl gr ?hp (planV x (.slice A2 x.f3.length c2) (.slice A5 x.f6.length c5) (.slice A8 x.f9.length c8)) ?hx2 ?ht planV_one zero39 _ RGx.out.hr ?hf ?_; (case hp => first | rfl | (go_simp; done) | (go_simp; rfl)); (case hx2 => first | rfl | (go_simp; done) | (go_simp; rfl)); (case ht => kernel_rfl); (case hf => rfl); intro wz hb hg; have XZ := Aside0.mk hb; have RZ := Aside0.mk (RdW.grown (RD.out.less (c' := c) (by omega)) hg (by intro e; injection e with e; have := RGx.out.h1; have := RGx.out.hg; omega) (fun k e => by injection e with e; rw [← e]; exact GB.out)); have KZ := Aside0.mk (KeepBut.put RGx.out.kb hg RGx.out.h1); have OZ := Aside0.mk (PXx.out.grown hg GQ.out (by have := GX.out; omega)).own; clear hb hg RGx PXx))
    exact bodyPost_ret (results_cell_row rfl _ _ gr _ _ _ _ rfl XZ.out Tryz.underlying39 rfl (by kernel_rfl)) rfl ⟨⟨_, _, rfl, OZ.out, SZx.out, SMx.out⟩, RZ.out, KZ.out⟩
  · clear hv hv8 PE0
    go_wp2_with (first
      | ((with_reducible refine gate_dst (N := 24) rfl ?_); refine Kd.R_lit (Kd.int .i64) _ 3 ?hg (N := 24) ?hd (xs := ([(-1), 6, 1] : List Int)) (inner := [.int .i64 (-1), .int .i64 6, .int .i64 1]) (ok := fun k => k ≠ g) (okp := fun k => k ≠ g) ?hr ?hp (fun _ hk => hk) (Nat.ne_of_gt RC.out.lt) (Below.refl _ _) (Nat.le_refl _) (by simp) ?_; (case hd => rfl); (case hg => rfl); (case hr => first | (go_simp; done) | (go_simp; rfl)); (case hp => exact (Reps.one (show Kd.M (Kd.int .i64) _ _ _ (-1) [.int .i64 (-1)] from rfl) (Reps.one (show Kd.M (Kd.int .i64) _ _ _ 6 [.int .i64 6] from rfl) (Reps.one (show Kd.M (Kd.int .i64) _ _ _ 1 [.int .i64 1] from rfl) (Reps.none _ _))))); intro v0 wq ho hB hg_ hnew_; obtain ⟨A0, m0, rfl, hc, hr⟩ := Kd.R_reads ho; have HC24 := Aside0.mk hc; have HR0 := Aside0.mk hr; have HF0 := Aside0.mk (show ∀ ad, A0 = some ad → 0 < ([(-1), 6, 1] : List Int).length → ad.block ≠ g from fun ad e _ => ho.1 ad.block (by rw [e]; rfl)); have RGx_ := Aside0.mk (RGx.out.below hB); have PEx_ := Aside0.mk (PEx.out.below hB); have RC_ := Aside0.mk (RC.out.below hB); clear RGx PEx RC; have RGx := RGx_; have PEx := PEx_; have RC := RC_; clear RGx_ PEx_ RC_; clear ho hg_ hnew_ hc hr hB)
      | (go_at_call 45; refine (num_c RC.out A0 m0 ([(-1), 6, 1] : List Int) (by simp) HR0.out HC24.out HF0.out).mono ?_; rintro e wq ⟨⟨n1, rfl⟩, hRD, hk⟩; have RD := Aside0.mk hRD; clear RC hRD HR0 HC24 HF0; have RGx_ := Aside0.mk (RGx.out.keep hk); have PEx_ := Aside0.mk (PEx.out.keep hk GL.out BG.out); clear RGx PEx; have RGx := RGx_; have PEx := PEx_; clear RGx_ PEx_; clear hk)
      | ((with_reducible refine gate_ (.store 3 (.tmp 26) (.tmp 25)) rfl ?_); obtain ⟨x, v12, v15, v18, hP, hz, hs, l3, l6⟩ := PEx.out; refine store_ 3 (.tmp 26) (.tmp 25) rfl rfl rfl bx 13 ?hp (.int .i64 n1) ?hx [.int .i64 n1] ?hu ?ht ?h1 (planV x v12 v15 v18) _ hP.hp ?hf ?_; (case hp => first | rfl | (go_simp; done) | (go_simp; rfl)); (case hx => first | rfl | (go_simp; done) | (go_simp; rfl)); (case hu => rfl); (case ht => kernel_rfl); (case h1 => simp [Value.oneCell']); (case hf => simp [planV]); intro wq hb hg; clear PEx; have PEx := Aside0.mk (show PE w.heap.size lo bx 30 20 wq from PE.setI (x' := ⟨x.f0, x.f1, x.f2, x.f3, n1, x.f5, x.f6, x.f7, x.f8, x.f9⟩) hP hz hs l3 l6 hg hb rfl rfl rfl); have RGx_ := Aside0.mk (RGx.out.row hg (fun k e => by injection e with e; have := GX.out; omega)); have RD_ := Aside0.mk (RD.out.grown hg (by intro e; injection e with e; exact BG.out e.symm) (fun k e => by injection e with e; have := GB.out; have := GX.out; omega)); clear RGx RD; have RGx := RGx_; have RD := RD_; clear RGx_ RD_; clear hb hg hP hz hs l3 l6)
      | ((with_reducible refine gate_dst (N := 62) rfl ?_); obtain ⟨x, v12, v15, v18, hP, hz, hs, l3, l6⟩ := PEx.out; obtain ⟨A2, c2, rfl⟩ := Kd.R_slice hP.r12; obtain ⟨A5, c5, rfl⟩ := Kd.R_slice hP.r15; obtain ⟨A8, c8, rfl⟩ := Kd.R_slice hP.r18; have PXx := Aside0.mk hP; have SZx := Aside0.mk hz; have SMx := Aside0.mk hs; refine loadVar_ 39 (.tmp 3) rfl rfl bx ?hx (planV x (.slice A2 x.f3.length c2) (.slice A5 x.f6.length c5) (.slice A8 x.f9.length c8)) _ Tryz.underlying39 ?hi _ PXx.out.hp ?_; (case hx => first | rfl | (go_simp; done) | (go_simp; rfl)); (case hi => kernel_rfl); clear hP hz hs l3 l6 PEx)
      | ((with_reducible refine gate_ (.store 39 (.tmp 2) (.tmp 62)) rfl ?_); refine storeAll_ 39 (.tmp 2) (.tmp 62) rfl rfl rfl gr ?hp (planV x (.slice A2 x.f3.length c2) (.slice A5 x.f6.length c5) (.slice A8 x.f9.length c8)) ?hx2 ?ht planV_one zero39 _ RGx.out.hr ?hf ?_; (case hp => first | rfl | (go_simp; done) | (go_simp; rfl)); (case hx2 => first | rfl | (go_simp; done) | (go_simp; rfl)); (case ht => kernel_rfl); (case hf => rfl); intro wz hb hg; have XZ := Aside0.mk hb; have RZ := Aside0.mk (RdW.grown (RD.out.less (c' := c) (by omega)) hg (by intro e; injection e with e; have := RGx.out.h1; have := RGx.out.hg; omega) (fun k e => by injection e with e; rw [← e]; exact GB.out)); have KZ := Aside0.mk (KeepBut.put RGx.out.kb hg RGx.out.h1); have OZ := Aside0.mk (PXx.out.grown hg GQ.out (by have := GX.out; omega)).own; clear hb hg RGx PXx))
    exact bodyPost_ret (results_cell_row rfl _ _ gr _ _ _ _ rfl XZ.out Tryz.underlying39 rfl (by kernel_rfl)) rfl ⟨⟨_, _, rfl, OZ.out, SZx.out, SMx.out⟩, RZ.out, KZ.out⟩
  · clear hv hv8 PEx
    obtain ⟨x, v12, v15, v18, hP, hz, hs, l3, l6⟩ := PE0.out
    have PXx := Aside0.mk hP
    have SZx := Aside0.mk (show sz39 x ≤ 30 by omega)
    have SMx := Aside0.mk hs
    have T3 := Aside0.mk l3
    have T6 := Aside0.mk l6
    clear PE0 hP hz hs l3 l6
    go_wp2
    have RD := Aside0.mk (RC.out.drew)
    refine start_ (n := 10) (S := fun W => RG w g gr W ∧ PX w.heap.size lo bx x v12 v15 v18 W ∧ W.cell? ⟨bx, 15, none⟩ = some v15) (ds := [7, 9]) (zm 10 0) (by kernel_rfl) rfl rfl (⟨RGx.out.drew, PXx.out.drew, PXx.out.drew.c15⟩) (fun hHeld => ?_)
    refine zpk 0 29 10 1 ?_
    refine ztk 1 30 10 3 ?_
    refine zpk 2 31 10 7 ?_
    refine zpk 4 33 10 23 ?_
    refine one_ (i := 3) (N := some 32) (zm 10 31) rfl rfl (by kernel_rfl) (by decide) (fun K hK => ?_)
    refine goes_ Tryz.func33 (by kernel_rfl) rfl #[.pointer (some ⟨g, 0, none⟩), .int .i64 2] (by rfl) rfl rfl (by simp only [List.map_toArray, List.map_cons, List.map_nil]; rfl) ?_
    refine (pick_c RD.out _).mono ?_
    rintro e we ⟨⟨k1, rfl, _⟩, hRD, hk⟩
    refine ⟨_, rfl, ?_⟩
    have RD := Aside0.mk hRD
    refine hK.out _ _ (⟨hHeld.1.keep hk, hHeld.2.1.keep hk GL.out BG.out, (hHeld.2.1.keep hk GL.out BG.out).c15⟩) (fun hHeld => ?_)
    clear hK K
    refine znk (N := some 32) ?_
    refine one_ (i := 5) (N := some 34) (zm 10 63) rfl rfl (by kernel_rfl) (by decide) (fun K hK => ?_)
    refine goes_ Tryz.func33 (by kernel_rfl) rfl #[.pointer (some ⟨g, 0, none⟩), .int .i64 2] (by rfl) rfl rfl (by simp only [List.map_toArray, List.map_cons, List.map_nil]; rfl) ?_
    refine (pick_c RD.out _).mono ?_
    rintro e we ⟨⟨k2, rfl, _⟩, hRD, hk⟩
    refine ⟨_, rfl, ?_⟩
    have RD := Aside0.mk hRD
    refine hK.out _ _ (⟨hHeld.1.keep hk, hHeld.2.1.keep hk GL.out BG.out, (hHeld.2.1.keep hk GL.out BG.out).c15⟩) (fun hHeld => ?_)
    clear hK K
    refine znk (N := some 34) ?_
    refine one_ (i := 6) (N := some 35) (zm 10 127) rfl rfl (by kernel_rfl) (by decide) (fun K hK => ?_)
    refine Kd.R_lit_step (Kd.int .i64) (w0 := we) we.heap.size 3 (by rfl) (N := 35) rfl (xs := [k1, k2]) (inner := [.int .i64 k1, .int .i64 k2]) (ok := fun _ => True) (okp := fun _ => True) (by first | (go_simp; done) | (go_simp; rfl)) (Reps.one (show Kd.M (Kd.int .i64) _ _ _ k1 [.int .i64 k1] from rfl) (Reps.one (show Kd.M (Kd.int .i64) _ _ _ k2 [.int .i64 k2] from rfl) (Reps.none _ _))) (fun _ h => h) trivial (Below.refl _ _) (Nat.le_refl _) (by simp) ?_
    intro vL wl hoL hBa hgL hnewL
    obtain ⟨A5, c5, rfl, hcL, hrL⟩ := Kd.R_reads hoL
    have RD := Aside0.mk (RD.out.below hBa)
    have S0 : RG w g gr wl ∧ PX w.heap.size lo bx x v12 v15 v18 wl ∧ wl.cell? ⟨bx, 15, none⟩ = some v15 := ⟨hHeld.1.below hBa, hHeld.2.1.below hBa, (hHeld.2.1.below hBa).c15⟩
    refine hK.out _ _ (S0) (fun hHeld => ?_)
    clear hK K
    refine znk (N := some 35) ?_
    refine last_ (i := 7) (N := some 36) (zm 10 255) rfl rfl (by kernel_rfl) (by decide) (fun K hK => ?_)
    refine Kd.R_append_rows_step (Kd.int .i64) (w0 := wl) w.heap.size (by rfl) (.tmp 30) (.tmp 35) 27 3 _ _ rfl Tryz.underlying27 info3 rfl (by decide) (by decide) v15 x.f6 [k1, k2] A5 _ c5 (fun k => lo ≤ k ∧ k ≠ bx) (fun _ => False) (by rfl) (by rfl) S0.2.1.r15 hrL (fun _ _ h => h) (fun _ h => h.elim) (fun k hk => ⟨by have h1 := blk_lt S0.2.1.hp; have h2 := LB_.out; omega, by have h1 := blk_lt S0.2.1.hp; omega⟩) (Below.refl _ _) (Nat.le_trans (by have h1 := S0.1.h1; have h2 := GX.out; omega) (Nat.le_of_lt (blk_lt S0.2.1.hp))) (by have := T6.out; simp; omega) ?_
    intro v1 wf ho hBf hgf hat
    obtain ⟨A8, c8, rfl⟩ := Kd.R_slice ho
    refine hK.out _ _ ?_
    clear hK K
    refine znk (N := some 36) ?_
    refine zpk 8 37 10 511 ?_
    refine last_ (i := 9) (N := none) (zm 10 1023) rfl rfl (by kernel_rfl) (by decide) (fun K hK => ?_)
    refine store_step 27 (.tmp 37) (.tmp 36) rfl rfl (by rfl) bx 15 (by rfl) (.slice A8 (x.f6 ++ [k1, k2]).length c8) (by rfl) [.slice A8 (x.f6 ++ [k1, k2]).length c8] rfl (by kernel_rfl) (by simp [Value.oneCell']) (planV x v12 v15 v18) _ (S0.2.1.blk15 hgf) (by simp [planV]) ?_
    intro wh hb hg
    have RGn := Aside0.mk ((S0.1.row hgf (fun k e => by have h1 := (S0.2.1.r15.1 k e).1; have h2 := GQ.out; omega)).row hg (fun k e => by injection e with e; have h2 := GX.out; omega))
    have PEx := Aside0.mk (show PE w.heap.size lo bx 30 20 wh from ⟨_, _, _, _, PX.set15 S0.2.1 ho hgf hat hg hb, Nat.le_trans (Nat.le_of_eq (sz_same (x := x) rfl)) SZx.out, small_kids (by simp; have := T3.out; omega) (by simp; have := T6.out; omega) (by have := len_szs x.f9; have := sz39_kids x; have := SZx.out; show x.f9.length ≤ 1000; omega) (fun y hy => SMx.out.out.2.2.2 y hy), by simp; have := T3.out; omega, by simp; have := T6.out; omega⟩)
    have RDn := Aside0.mk (RdW.grown (RdW.grown RD.out hgf (by intro e; have h1 := (S0.2.1.r15.1 _ e.symm).1; have h2 := GL.out; omega) (fun k e => by have h1 := (S0.2.1.r15.1 k e).1; have h2 := GQ.out; have h3 := GB.out; omega)) hg (by intro e; injection e with e; exact BG.out e.symm) (fun k e => by injection e with e; have := GB.out; have := GX.out; omega))
    refine hK.out _ _ ?_
    refine done_ (by kernel_rfl) ?_
    clear hHeld hK K hb hg hat hgf hBf ho S0 hBa PXx RD RC RGx SZx SMx T3 T6
    have RGx := RGn
    clear RGn
    go_wp2_with (first
      | ((with_reducible refine gate_dst (N := 62) rfl ?_); obtain ⟨x, v12, v15, v18, hP, hz, hs, l3, l6⟩ := PEx.out; obtain ⟨A2, c2, rfl⟩ := Kd.R_slice hP.r12; obtain ⟨A5, c5, rfl⟩ := Kd.R_slice hP.r15; obtain ⟨A8, c8, rfl⟩ := Kd.R_slice hP.r18; have PXx := Aside0.mk hP; have SZx := Aside0.mk hz; have SMx := Aside0.mk hs; refine loadVar_ 39 (.tmp 3) rfl rfl bx ?hx (planV x (.slice A2 x.f3.length c2) (.slice A5 x.f6.length c5) (.slice A8 x.f9.length c8)) _ Tryz.underlying39 ?hi _ PXx.out.hp ?_; (case hx => first | rfl | (go_simp; done) | (go_simp; rfl)); (case hi => kernel_rfl); clear hP hz hs l3 l6 PEx)
      | ((with_reducible refine gate_ (.store 39 (.tmp 2) (.tmp 62)) rfl ?_); refine storeAll_ 39 (.tmp 2) (.tmp 62) rfl rfl rfl gr ?hp (planV x (.slice A2 x.f3.length c2) (.slice A5 x.f6.length c5) (.slice A8 x.f9.length c8)) ?hx2 ?ht planV_one zero39 _ RGx.out.hr ?hf ?_; (case hp => first | rfl | (go_simp; done) | (go_simp; rfl)); (case hx2 => first | rfl | (go_simp; done) | (go_simp; rfl)); (case ht => kernel_rfl); (case hf => rfl); intro wz hb hg; have XZ := Aside0.mk hb; have RZ := Aside0.mk (RdW.grown (RDn.out.less (c' := c) (by omega)) hg (by intro e; injection e with e; have := RGx.out.h1; have := RGx.out.hg; omega) (fun k e => by injection e with e; rw [← e]; exact GB.out)); have KZ := Aside0.mk (KeepBut.put RGx.out.kb hg RGx.out.h1); have OZ := Aside0.mk (PXx.out.grown hg GQ.out (by have := GX.out; omega)).own; clear hb hg RGx PXx))
    exact bodyPost_ret (results_cell_row rfl _ _ gr _ _ _ _ rfl XZ.out Tryz.underlying39 rfl (by kernel_rfl)) rfl ⟨⟨_, _, rfl, OZ.out, SZx.out, SMx.out⟩, RZ.out, KZ.out⟩
  · clear hv hv8 PE0
    go_wp2_with (first
      | ((with_reducible refine gate_dst (N := 41) rfl ?_); refine Kd.R_lit (Kd.int .i64) _ 3 ?hg (N := 41) ?hd (xs := ([(-1), 4, 1] : List Int)) (inner := [.int .i64 (-1), .int .i64 4, .int .i64 1]) (ok := fun k => k ≠ g) (okp := fun k => k ≠ g) ?hr ?hp (fun _ hk => hk) (Nat.ne_of_gt RC.out.lt) (Below.refl _ _) (Nat.le_refl _) (by simp) ?_; (case hd => rfl); (case hg => rfl); (case hr => first | (go_simp; done) | (go_simp; rfl)); (case hp => exact (Reps.one (show Kd.M (Kd.int .i64) _ _ _ (-1) [.int .i64 (-1)] from rfl) (Reps.one (show Kd.M (Kd.int .i64) _ _ _ 4 [.int .i64 4] from rfl) (Reps.one (show Kd.M (Kd.int .i64) _ _ _ 1 [.int .i64 1] from rfl) (Reps.none _ _))))); intro v0 wq ho hB hg_ hnew_; obtain ⟨A0, m0, rfl, hc, hr⟩ := Kd.R_reads ho; have HC41 := Aside0.mk hc; have HR0 := Aside0.mk hr; have HF0 := Aside0.mk (show ∀ ad, A0 = some ad → 0 < ([(-1), 4, 1] : List Int).length → ad.block ≠ g from fun ad e _ => ho.1 ad.block (by rw [e]; rfl)); have RGx_ := Aside0.mk (RGx.out.below hB); have PEx_ := Aside0.mk (PEx.out.below hB); have RC_ := Aside0.mk (RC.out.below hB); clear RGx PEx RC; have RGx := RGx_; have PEx := PEx_; have RC := RC_; clear RGx_ PEx_ RC_; clear ho hg_ hnew_ hc hr hB)
      | (go_at_call 45; refine (num_c RC.out A0 m0 ([(-1), 4, 1] : List Int) (by simp) HR0.out HC41.out HF0.out).mono ?_; rintro e wq ⟨⟨n1, rfl⟩, hRD, hk⟩; have RD := Aside0.mk hRD; clear RC hRD HR0 HC41 HF0; have RGx_ := Aside0.mk (RGx.out.keep hk); have PEx_ := Aside0.mk (PEx.out.keep hk GL.out BG.out); clear RGx PEx; have RGx := RGx_; have PEx := PEx_; clear RGx_ PEx_; clear hk)
      | ((with_reducible refine gate_ (.store 3 (.tmp 43) (.tmp 42)) rfl ?_); obtain ⟨x, v12, v15, v18, hP, hz, hs, l3, l6⟩ := PEx.out; refine store_ 3 (.tmp 43) (.tmp 42) rfl rfl rfl bx 16 ?hp (.int .i64 n1) ?hx [.int .i64 n1] ?hu ?ht ?h1 (planV x v12 v15 v18) _ hP.hp ?hf ?_; (case hp => first | rfl | (go_simp; done) | (go_simp; rfl)); (case hx => first | rfl | (go_simp; done) | (go_simp; rfl)); (case hu => rfl); (case ht => kernel_rfl); (case h1 => simp [Value.oneCell']); (case hf => simp [planV]); intro wq hb hg; clear PEx; have PEx := Aside0.mk (show PE w.heap.size lo bx 30 20 wq from PE.setI (x' := ⟨x.f0, x.f1, x.f2, x.f3, x.f4, x.f5, x.f6, n1, x.f8, x.f9⟩) hP hz hs l3 l6 hg hb rfl rfl rfl); have RGx_ := Aside0.mk (RGx.out.row hg (fun k e => by injection e with e; have := GX.out; omega)); have RD_ := Aside0.mk (RD.out.grown hg (by intro e; injection e with e; exact BG.out e.symm) (fun k e => by injection e with e; have := GB.out; have := GX.out; omega)); clear RGx RD; have RGx := RGx_; have RD := RD_; clear RGx_ RD_; clear hb hg hP hz hs l3 l6)
      | ((with_reducible refine gate_dst (N := 62) rfl ?_); obtain ⟨x, v12, v15, v18, hP, hz, hs, l3, l6⟩ := PEx.out; obtain ⟨A2, c2, rfl⟩ := Kd.R_slice hP.r12; obtain ⟨A5, c5, rfl⟩ := Kd.R_slice hP.r15; obtain ⟨A8, c8, rfl⟩ := Kd.R_slice hP.r18; have PXx := Aside0.mk hP; have SZx := Aside0.mk hz; have SMx := Aside0.mk hs; refine loadVar_ 39 (.tmp 3) rfl rfl bx ?hx (planV x (.slice A2 x.f3.length c2) (.slice A5 x.f6.length c5) (.slice A8 x.f9.length c8)) _ Tryz.underlying39 ?hi _ PXx.out.hp ?_; (case hx => first | rfl | (go_simp; done) | (go_simp; rfl)); (case hi => kernel_rfl); clear hP hz hs l3 l6 PEx)
      | ((with_reducible refine gate_ (.store 39 (.tmp 2) (.tmp 62)) rfl ?_); refine storeAll_ 39 (.tmp 2) (.tmp 62) rfl rfl rfl gr ?hp (planV x (.slice A2 x.f3.length c2) (.slice A5 x.f6.length c5) (.slice A8 x.f9.length c8)) ?hx2 ?ht planV_one zero39 _ RGx.out.hr ?hf ?_; (case hp => first | rfl | (go_simp; done) | (go_simp; rfl)); (case hx2 => first | rfl | (go_simp; done) | (go_simp; rfl)); (case ht => kernel_rfl); (case hf => rfl); intro wz hb hg; have XZ := Aside0.mk hb; have RZ := Aside0.mk (RdW.grown (RD.out.less (c' := c) (by omega)) hg (by intro e; injection e with e; have := RGx.out.h1; have := RGx.out.hg; omega) (fun k e => by injection e with e; rw [← e]; exact GB.out)); have KZ := Aside0.mk (KeepBut.put RGx.out.kb hg RGx.out.h1); have OZ := Aside0.mk (PXx.out.grown hg GQ.out (by have := GX.out; omega)).own; clear hb hg RGx PXx))
    exact bodyPost_ret (results_cell_row rfl _ _ gr _ _ _ _ rfl XZ.out Tryz.underlying39 rfl (by kernel_rfl)) rfl ⟨⟨_, _, rfl, OZ.out, SZx.out, SMx.out⟩, RZ.out, KZ.out⟩
  · clear hv hv8 PEx
    have PEq := Aside0.mk (show PE w.heap.size lo bx (15 + 0) 10 wu from PE0.out)
    clear PE0
    go_wp2
    go_loopw [4] (fun v4 wr => ∃ (i : Nat), v4 = .int .i64 i ∧ i ≤ 6 ∧ Aside0 (RG w g gr wr) ∧ Aside0 (RdW w0 g b c wr) ∧ Aside0 (PE w.heap.size lo bx (15 + i) 10 wr)) (fun v4 _ => 6 - (intOf v4).toNat)
    · exact ⟨0, rfl, Nat.zero_le _, RGx, ⟨RC.out.less (by omega)⟩, PEq⟩
    · clear RGx RC PEq
      obtain ⟨i, rfl, hi, RGx, RDx, PEi⟩ := hrel
      by_cases hlt : i < 6
      · obtain ⟨x, v12, v15, v18, hP, hz, hs, l3, l6⟩ := PEi.out
        obtain ⟨A2, c2, rfl⟩ := Kd.R_slice hP.r12
        obtain ⟨A5, c5, rfl⟩ := Kd.R_slice hP.r15
        obtain ⟨A8, c8, rfl⟩ := Kd.R_slice hP.r18
        have PXx := Aside0.mk hP
        have SZx := Aside0.mk hz
        have SMx := Aside0.mk hs
        clear PEi hP hz hs l3 l6
        go_wp2_with (first
          | ((with_reducible refine gate_dst (N := 50) rfl ?_); refine loadVar_ 39 (.tmp 3) rfl rfl bx ?hx (planV x (.slice A2 x.f3.length c2) (.slice A5 x.f6.length c5) (.slice A8 x.f9.length c8)) _ Tryz.underlying39 ?hi _ PXx.out.hp ?_; (case hx => first | rfl | (go_simp; done) | (go_simp; rfl)); (case hi => kernel_rfl))
              | ((with_reducible refine gate_dst (N := 51) rfl ?_); refine Kd.R_lit k39 (w0 := wr) w.heap.size 39 ?hg (N := 51) ?hd (xs := [x]) (inner := planV x (.slice A2 x.f3.length c2) (.slice A5 x.f6.length c5) (.slice A8 x.f9.length c8)) (ok := fun k => lo ≤ k ∧ k ≠ bx) (okp := fun k => lo ≤ k ∧ k ≠ bx) ?hr (reps_one rfl PXx.out.M) (fun _ h => h) ⟨by have h1 := blk_lt PXx.out.hp; have h2 := LB_.out; omega, Nat.ne_of_gt (blk_lt PXx.out.hp)⟩ (Below.refl _ _) (Nat.le_trans (by have h1 := RGx.out.h1; have h2 := GX.out; omega) (Nat.le_of_lt (blk_lt PXx.out.hp))) (by simp) ?_; (case hd => rfl); (case hg => rfl); (case hr => exact exec_lit1 37 39 (.tmp 50) rfl Tryz.underlying37 _ 19 200 info39 (by decide) (by decide) _ rfl (by first | rfl | (go_simp; done) | (go_simp; rfl))); intro vL wq ho hB hg hnew; obtain ⟨A4, c4, rfl⟩ := Kd.R_slice ho; have RS := Aside0.mk ho; have RGx_ := Aside0.mk (RGx.out.row hg (fun k e => by cases e)); have PXx_ := Aside0.mk (PXx.out.fresh hg); have RDx_ := Aside0.mk (RDx.out.grown hg (by intro e; cases e) (fun k e => by cases e)); clear RGx PXx RDx; have RGx := RGx_; have PXx := PXx_; have RDx := RDx_; clear RGx_ PXx_ RDx_; clear ho hB hg hnew)
              | ((with_reducible refine gate_dst (N := 52) rfl ?_); refine build_ 39 _ rfl rfl #[(0, .int .i64 6), (9, .slice A4 1 c4)] ?hvs (.agg (planV (⟨6, 0, zeroT, [], 0, 0, [], 0, 0, [x]⟩ : S39) (.slice none 0 0) (.slice none 0 0) (.slice A4 1 c4)).toArray) ?hrun ?_; (case hvs => first | rfl | (go_simp; done) | (go_simp; rfl)); (case hrun => intro W; kernel_rfl))
              | ((with_reducible refine gate_ (.store 39 (.tmp 3) (.tmp 52)) rfl ?_); refine storeAll_ 39 (.tmp 3) (.tmp 52) rfl rfl rfl bx ?hp (planV (⟨6, 0, zeroT, [], 0, 0, [], 0, 0, [x]⟩ : S39) (.slice none 0 0) (.slice none 0 0) (.slice A4 1 c4)) ?hx2 ?ht planV_one _ _ PXx.out.hp ?hf ?_; (case hp => first | rfl | (go_simp; done) | (go_simp; rfl)); (case hx2 => first | rfl | (go_simp; done) | (go_simp; rfl)); (case ht => kernel_rfl); (case hf => rfl); intro wq hb hg; have PEn := Aside0.mk (show PE w.heap.size lo bx (15 + (i + 1)) 10 wq from ⟨(⟨6, 0, zeroT, [], 0, 0, [], 0, 0, [x]⟩ : S39), _, _, _, ⟨hb, Kd.R_nil _ _ _ _ _, Kd.R_nil _ _ _ _ _, Kd.R_mono (R_iv RS.out hg (fun k h => h.2)) (fun k h => ⟨⟨h, by simp [Value.ownBlock]⟩, by simp [Value.ownBlock]⟩)⟩, by rw [sz_one rfl]; have := SZx.out; omega, small_kids (by simp) (by simp) (by simp) (by intro q hq; simp at hq; rw [hq]; exact SMx.out), by simp, by simp⟩); have RGx_ := Aside0.mk (RGx.out.row hg (fun k e => by injection e with e; have := GX.out; omega)); have RDx_ := Aside0.mk (RDx.out.grown hg (by intro e; injection e with e; exact BG.out e.symm) (fun k e => by injection e with e; have := GB.out; have := GX.out; omega)); clear RGx RDx; have RGx := RGx_; have RDx := RDx_; clear RGx_ RDx_; clear PXx RS hb hg))
        go_roundw
        case rel => exact ⟨i + 1, by go_num, by omega, RGx, RDx, PEn⟩
        case measure => simp [intOf]; omega
      · have PEx := Aside0.mk (show PE w.heap.size lo bx 30 20 wr from by obtain ⟨x, a1, a2, a3, h, hz, hs, l3, l6⟩ := PEi.out; exact ⟨x, a1, a2, a3, h, by omega, hs, by omega, by omega⟩)
        clear PEi
        go_wp2_with (first
          | ((with_reducible refine gate_dst (N := 62) rfl ?_); obtain ⟨x, v12, v15, v18, hP, hz, hs, l3, l6⟩ := PEx.out; obtain ⟨A2, c2, rfl⟩ := Kd.R_slice hP.r12; obtain ⟨A5, c5, rfl⟩ := Kd.R_slice hP.r15; obtain ⟨A8, c8, rfl⟩ := Kd.R_slice hP.r18; have PXx := Aside0.mk hP; have SZx := Aside0.mk hz; have SMx := Aside0.mk hs; refine loadVar_ 39 (.tmp 3) rfl rfl bx ?hx (planV x (.slice A2 x.f3.length c2) (.slice A5 x.f6.length c5) (.slice A8 x.f9.length c8)) _ Tryz.underlying39 ?hi _ PXx.out.hp ?_; (case hx => first | rfl | (go_simp; done) | (go_simp; rfl)); (case hi => kernel_rfl); clear hP hz hs l3 l6 PEx)
              | ((with_reducible refine gate_ (.store 39 (.tmp 2) (.tmp 62)) rfl ?_); refine storeAll_ 39 (.tmp 2) (.tmp 62) rfl rfl rfl gr ?hp (planV x (.slice A2 x.f3.length c2) (.slice A5 x.f6.length c5) (.slice A8 x.f9.length c8)) ?hx2 ?ht planV_one zero39 _ RGx.out.hr ?hf ?_; (case hp => first | rfl | (go_simp; done) | (go_simp; rfl)); (case hx2 => first | rfl | (go_simp; done) | (go_simp; rfl)); (case ht => kernel_rfl); (case hf => rfl); intro wz hb hg; have XZ := Aside0.mk hb; have RZ := Aside0.mk (RdW.grown (RDx.out.less (c' := c) (by omega)) hg (by intro e; injection e with e; have := RGx.out.h1; have := RGx.out.hg; omega) (fun k e => by injection e with e; rw [← e]; exact GB.out)); have KZ := Aside0.mk (KeepBut.put RGx.out.kb hg RGx.out.h1); have OZ := Aside0.mk (PXx.out.grown hg GQ.out (by have := GX.out; omega)).own; clear hb hg RGx PXx))
        exact bodyPost_ret (results_cell_row rfl _ _ gr _ _ _ _ rfl XZ.out Tryz.underlying39 rfl (by kernel_rfl)) rfl ⟨⟨_, _, rfl, OZ.out, SZx.out, SMx.out⟩, RZ.out, KZ.out⟩
  · clear hv hv8 PEx
    obtain ⟨x, v12, v15, v18, hP, hz, hs, l3, l6⟩ := PE0.out
    have PXx := Aside0.mk hP
    have SZx := Aside0.mk (show sz39 x ≤ 30 by omega)
    have SMx := Aside0.mk hs
    have T3 := Aside0.mk l3
    have T6 := Aside0.mk l6
    clear PE0 hP hz hs l3 l6
    go_wp2
    have RD := Aside0.mk ((RC.out.less (c' := c + 2 + 5) (by omega)).drew)
    refine start_ (n := 8) (S := fun W => RG w g gr W ∧ PX w.heap.size lo bx x v12 v15 v18 W ∧ W.cell? ⟨bx, 12, none⟩ = some v12) (ds := [5, 7]) (zm 8 0) (by kernel_rfl) rfl rfl (⟨RGx.out.drew, PXx.out.drew, PXx.out.drew.c12⟩) (fun hHeld => ?_)
    refine zpk 0 55 8 1 ?_
    refine ztk 1 56 8 3 ?_
    refine zpk 2 57 8 7 ?_
    refine one_ (i := 3) (N := some 58) (zm 8 15) rfl rfl (by kernel_rfl) (by decide) (fun K hK => ?_)
    refine goes_ Tryz.func46 (by kernel_rfl) rfl #[.pointer (some ⟨g, 0, none⟩), .int .i64 2] (by rfl) rfl rfl (by simp only [List.map_toArray, List.map_cons, List.map_nil]; rfl) ?_
    refine (l3CellBent_c (c := c + 2) RD.out _).mono ?_
    rintro e we ⟨⟨a1, a2, a3, a4, rfl⟩, hRD, hk⟩
    refine ⟨_, rfl, ?_⟩
    have RD := Aside0.mk hRD
    refine hK.out _ _ (⟨hHeld.1.keep hk, hHeld.2.1.keep hk GL.out BG.out, (hHeld.2.1.keep hk GL.out BG.out).c12⟩) (fun hHeld => ?_)
    clear hK K
    refine znk (N := some 58) ?_
    refine one_ (i := 4) (N := some 59) (zm 8 31) rfl rfl (by kernel_rfl) (by decide) (fun K hK => ?_)
    refine event_step (v := .slice (some ⟨we.heap.size, 0, none⟩) 1 1) (w1 := we.alloc (.cells [.int .i64 a1, .int .i64 a2, .int .i64 a3, .int .i64 a4].toArray 33)) (by rfl) (exec_lit1 36 33 (.tmp 58) rfl Tryz.underlying36 _ 4 32 info33 (by decide) (by decide) [.int .i64 a1, .int .i64 a2, .int .i64 a3, .int .i64 a4] rfl (by rfl)) ?_
    have hBa : Below we.heap.size we (we.alloc (.cells [.int .i64 a1, .int .i64 a2, .int .i64 a3, .int .i64 a4].toArray 33)) := below_alloc (Below.refl _ _) _
    have S0 := hHeld
    refine hK.out _ _ (⟨hHeld.1.below hBa, hHeld.2.1.below hBa, (hHeld.2.1.below hBa).c12⟩) (fun hHeld => ?_)
    clear hK K
    refine znk (N := some 59) ?_
    refine last_ (i := 5) (N := some 60) (zm 8 63) rfl rfl (by kernel_rfl) (by decide) (fun K hK => ?_)
    refine Kd.R_append_step k33 (w0 := we) w.heap.size (by rfl) (.tmp 56) (.tmp 59) 36 33 _ _ rfl Tryz.underlying36 info33 rfl (by decide) (by decide) v12 x.f3 (⟨a1, a2, a3, a4⟩ : S33) [.int .i64 a1, .int .i64 a2, .int .i64 a3, .int .i64 a4] (fun k => lo ≤ k ∧ k ≠ bx) (fun _ => False) (by rfl) (by rfl) (k33_mkM _ _ _ ⟨a1, a2, a3, a4⟩) (fun _ h => h.elim) (fun k hk => ⟨by have h1 := blk_lt S0.2.1.hp; have h2 := LB_.out; omega, by have h1 := blk_lt S0.2.1.hp; omega⟩) S0.2.1.r12 (Below.refl _ _) (Nat.le_trans (by have h1 := RGx.out.h1; have h2 := GX.out; omega) (Nat.le_of_lt (blk_lt S0.2.1.hp))) (by have := T3.out; simp; omega) ?_
    intro v1 wf ho hBf hgf hat
    obtain ⟨A8, c8, rfl⟩ := Kd.R_slice ho
    refine hK.out _ _ ?_
    clear hK K
    refine znk (N := some 60) ?_
    refine zpk 6 61 8 127 ?_
    refine last_ (i := 7) (N := none) (zm 8 255) rfl rfl (by kernel_rfl) (by decide) (fun K hK => ?_)
    refine store_step 36 (.tmp 61) (.tmp 60) rfl rfl (by rfl) bx 12 (by rfl) (.slice A8 (x.f3 ++ [(⟨a1, a2, a3, a4⟩ : S33)]).length c8) (by rfl) [.slice A8 (x.f3 ++ [(⟨a1, a2, a3, a4⟩ : S33)]).length c8] rfl (by kernel_rfl) (by simp [Value.oneCell']) (planV x v12 v15 v18) _ (S0.2.1.blk12 hgf) (by simp [planV]) ?_
    intro wh hb hg
    have RGn := Aside0.mk ((S0.1.row hgf (fun k e => by have h1 := (S0.2.1.r12.1 k e).1; have h2 := GQ.out; omega)).row hg (fun k e => by injection e with e; have h2 := GX.out; omega))
    have PEx := Aside0.mk (show PE w.heap.size lo bx 30 20 wh from ⟨_, _, _, _, PX.set12 S0.2.1 ho hgf hat hg hb, Nat.le_trans (Nat.le_of_eq (sz_same (x := x) rfl)) SZx.out, small_kids (by simp; have := T3.out; omega) (by simp; have := T6.out; omega) (by have := len_szs x.f9; have := sz39_kids x; have := SZx.out; show x.f9.length ≤ 1000; omega) (fun y hy => SMx.out.out.2.2.2 y hy), by simp; have := T3.out; omega, by simp; have := T6.out; omega⟩)
    have RDn := Aside0.mk (RdW.grown (RdW.grown RD.out hgf (by intro e; have h1 := (S0.2.1.r12.1 _ e.symm).1; have h2 := GL.out; omega) (fun k e => by have h1 := (S0.2.1.r12.1 k e).1; have h2 := GQ.out; have h3 := GB.out; omega)) hg (by intro e; injection e with e; exact BG.out e.symm) (fun k e => by injection e with e; have := GB.out; have := GX.out; omega))
    refine hK.out _ _ ?_
    refine done_ (by kernel_rfl) ?_
    clear hHeld hK K hb hg hat hgf hBf ho S0 hBa PXx RD RC RGx SZx SMx T3 T6
    have RGx := RGn
    clear RGn
    go_wp2_with (first
      | ((with_reducible refine gate_dst (N := 62) rfl ?_); obtain ⟨x, v12, v15, v18, hP, hz, hs, l3, l6⟩ := PEx.out; obtain ⟨A2, c2, rfl⟩ := Kd.R_slice hP.r12; obtain ⟨A5, c5, rfl⟩ := Kd.R_slice hP.r15; obtain ⟨A8, c8, rfl⟩ := Kd.R_slice hP.r18; have PXx := Aside0.mk hP; have SZx := Aside0.mk hz; have SMx := Aside0.mk hs; refine loadVar_ 39 (.tmp 3) rfl rfl bx ?hx (planV x (.slice A2 x.f3.length c2) (.slice A5 x.f6.length c5) (.slice A8 x.f9.length c8)) _ Tryz.underlying39 ?hi _ PXx.out.hp ?_; (case hx => first | rfl | (go_simp; done) | (go_simp; rfl)); (case hi => kernel_rfl); clear hP hz hs l3 l6 PEx)
      | ((with_reducible refine gate_ (.store 39 (.tmp 2) (.tmp 62)) rfl ?_); refine storeAll_ 39 (.tmp 2) (.tmp 62) rfl rfl rfl gr ?hp (planV x (.slice A2 x.f3.length c2) (.slice A5 x.f6.length c5) (.slice A8 x.f9.length c8)) ?hx2 ?ht planV_one zero39 _ RGx.out.hr ?hf ?_; (case hp => first | rfl | (go_simp; done) | (go_simp; rfl)); (case hx2 => first | rfl | (go_simp; done) | (go_simp; rfl)); (case ht => kernel_rfl); (case hf => rfl); intro wz hb hg; have XZ := Aside0.mk hb; have RZ := Aside0.mk (RdW.grown (RDn.out.less (c' := c) (by omega)) hg (by intro e; injection e with e; have := RGx.out.h1; have := RGx.out.hg; omega) (fun k e => by injection e with e; rw [← e]; exact GB.out)); have KZ := Aside0.mk (KeepBut.put RGx.out.kb hg RGx.out.h1); have OZ := Aside0.mk (PXx.out.grown hg GQ.out (by have := GX.out; omega)).own; clear hb hg RGx PXx))
    exact bodyPost_ret (results_cell_row rfl _ _ gr _ _ _ _ rfl XZ.out Tryz.underlying39 rfl (by kernel_rfl)) rfl ⟨⟨_, _, rfl, OZ.out, SZx.out, SMx.out⟩, RZ.out, KZ.out⟩
  · clear hv PE0
    have b0 : (v == 0) = false := by simp; omega
    have b1 : (v == 1) = false := by simp; omega
    have b2 : (v == 2) = false := by simp; omega
    have b3 : (v == 3) = false := by simp; omega
    have b4 : (v == 4) = false := by simp; omega
    have b5 : (v == 5) = false := by simp; omega
    have b6 : (v == 6) = false := by simp; omega
    clear hv7 hv8
    go_wp2_with (first
      | ((with_reducible refine gate_dst (N := 62) rfl ?_); obtain ⟨x, v12, v15, v18, hP, hz, hs, l3, l6⟩ := PEx.out; obtain ⟨A2, c2, rfl⟩ := Kd.R_slice hP.r12; obtain ⟨A5, c5, rfl⟩ := Kd.R_slice hP.r15; obtain ⟨A8, c8, rfl⟩ := Kd.R_slice hP.r18; have PXx := Aside0.mk hP; have SZx := Aside0.mk hz; have SMx := Aside0.mk hs; refine loadVar_ 39 (.tmp 3) rfl rfl bx ?hx (planV x (.slice A2 x.f3.length c2) (.slice A5 x.f6.length c5) (.slice A8 x.f9.length c8)) _ Tryz.underlying39 ?hi _ PXx.out.hp ?_; (case hx => first | rfl | (go_simp; done) | (go_simp; rfl)); (case hi => kernel_rfl); clear hP hz hs l3 l6 PEx)
      | ((with_reducible refine gate_ (.store 39 (.tmp 2) (.tmp 62)) rfl ?_); refine storeAll_ 39 (.tmp 2) (.tmp 62) rfl rfl rfl gr ?hp (planV x (.slice A2 x.f3.length c2) (.slice A5 x.f6.length c5) (.slice A8 x.f9.length c8)) ?hx2 ?ht planV_one zero39 _ RGx.out.hr ?hf ?_; (case hp => first | rfl | (go_simp; done) | (go_simp; rfl)); (case hx2 => first | rfl | (go_simp; done) | (go_simp; rfl)); (case ht => kernel_rfl); (case hf => rfl); intro wz hb hg; have XZ := Aside0.mk hb; have RZ := Aside0.mk (RdW.grown (RC.out.less (c' := c) (by omega)) hg (by intro e; injection e with e; have := RGx.out.h1; have := RGx.out.hg; omega) (fun k e => by injection e with e; rw [← e]; exact GB.out)); have KZ := Aside0.mk (KeepBut.put RGx.out.kb hg RGx.out.h1); have OZ := Aside0.mk (PXx.out.grown hg GQ.out (by have := GX.out; omega)).own; clear hb hg RGx PXx))
    exact bodyPost_ret (results_cell_row rfl _ _ gr _ _ _ _ rfl XZ.out Tryz.underlying39 rfl (by kernel_rfl)) rfl ⟨⟨_, _, rfl, OZ.out, SZx.out, SMx.out⟩, RZ.out, KZ.out⟩
end Pl
namespace Pl
/-! ### The plain law of FnPlanUses -/
/-- A plan of a table that is not there has no width. -/
theorem uses_wide (n : Int) : ∀ (m : Nat) (x : S39), sz39 x ≤ m → ∀ (t : List Int) (d : Nat), usesF n x = true → (t.length : Int) ≤ n → sWide t x d = -1 := by
  intro m
  induction m with
  | zero => intro x h; have := sz39_kids x; omega
  | succ m ih =>
    intro x hm t d hu hn
    have hk := sz39_kids x
    by_cases hb : d = 0 ∨ kidsN x.f0 ≠ x.f9.length ∨ cleanB x = false
    · exact sWide_no hb
    obtain ⟨d, rfl⟩ : ∃ d', d = d' + 1 := ⟨d - 1, by omega⟩
    rw [usesF_eq] at hu
    by_cases h1 : x.f0 = 1
    · rw [if_pos h1, decide_eq_true_iff] at hu
      cases hs : sWides t x.f9 d with
      | none => exact sWide_none hs
      | some ws =>
        rw [sWide_some (by by_cases h : kidsN x.f0 = x.f9.length; exact h; exact absurd (.inr (.inl h)) hb) (by cases h : cleanB x with | true => rfl | false => exact absurd (.inr (.inr h)) hb) hs]
        refine finB_no (.inl ?_)
        unfold okS
        rw [if_pos h1]
        exact decide_eq_false (by omega)
    · rw [if_neg h1] at hu
      have go : ∀ (ks : List S39), szs39 ks ≤ m → usesFs n ks = true → sWides t ks d = none := by
        intro ks
        induction ks with
        | nil => intro _ h; simp [usesFs] at h
        | cons k ks ihk =>
          intro hs h
          simp only [szs39] at hs
          rw [usesFs, Bool.or_eq_true] at h
          rw [sWides]
          rcases h with h | h
          · rw [ih k (by omega) t d h hn]; rfl
          · rw [ihk (by omega) h]
            split
            · rfl
            · rfl
      exact sWide_none (go x.f9 (by omega) hu)
/-- What a plan that can be written uses, its parts or it itself use. -/
theorem uses_kids {x : S39} (n : Int) (h : sFit x = true) : (isT n x || x.f9.any (fun k => iUses k n)) = iUses x n := by
  have hf := h
  unfold sFit at hf
  rw [Bool.and_eq_true, decide_eq_true_iff] at hf
  have hs := (size_full x).1 (fit_size ((fit_law x).trans h))
  have hk := sz39_kids x
  have hg := hgt_eq x
  have fx := hf.1
  rw [sForm_eq] at fx
  have hb : ¬ ((6 : Nat) = 0 ∨ kidsN x.f0 ≠ x.f9.length ∨ cleanB x = false) := fun hb => by rw [if_pos hb] at fx; cases fx
  rw [if_neg hb, Bool.and_eq_true] at fx
  have go : ∀ (ks : List S39), szs39 ks ≤ 9 → hgts ks ≤ 5 → sForms ks 5 = true → ks.any (fun k => iUses k n) = usesFs n ks := by
    intro ks
    induction ks with
    | nil => intro _ _ _; rfl
    | cons k ks ihk =>
      intro hs1 hs2 hs3
      simp only [szs39] at hs1
      simp only [hgts] at hs2
      rw [sForms, Bool.and_eq_true] at hs3
      rw [List.any_cons, ihk (by omega) (by omega) hs3.2, usesFs]
      have h6 : sForm k 6 = true := by
        have e := ((form_same _ k (Nat.le_refl _) 5 (by omega)).symm).trans (form_same _ k (Nat.le_refl _) 6 (by omega))
        rw [hs3.1] at e
        cases hq : sForm k 6 with
        | true => rfl
        | false => rw [hq] at e; exact absurd e (by decide)
      have hm := many_full _ k (Nat.le_refl _) 6 (by omega)
      rw [uses_law]
      unfold sUses sFit
      rw [h6, hm, decide_eq_true (by omega)]
      rfl
  rw [go x.f9 (by omega) (by omega) fx.2, uses_law]
  unfold sUses
  rw [h, Bool.true_and, usesF_eq]
  unfold isT
  by_cases h1 : x.f0 = 1
  · have h9 : x.f9 = [] := by
      have h : kidsN x.f0 = x.f9.length := by by_cases h : kidsN x.f0 = x.f9.length; exact h; exact absurd (.inr (.inl h)) hb
      rw [h1] at h
      have : (x.f9.length : Int) = 0 := h.symm
      exact List.eq_nil_of_length_eq_zero (by omega)
    rw [if_pos h1, h9, decide_eq_true h1, Bool.true_and]
    exact Bool.or_false _
  · rw [if_neg h1, decide_eq_false h1, Bool.false_and, Bool.false_or]
theorem uses_none {x : S39} {n : Int} (h : iMany x = 0) : iUses x n = false := by
  unfold iUses
  cases hf : fitB x with
  | false => rfl
  | true =>
    exfalso
    have hs := fit_size hf
    unfold iMany at h
    rw [if_pos hf, (goV_full _ x (Nat.le_refl _) 0 0).2 hs] at h
    have := sz39_kids x
    omega
theorem many_fit {x : S39} (h : ¬ iMany x = 0) : sFit x = true := by
  rw [many_law] at h
  unfold sMany at h
  by_cases hf : sFit x = true
  · exact hf
  · rw [if_neg hf] at h; exact absurd rfl h
/-- .. so many tables of two as the plan's table says, and no more than two: no width. -/
theorem uses_no {x : S39} {n : Int} {m : Nat} (h : iUses x n = true) (hn : n ≤ 2) (hm : (m : Int) = max 0 (min n 2)) : iWide x (List.replicate m 2) = -1 := by
  rw [uses_law] at h
  unfold sUses at h
  rw [Bool.and_eq_true] at h
  have hn0 : 0 ≤ n := by
    rcases Int.lt_or_le n 0 with h0 | h0
    · exfalso
      -- a table of a plan that can be written is from 0 to 2
      have key : ∀ (k : Nat) (x : S39), sz39 x ≤ k → ∀ d, sForm x d = true → usesF n x = false := by
        intro k
        induction k with
        | zero => intro x h; have := sz39_kids x; omega
        | succ k ih =>
          intro x hk d hf
          have hx := sz39_kids x
          rw [sForm_eq] at hf
          by_cases hb : d = 0 ∨ kidsN x.f0 ≠ x.f9.length ∨ cleanB x = false
          · rw [if_pos hb] at hf; cases hf
          rw [if_neg hb, Bool.and_eq_true] at hf
          rw [usesF_eq]
          by_cases h1 : x.f0 = 1
          · rw [if_pos h1]
            have ho := hf.1
            unfold fOk at ho
            rw [if_pos h1, Bool.and_eq_true, decide_eq_true_iff, decide_eq_true_iff] at ho
            exact decide_eq_false (by omega)
          · rw [if_neg h1]
            have go : ∀ (ks : List S39), szs39 ks ≤ k → sForms ks (d - 1) = true → usesFs n ks = false := by
              intro ks
              induction ks with
              | nil => intro _ _; rfl
              | cons q ks ihk =>
                intro hs hq
                simp only [szs39] at hs
                rw [sForms, Bool.and_eq_true] at hq
                rw [usesFs, ih q (by omega) _ hq.1, ihk (by omega) hq.2]; rfl
            exact go x.f9 (by omega) hf.2
      have hf := h.1
      unfold sFit at hf
      rw [Bool.and_eq_true] at hf
      have := key _ x (Nat.le_refl _) 6 hf.1
      rw [h.2] at this; cases this
    · exact h0
  rw [wide_law]
  unfold sW
  split
  · rfl
  · exact uses_wide n _ x (Nat.le_refl _) _ 6 h.2 (by simp; omega)
end Pl
namespace Pl
/-- **spec.DrawPlanUses** draws some plan and some number. -/
theorem drawUses_c (A0 : Option Addr) (m0 : Nat) (l : List Int) (w : World) (hr : Kd.C (Kd.int .u8) w A0 l.length l) (hm : l.length ≤ m0) (hl : ∀ x ∈ l, (Lit.int .u8 x).wf = true) :
    Calls Tryz.prog 13 #[.slice A0 l.length m0] w fun e w' => ∃ (x : S39) (cs : List Value) (n : Int), e = .returned (.tuple #[.agg cs.toArray, .int .i64 n]) ∧ k39.K w' x cs ∧ sz39 x ≤ 30 ∧ Small39 x ∧ Below w.heap.size w w' := by
  have HR := Aside0.mk hr
  have HM := Aside0.mk hm
  have HL := Aside0.mk hl
  clear hr hm hl
  go_enter Tryz.func13, Tryz.ntmps13
  go_wp2_with (first
    | ((with_reducible refine gate_dst (N := 2) rfl ?_); refine alloc_ 39 rfl rfl zero39 _ _ info39 ?_; intro gr hg wq hb hB; have XR := Aside0.mk hb; have BL := Aside0.mk hB; have GE := Aside0.mk (show w.heap.size ≤ gr by rw [hg]; exact Nat.le_refl _); clear hb hB hg)
    | (go_at_call 31; refine (open_c A0 m0 l _ (Kd.C_below HR.out BL.out) HM.out HL.out).mono ?_; rintro e wr ⟨g, b, rfl, hRD, hB⟩; have GG := Aside0.mk (show gr < g from Nat.lt_of_lt_of_le (blk_lt XR.out) hRD.ge); have BD := Aside0.mk (show Below wq.heap.size wq wr from hRD.bel); have RD := Aside0.mk (hRD.less (c' := 9 + 310) (by decide)); have GO := Aside0.mk (show w.heap.size ≤ wq.heap.size from BL.out.size); have XR_ := Aside0.mk ((hB.block _ (blk_lt XR.out)).trans XR.out); clear XR; have XR := XR_; clear XR_; clear hRD hB)
    | (go_at_call 32; refine (l4Bent_c RD.out).mono ?_; rintro e ws ⟨⟨x, cs, rfl, hO, hz, hs⟩, hRD, hk⟩; have LT := Aside0.mk RD.out.lt; have OP := Aside0.mk hO; have SZ := Aside0.mk hz; have SM := Aside0.mk hs; have LA := Aside0.mk hO.len; have OA := Aside0.mk hO.one; have RE := Aside0.mk hRD; have XR_ := Aside0.mk (KeepBut.blk hk XR.out (Nat.ne_of_lt GG.out)); clear XR; have XR := XR_; clear XR_; clear RD hO hz hs hRD hk)
    | (go_at_call 33; refine (pick_c RE.out _).mono ?_; rintro e wt ⟨⟨n, rfl, -⟩, hRD, hk⟩; have RF := Aside0.mk hRD; have XR_ := Aside0.mk (KeepBut.blk hk XR.out (Nat.ne_of_lt GG.out)); have OP_ := Aside0.mk (OP.out.keep hk LT.out); clear XR OP; have XR := XR_; have OP := OP_; clear XR_ OP_; clear RE hRD hk)
    | ((with_reducible refine gate_ (.store 39 (.tmp 2) (.tmp 8)) rfl ?_); refine storeAll_ 39 (.tmp 2) (.tmp 8) rfl rfl rfl gr ?hp cs ?hx2 ?ht OA.out zero39 _ XR.out ?hf ?_; (case hp => first | rfl | (go_simp; done) | (go_simp; rfl)); (case hx2 => first | rfl | (go_simp; done) | (go_simp; rfl)); (case ht => rw [LA.out]; kernel_rfl); (case hf => rw [LA.out]; rfl); intro wz hb hg; have XZ := Aside0.mk hb; have OZ := Aside0.mk (OP.out.step (fun k h1 h2 => hg.block k h2 (by intro e; injection e with e; have := LT.out; have := GG.out; omega))); have BZ := Aside0.mk (show Below w.heap.size w wz from ((BL.out.trans (RF.out.bel.mono GO.out)).grown hg (Nat.le_trans GO.out RF.out.bel.size) (fun k e => by injection e with e; rw [← e]; exact GE.out))); clear hb hg XR OP RF))
  exact bodyPost_ret (results_cell_tmp rfl _ _ gr _ _ _ _ rfl XZ.out Tryz.underlying39 rfl (by simp only [List.size_toArray]; rw [LA.out]; kernel_rfl)) rfl ⟨x, cs, n, rfl, k39.K_of_M OZ.out.M, SZ.out, SM.out, BZ.out⟩
end Pl

end Go.Proofs.YtlpgnkndjmfcjaaGreat.PFnPlanUses
