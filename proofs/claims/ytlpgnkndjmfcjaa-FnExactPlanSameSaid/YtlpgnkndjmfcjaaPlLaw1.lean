/- The law FnExactPlanSame returns true for each pair of plans, and leaves what lay in the world as it was. -/
import Derived.Test.YtlpgnkndjmfcjaaPlSp
import Derived.Deep.RegionHeld3
namespace Go.Proofs.Ytlpgnkndjmfcjaa.PFnExactPlanSame
open Go.RowKit Go.Proofs.YtlpgnkndjmfcjaaW.PrintWords Go.Proofs.YtlpgnkndjmfcjaaW.PrintLast Go.Proofs.YtlpgnkndjmfcjaaW.PrintMore
attribute [local go_sem] max2_int min2_int max_two min_two max_three min_three max_four min_four   -- for this text's walks alone
set_option linter.unusedVariables false
set_option linter.unusedSimpArgs false
namespace Pl
/-- The law's walk: the blocks that it keeps. -/
structure LS (w : World) (ga gb : Nat) (ca cb : List Value) (W : World) : Prop where
  hA : W.heap[ga]? = some (.cells ca.toArray 30 (0, 0))
  hB : W.heap[gb]? = some (.cells cb.toArray 30 (0, 0))
  bel : Below w.heap.size w W
theorem LS.call {w : World} {ga gb : Nat} {ca cb : List Value} {W W1 : World} (h : LS w ga gb ca cb W) (hb : Below W.heap.size W W1) : LS w ga gb ca cb W1 :=
  ⟨(hb.block ga (blk_lt h.hA)).trans h.hA, (hb.block gb (blk_lt h.hB)).trans h.hB, below_step h.bel hb⟩
structure LT (w : World) (ga gb gx gy : Nat) (ca cb cx cy : List Value) (W : World) : Prop where
  ls : LS w ga gb ca cb W
  hX : W.heap[gx]? = some (.cells cx.toArray 39 (0, 0))
  hY : W.heap[gy]? = some (.cells cy.toArray 39 (0, 0))
theorem LT.call {w : World} {ga gb gx gy : Nat} {ca cb cx cy : List Value} {W W1 : World} (h : LT w ga gb gx gy ca cb cx cy W) (hb : Below W.heap.size W W1) : LT w ga gb gx gy ca cb cx cy W1 :=
  ⟨h.ls.call hb, (hb.block gx (blk_lt h.hX)).trans h.hX, (hb.block gy (blk_lt h.hY)).trans h.hY⟩
theorem range_ {W : World} {g e : Nat} {cs : List Value} (h : W.heap[g]? = some (.cells cs.toArray e (0, 0))) : W.rangeAt g 0 cs := fun j v hj => by
  rw [Nat.zero_add, blk_cell h]; simpa using hj
/-- What szPlan lets by is small. -/
theorem small_sz : ∀ (n : Nat) (x : S30), sz30 x ≤ n → ∀ left, 0 ≤ left → left ≤ 1048576 → 0 ≤ szF x left → Small30 x := by
  intro n
  induction n with
  | zero => intro x h; have := sz30_kids x; omega
  | succ n ih =>
    intro x hn left h0 h1 hr
    have hk := sz30_kids x
    rw [szF_eq] at hr
    by_cases a : left - (x.f3.length : Int) < 0
    · rw [if_pos a] at hr; omega
    rw [if_neg a] at hr
    by_cases b : left - (x.f3.length : Int) - (x.f6.length : Int) < 0
    · rw [if_pos b] at hr; omega
    rw [if_neg b] at hr
    unfold szSo at hr
    by_cases c : left - (x.f3.length : Int) - (x.f6.length : Int) - (x.f9.length : Int) < 0
    · rw [if_pos c] at hr; omega
    rw [if_neg c] at hr
    have go : ∀ (ks : List S30), szs30 ks ≤ n → ∀ l, 0 ≤ l → l ≤ 1048576 → 0 ≤ szGo ks l → ∀ y ∈ ks, Small30 y := by
      intro ks
      induction ks with
      | nil => intro _ l _ _ _ y hy; cases hy
      | cons k ks ihk =>
        intro hs l h0 h1 hr y hy
        simp only [szs30] at hs
        simp only [szGo] at hr
        by_cases hk : szF k l < 0
        · rw [if_pos hk] at hr; omega
        rw [if_neg hk] at hr
        have hle := szF_le k l h0
        rcases List.mem_cons.1 hy with rfl | hy
        · exact ih _ (by omega) l h0 h1 (by omega)
        · exact ihk (by omega) _ (by omega) (by omega) hr y hy
    exact Small30.mk x (by omega) (by omega) (by omega) (go x.f9 (by omega) _ (by omega) (by omega) hr)
set_option maxHeartbeats 16000000 in
set_option maxRecDepth 100000 in
theorem law_same (x y : S30) (ca cb : List Value) (w : World) (hK : k30.K w x ca) (hK' : k30.K w y cb) (hok : OkP x) (hok' : OkP y) :
    Calls Try.prog 3 #[.agg ca.toArray, .agg cb.toArray] w fun e w' => e = .returned (.bool true) ∧ Below w.heap.size w w' := by
  have LA := Aside0.mk (show ca.length = 19 from k30.K_len hK)
  have LB := Aside0.mk (show cb.length = 19 from k30.K_len hK')
  have KA := Aside0.mk (show k30.K w x ca.toArray.toList from hK)
  have KB := Aside0.mk (show k30.K w y cb.toArray.toList from hK')
  have b1 := szF_le x 1048576 (by omega)
  have B2 := Aside0.mk (fun h => szF_le y (szF x 1048576) h)
  have SX := Aside0.mk (small_sz _ x (Nat.le_refl _) 1048576 (by omega) (by omega))
  have SY := Aside0.mk (small_sz _ y (Nat.le_refl _) (szF x 1048576))
  have C1 := Aside0.mk (fun (w' : World) (hK : k30.K w' x ca.toArray.toList) => szPlan_c x ca.toArray 1048576 w' hK hok (by omega) (by omega))
  have C2 := Aside0.mk (fun (w' : World) (hK : k30.K w' y cb.toArray.toList) h0 h1 => szPlan_c y cb.toArray (szF x 1048576) w' hK hok' h0 h1)
  obtain ⟨r1, hr1⟩ : ∃ r, r = szF x 1048576 := ⟨_, rfl⟩
  rw [← hr1] at b1 B2 SX SY C1 C2
  obtain ⟨r2, hr2⟩ : ∃ r, r = szF y r1 := ⟨_, rfl⟩
  rw [← hr2] at B2 SY C2
  have T0 := Aside0.mk (Below.refl w.heap.size w)
  clear hr1 hr2 hK hK' hok hok'
  go_enter Try.func3, Try.ntmps3
  go_wp2_with (first
    | ((with_reducible refine gate_dst (N := 2) rfl ?_); refine box_ 30 (.tmp 0) rfl rfl ca.toArray rfl ?_; intro ga hga w1 hb1 hB1; have B1 := Aside0.mk (below_step T0.out hB1); have X1 := Aside0.mk hb1; clear hb1 hB1 hga T0)
    | ((with_reducible refine gate_dst (N := 3) rfl ?_); refine box_ 30 (.tmp 1) rfl rfl cb.toArray rfl ?_; intro gb hgb w2 hb2 hB2; have E := Aside0.mk (show LS w ga gb ca cb w2 from ⟨(hB2.block ga (blk_lt X1.out)).trans X1.out, hb2, below_step B1.out hB2⟩); clear hb2 hB2 hgb B1 X1)
    | ((with_reducible refine gate_dst (N := 10) rfl ?_); refine loadVar_ 30 (.tmp 2) rfl rfl ga ?hx ca _ Try.underlying30 ?hi _ E.out.hA ?_; (case hx => first | rfl | (go_simp; done) | (go_simp; rfl)); (case hi => rw [LA.out]; kernel_rfl))
    | (go_at_call 6; refine (C1.out _ (k30.K_below E.out.bel KA.out)).mono ?_; rintro e w3 ⟨rfl, hB⟩; have E2 := Aside0.mk (E.out.call hB); clear E C1 hB; have E := E2; clear E2)
    | ((with_reducible refine gate_dst (N := 15) rfl ?_); refine loadVar_ 30 (.tmp 3) rfl rfl gb ?hx cb _ Try.underlying30 ?hi _ E.out.hB ?_; (case hx => first | rfl | (go_simp; done) | (go_simp; rfl)); (case hi => rw [LB.out]; kernel_rfl))
    | (go_at_call 6; refine (C2.out _ (k30.K_below E.out.bel KB.out) (by omega) (by omega)).mono ?_; rintro e w4 ⟨rfl, hB⟩; have E2 := Aside0.mk (E.out.call hB); have b2 := B2.out (by omega); clear E C2 hB; have E := E2; clear E2))
  · go_ret
    exact ⟨rfl, E.out.bel⟩
  · go_ret
    exact ⟨rfl, E.out.bel⟩
  have sx := Aside0.mk (SX.out (by omega))
  have sy := Aside0.mk (SY.out (by omega) (by omega) (by omega))
  clear SX SY B2 b1 b2
  refine wp_region_held_drew (S := fun W => LS w ga gb ca cb W) (by kernel_rfl) (E.out.call (Below.refl _ _).drew) (fun hHeld => ?_)
  clear E
  refine wpAnyH_take (i := 0) (oi := _) (v := _) rfl (by kernel_rfl) (by kernel_rfl) (by kernel_rfl) (fun _ _ _ h => h) (yieldsIf_load_mid (by rfl) 30 (.tmp 2) rfl ga 0 rfl ca _ (fun W h => range_ h.hA) Try.underlying30 rfl ?hi) hHeld ?_
  case hi => rw [LA.out]; kernel_rfl
  simp only [Act.put, List.setIfInBounds_toArray, List.set_cons_zero, List.set_cons_succ]
  refine wpAnyH_take (i := 2) (oi := _) (v := _) rfl (by kernel_rfl) (by kernel_rfl) (by kernel_rfl) (fun _ _ _ h => h) (yieldsIf_load_mid (by rfl) 30 (.tmp 3) rfl gb 0 rfl cb _ (fun W h => range_ h.hB) Try.underlying30 rfl ?hi) hHeld ?_
  case hi => rw [LB.out]; kernel_rfl
  simp only [Act.put, List.setIfInBounds_toArray, List.set_cons_zero, List.set_cons_succ]
  refine wpAnyH_ready (rs := [1]) (by kernel_rfl) (by simp) ?_
  refine AllReadyH.cons rfl (fun K hK => ?_) AllReadyH.nil
  refine goes_ Try.func8 (by kernel_rfl) rfl #[.agg ca.toArray] (by rfl) rfl rfl (by simp only [List.map_toArray, List.map_cons, List.map_nil]; rfl) ?_
  refine (toPlan_c x ca.toArray _ (k30.K_below hHeld.bel KA.out) sx.out).mono ?_
  rintro e w5 ⟨c1, rfl, hK1, hB⟩
  refine ⟨_, rfl, ?_⟩
  refine hK.out _ _ (hHeld.call hB) (fun hHeld => ?_)
  clear hK K
  simp only [Act.put, List.setIfInBounds_toArray, List.set_cons_zero, List.set_cons_succ]
  have k1 := Aside0.mk hK1; clear hK1
  clear hB
  refine wpAnyH_ready (rs := [3]) (by kernel_rfl) (by simp) ?_
  refine AllReadyH.cons rfl (fun K hK => ?_) AllReadyH.nil
  refine goes_ Try.func8 (by kernel_rfl) rfl #[.agg cb.toArray] (by rfl) rfl rfl (by simp only [List.map_toArray, List.map_cons, List.map_nil]; rfl) ?_
  refine (toPlan_c y cb.toArray _ (k30.K_below hHeld.bel KB.out) sy.out).mono ?_
  rintro e w6 ⟨c2, rfl, hK2, hB⟩
  refine ⟨_, rfl, ?_⟩
  refine hK.out _ _ (hHeld.call hB) (fun hHeld => ?_)
  clear hK K
  simp only [Act.put, List.setIfInBounds_toArray, List.set_cons_zero, List.set_cons_succ]
  have k2 := Aside0.mk hK2; have k1 := Aside0.mk (k39.K_below hB k1.out); clear hK2
  clear hB
  refine wpAnyH_ready (rs := [4]) (by kernel_rfl) (by simp) ?_
  refine AllReadyH.cons rfl (fun K hK => ?_) AllReadyH.nil
  refine goes_ Try.func7 (by kernel_rfl) rfl #[.agg c1.toArray, .agg c2.toArray] (by rfl) rfl rfl (by simp only [List.map_toArray, List.map_cons, List.map_nil]; rfl) ?_
  refine (specPlanSame_c (conv x) (conv y) c1.toArray c2.toArray _ k1.out k2.out (small_conv sx.out) (small_conv sy.out)).mono ?_
  rintro e w7 ⟨rfl, hB⟩
  refine ⟨_, rfl, ?_⟩
  refine hK.out _ _ (hHeld.call hB) (fun hHeld => ?_)
  clear hK K
  simp only [Act.put, List.setIfInBounds_toArray, List.set_cons_zero, List.set_cons_succ]
  clear hB
  refine wpAnyH_take (i := 5) (oi := _) (v := _) rfl (by kernel_rfl) (by kernel_rfl) (by kernel_rfl) (fun _ _ _ h => h) (Or.inl ⟨by rfl, fun W _ => by go_simp; with_reducible rfl⟩) hHeld ?_
  simp only [Act.put, List.setIfInBounds_toArray, List.set_cons_zero, List.set_cons_succ]
  refine wpAnyH_done (by kernel_rfl) ?_ _
  have E := Aside0.mk hHeld
  clear hHeld k1 k2
  obtain ⟨r, hr⟩ : ∃ r, r = same (conv x) (conv y) := ⟨_, rfl⟩
  have RR := Aside0.mk hr
  rw [← hr]
  clear hr
  have TX := Aside0.mk (fun (w' : World) hK => toPlan_c x ca.toArray w' hK sx.out)
  have TY := Aside0.mk (fun (w' : World) hK => toPlan_c y cb.toArray w' hK sy.out)
  have TS := Aside0.mk (fun (w' : World) c1 c2 hK hK' => implPlanSame_c (conv x) (conv y) c1 c2 w' hK hK' (small_conv sx.out))
  go_wp2_with (first
    | ((with_reducible refine gate_dst (N := 25) rfl ?_); refine loadVar_ 30 (.tmp 2) rfl rfl ga ?hx ca _ Try.underlying30 ?hi _ E.out.hA ?_; (case hx => first | rfl | (go_simp; done) | (go_simp; rfl)); (case hi => rw [LA.out]; kernel_rfl))
    | ((with_reducible refine gate_dst (N := 7) rfl ?_); refine alloc_ 39 rfl rfl zero39 _ _ info39 ?_; intro gx hg wa1 hb hB; have BA1 := Aside0.mk hB; have YA1 := Aside0.mk hb; have GA1 := Aside0.mk hg; clear hb hB hg)
    | ((with_reducible refine gate_dst (N := 27) rfl ?_); refine loadVar_ 30 (.tmp 3) rfl rfl gb ?hx cb _ Try.underlying30 ?hi _ E.out.hB ?_; (case hx => first | rfl | (go_simp; done) | (go_simp; rfl)); (case hi => rw [LB.out]; kernel_rfl))
    | ((with_reducible refine gate_dst (N := 8) rfl ?_); refine alloc_ 39 rfl rfl zero39 _ _ info39 ?_; intro gy hg wa2 hb hB; have BA2 := Aside0.mk hB; have YA2 := Aside0.mk hb; have GA2 := Aside0.mk hg; clear hb hB hg)
    | (go_at_call 8; refine (TX.out _ (k30.K_below E.out.bel KA.out)).mono ?_; rintro e wb1 ⟨c3, rfl, hK3, hB⟩; have E2 := Aside0.mk (E.out.call hB); have KX := Aside0.mk (show k39.K wb1 (conv x) c3.toArray.toList from hK3); have LX := Aside0.mk (show c3.length = 19 from k39.K_len hK3); have OX := Aside0.mk (show ∀ q ∈ c3, q.oneCell' = true from k39.K_one hK3); clear E TX hB hK3; have E := E2; clear E2)
    | ((with_reducible refine gate_ (.store 39 (.tmp 7) (.tmp 26)) rfl ?_); refine storeAll_ 39 (.tmp 7) (.tmp 26) rfl rfl rfl gx ?hp c3 ?hx2 ?ht OX.out zero39 _ YA1.out ?hf ?_; (case hp => first | rfl | (go_simp; done) | (go_simp; rfl)); (case hx2 => first | rfl | (go_simp; done) | (go_simp; rfl)); (case ht => rw [LX.out]; kernel_rfl); (case hf => rw [LX.out]; rfl); intro wc1 hb hg; have hB := BA1.out.grown hg BA1.out.size (fun k e => by injection e with e; rw [← e]; exact Nat.le_of_eq GA1.out.symm); have E2 := Aside0.mk (E.out.call hB); have KX2 := Aside0.mk (k39.K_below hB KX.out); have XF := Aside0.mk hb; clear E KX BA1 YA1 GA1 hb hg hB; have E := E2; have KX := KX2; clear E2 KX2)
    | (go_at_call 8; refine (TY.out _ (k30.K_below E.out.bel KB.out)).mono ?_; rintro e wb2 ⟨c4, rfl, hK4, hB⟩; have E2 := Aside0.mk (E.out.call hB); have KX2 := Aside0.mk (k39.K_below hB KX.out); have XF2 := Aside0.mk ((hB.block gx (blk_lt XF.out)).trans XF.out); have KY := Aside0.mk (show k39.K wb2 (conv y) c4.toArray.toList from hK4); have LY := Aside0.mk (show c4.length = 19 from k39.K_len hK4); have OY := Aside0.mk (show ∀ q ∈ c4, q.oneCell' = true from k39.K_one hK4); clear E TY KX XF hB hK4; have E := E2; have KX := KX2; have XF := XF2; clear E2 KX2 XF2)
    | ((with_reducible refine gate_ (.store 39 (.tmp 8) (.tmp 28)) rfl ?_); refine storeAll_ 39 (.tmp 8) (.tmp 28) rfl rfl rfl gy ?hp c4 ?hx2 ?ht OY.out zero39 _ YA2.out ?hf ?_; (case hp => first | rfl | (go_simp; done) | (go_simp; rfl)); (case hx2 => first | rfl | (go_simp; done) | (go_simp; rfl)); (case ht => rw [LY.out]; kernel_rfl); (case hf => rw [LY.out]; rfl); intro wc2 hb hg; have hB := BA2.out.grown hg BA2.out.size (fun k e => by injection e with e; rw [← e]; exact Nat.le_of_eq GA2.out.symm); have F := Aside0.mk (show LT w ga gb gx gy ca cb c3 c4 wc2 from ⟨E.out.call hB, (hB.block gx (blk_lt XF.out)).trans XF.out, hb⟩); have KX2 := Aside0.mk (k39.K_below hB KX.out); have KY2 := Aside0.mk (k39.K_below hB KY.out); clear E XF KX KY BA2 YA2 GA2 hb hg hB; have KX := KX2; have KY := KY2; clear KX2 KY2)
    | ((with_reducible refine gate_dst (N := 29) rfl ?_); refine loadVar_ 39 (.tmp 7) rfl rfl gx ?hx c3 _ Try.underlying39 ?hi _ F.out.hX ?_; (case hx => first | rfl | (go_simp; done) | (go_simp; rfl)); (case hi => rw [LX.out]; kernel_rfl))
    | ((with_reducible refine gate_dst (N := 30) rfl ?_); refine loadVar_ 39 (.tmp 8) rfl rfl gy ?hx c4 _ Try.underlying39 ?hi _ F.out.hY ?_; (case hx => first | rfl | (go_simp; done) | (go_simp; rfl)); (case hi => rw [LY.out]; kernel_rfl))
    | (go_at_call 9; refine (TS.out _ _ _ KX.out KY.out).mono ?_; rintro e wd ⟨rfl, hB⟩; rw [← RR.out]; have F2 := Aside0.mk (F.out.call hB); have KX2 := Aside0.mk (k39.K_below hB KX.out); have KY2 := Aside0.mk (k39.K_below hB KY.out); clear F TS KX KY hB; have F := F2; have KX := KX2; have KY := KY2; clear F2 KX2 KY2))
  refine wp_region_held_drew (S := fun W => LT w ga gb gx gy ca cb c3 c4 W) (by kernel_rfl) (F.out.call (Below.refl _ _).drew) (fun hHeld => ?_)
  have KX2 := Aside0.mk (k39.K_below (Below.refl _ _).drew KX.out); have KY2 := Aside0.mk (k39.K_below (Below.refl _ _).drew KY.out)
  clear F KX KY; have KX := KX2; have KY := KY2; clear KX2 KY2
  refine wpAnyH_take (i := 0) (oi := _) (v := _) rfl (by kernel_rfl) (by kernel_rfl) (by kernel_rfl) (fun _ _ _ h => h) (yieldsIf_load_mid (by rfl) 39 (.tmp 7) rfl gx 0 rfl c3 _ (fun W h => range_ h.hX) Try.underlying39 rfl ?hi) hHeld ?_
  case hi => rw [LX.out]; kernel_rfl
  change wpAnyH _ _ _ _ _ _ _ (Act.put _ (some 35) _) _
  simp only [Act.put, List.setIfInBounds_toArray, List.set_cons_zero, List.set_cons_succ]
  refine wpAnyH_take (i := 1) (oi := _) (v := _) rfl (by kernel_rfl) (by kernel_rfl) (by kernel_rfl) (fun _ _ _ h => h) (yieldsIf_load_mid (by rfl) 30 (.tmp 2) rfl ga 0 rfl ca _ (fun W h => range_ h.ls.hA) Try.underlying30 rfl ?hi) hHeld ?_
  case hi => rw [LA.out]; kernel_rfl
  change wpAnyH _ _ _ _ _ _ _ (Act.put _ (some 36) _) _
  simp only [Act.put, List.setIfInBounds_toArray, List.set_cons_zero, List.set_cons_succ]
  refine wpAnyH_ready (rs := [2]) (by kernel_rfl) (by simp) ?_
  refine AllReadyH.cons rfl (fun K hK => ?_) AllReadyH.nil
  refine goes_ (N := some 37) Try.func8 (by kernel_rfl) rfl #[.agg ca.toArray] (by rfl) rfl rfl (by simp only [List.map_toArray, List.map_cons, List.map_nil]; rfl) ?_
  refine (toPlan_c x ca.toArray _ (k30.K_below hHeld.ls.bel KA.out) sx.out).mono ?_
  rintro e we ⟨c5, rfl, hK5, hB⟩
  refine ⟨_, rfl, ?_⟩
  refine hK.out _ _ (hHeld.call hB) (fun hHeld => ?_)
  clear hK K
  simp only [Act.put, List.setIfInBounds_toArray, List.set_cons_zero, List.set_cons_succ]
  have K5 := Aside0.mk (show k39.K we (conv x) c5.toArray.toList from hK5); have KX2 := Aside0.mk (k39.K_below hB KX.out); have KY2 := Aside0.mk (k39.K_below hB KY.out)
  clear KX KY hB hK5; have KX := KX2; have KY := KY2; clear KX2 KY2
  refine wpAnyH_ready (rs := [3]) (by kernel_rfl) (by simp) ?_
  refine AllReadyH.cons rfl (fun K hK => ?_) AllReadyH.nil
  refine goes_ (N := some 38) Try.func10 (by kernel_rfl) rfl #[.agg c3.toArray, .agg c5.toArray] (by rfl) rfl rfl (by simp only [List.map_toArray, List.map_cons, List.map_nil]; rfl) ?_
  refine (eqPlan_c (conv x) (conv x) c3.toArray c5.toArray _ KX.out K5.out (small_conv sx.out)).mono ?_
  rintro e wf ⟨rfl, hB⟩; rw [same_self]
  refine ⟨_, rfl, ?_⟩
  refine hK.out _ _ (hHeld.call hB) (fun hHeld => ?_)
  clear hK K
  simp only [Act.put, List.setIfInBounds_toArray, List.set_cons_zero, List.set_cons_succ]
  have KX2 := Aside0.mk (k39.K_below hB KX.out); have KY2 := Aside0.mk (k39.K_below hB KY.out)
  clear KX KY K5 hB; have KX := KX2; have KY := KY2; clear KX2 KY2
  refine wpAnyH_take (i := 4) (oi := _) (v := _) rfl (by kernel_rfl) (by kernel_rfl) (by kernel_rfl) (fun _ _ _ h => h) (Or.inl ⟨by rfl, fun W _ => by go_simp; with_reducible rfl⟩) hHeld ?_
  change wpAnyH _ _ _ _ _ _ _ (Act.put _ (some 39) _) _
  simp only [Act.put, List.setIfInBounds_toArray, List.set_cons_zero, List.set_cons_succ]
  refine wpAnyH_done (by kernel_rfl) ?_ _
  have F := Aside0.mk hHeld
  clear hHeld
  go_wp2
  refine wp_region_held_drew (S := fun W => LT w ga gb gx gy ca cb c3 c4 W) (by kernel_rfl) (F.out.call (Below.refl _ _).drew) (fun hHeld => ?_)
  have KX2 := Aside0.mk (k39.K_below (Below.refl _ _).drew KX.out); have KY2 := Aside0.mk (k39.K_below (Below.refl _ _).drew KY.out)
  clear F KX KY; have KX := KX2; have KY := KY2; clear KX2 KY2
  refine wpAnyH_take (i := 0) (oi := _) (v := _) rfl (by kernel_rfl) (by kernel_rfl) (by kernel_rfl) (fun _ _ _ h => h) (yieldsIf_load_mid (by rfl) 39 (.tmp 8) rfl gy 0 rfl c4 _ (fun W h => range_ h.hY) Try.underlying39 rfl ?hi) hHeld ?_
  case hi => rw [LY.out]; kernel_rfl
  change wpAnyH _ _ _ _ _ _ _ (Act.put _ (some 40) _) _
  simp only [Act.put, List.setIfInBounds_toArray, List.set_cons_zero, List.set_cons_succ]
  refine wpAnyH_take (i := 1) (oi := _) (v := _) rfl (by kernel_rfl) (by kernel_rfl) (by kernel_rfl) (fun _ _ _ h => h) (yieldsIf_load_mid (by rfl) 30 (.tmp 3) rfl gb 0 rfl cb _ (fun W h => range_ h.ls.hB) Try.underlying30 rfl ?hi) hHeld ?_
  case hi => rw [LB.out]; kernel_rfl
  change wpAnyH _ _ _ _ _ _ _ (Act.put _ (some 41) _) _
  simp only [Act.put, List.setIfInBounds_toArray, List.set_cons_zero, List.set_cons_succ]
  refine wpAnyH_ready (rs := [2]) (by kernel_rfl) (by simp) ?_
  refine AllReadyH.cons rfl (fun K hK => ?_) AllReadyH.nil
  refine goes_ (N := some 42) Try.func8 (by kernel_rfl) rfl #[.agg cb.toArray] (by rfl) rfl rfl (by simp only [List.map_toArray, List.map_cons, List.map_nil]; rfl) ?_
  refine (toPlan_c y cb.toArray _ (k30.K_below hHeld.ls.bel KB.out) sy.out).mono ?_
  rintro e we ⟨c5, rfl, hK5, hB⟩
  refine ⟨_, rfl, ?_⟩
  refine hK.out _ _ (hHeld.call hB) (fun hHeld => ?_)
  clear hK K
  simp only [Act.put, List.setIfInBounds_toArray, List.set_cons_zero, List.set_cons_succ]
  have K5 := Aside0.mk (show k39.K we (conv y) c5.toArray.toList from hK5); have KX2 := Aside0.mk (k39.K_below hB KX.out); have KY2 := Aside0.mk (k39.K_below hB KY.out)
  clear KX KY hB hK5; have KX := KX2; have KY := KY2; clear KX2 KY2
  refine wpAnyH_ready (rs := [3]) (by kernel_rfl) (by simp) ?_
  refine AllReadyH.cons rfl (fun K hK => ?_) AllReadyH.nil
  refine goes_ (N := some 43) Try.func10 (by kernel_rfl) rfl #[.agg c4.toArray, .agg c5.toArray] (by rfl) rfl rfl (by simp only [List.map_toArray, List.map_cons, List.map_nil]; rfl) ?_
  refine (eqPlan_c (conv y) (conv y) c4.toArray c5.toArray _ KY.out K5.out (small_conv sy.out)).mono ?_
  rintro e wf ⟨rfl, hB⟩; rw [same_self]
  refine ⟨_, rfl, ?_⟩
  refine hK.out _ _ (hHeld.call hB) (fun hHeld => ?_)
  clear hK K
  simp only [Act.put, List.setIfInBounds_toArray, List.set_cons_zero, List.set_cons_succ]
  have KX2 := Aside0.mk (k39.K_below hB KX.out); have KY2 := Aside0.mk (k39.K_below hB KY.out)
  clear KX KY K5 hB; have KX := KX2; have KY := KY2; clear KX2 KY2
  refine wpAnyH_take (i := 4) (oi := _) (v := _) rfl (by kernel_rfl) (by kernel_rfl) (by kernel_rfl) (fun _ _ _ h => h) (Or.inl ⟨by rfl, fun W _ => by go_simp; with_reducible rfl⟩) hHeld ?_
  change wpAnyH _ _ _ _ _ _ _ (Act.put _ (some 44) _) _
  simp only [Act.put, List.setIfInBounds_toArray, List.set_cons_zero, List.set_cons_succ]
  refine wpAnyH_done (by kernel_rfl) ?_ _
  have F := Aside0.mk hHeld
  clear hHeld
  go_wp2
  go_ret
  exact ⟨rfl, F.out.ls.bel⟩
end Pl

end Go.Proofs.Ytlpgnkndjmfcjaa.PFnExactPlanSame
