/- The given specification's l4Form, l4Fit and PlanMany at every plan. The law FnExactPlanMany returns true for each plan, and leaves what lay in the world as it was. -/
import Derived.Test.YtlpgnkndjmfcjaaGreatPlL4form
namespace Go.Proofs.YtlpgnkndjmfcjaaGreat.PFnExactPlanMany
open Go.RowKit Go.Proofs.YtlpgnkndjmfcjaaGreatW.PrintWords Go.Proofs.YtlpgnkndjmfcjaaGreatW.PrintLast Go.Proofs.YtlpgnkndjmfcjaaGreatW.PrintMore
attribute [local go_sem] max2_int min2_int max_two min_two max_three min_three max_four min_four   -- for this text's walks alone
set_option linter.unusedVariables false
set_option linter.unusedSimpArgs false
namespace Pl
theorem fo_step (N : Nat) (ih : ∀ m, m ≤ N → FoP m) : FoP (N + 1) := by
  intro x cs d w hn hK hsm hd
  cases d with
  | zero => exact l4Form_a x cs 0 w hK hsm hd
  | succ d =>
    have hd' : d ≤ 1000 := by omega
    by_cases hk : kidsN x.f0 = x.f9.length
    · cases hcl : cleanB x with
      | false => exact l4Form_c0 x cs d w hK hsm hd' hk hcl
      | true =>
        rcases kidsN_in hk with ⟨e, _⟩ | ⟨e, _⟩ | ⟨e, _⟩ | ⟨e, _⟩ | ⟨e, _⟩ | ⟨e, _⟩ | ⟨e, _⟩
        · by_cases h1 : x.f1 < 0
          · exact l4Form_1a N ih x cs d w hK hsm hd' hn e hk hcl h1
          · by_cases h2 : x.f1 < 3
            · exact l4Form_1c N ih x cs d w hK hsm hd' hn e hk hcl (by omega) h2
            · exact l4Form_1b N ih x cs d w hK hsm hd' hn e hk hcl (by omega) (by omega)
        · exact l4Form_2 N ih x cs d w hK hsm hd' hn e hk hcl
        · exact l4Form_3 N ih x cs d w hK hsm hd' hn e hk hcl
        · cases h4 : colB x.f4 6 with
          | false => exact l4Form_4a N ih x cs d w hK hsm hd' hn e hk hcl h4
          | true => exact l4Form_4b N ih x cs d w hK hsm hd' hn e hk hcl h4
        · exact l4Form_5 N ih x cs d w hK hsm hd' hn e hk hcl
        · exact l4Form_6 N ih x cs d w hK hsm hd' hn e hk hcl
        · cases h6 : keysB x.f6 6 with
          | false => exact l4Form_7a N ih x cs d w hK hsm hd' hn e hk hcl h6
          | true =>
            by_cases h7 : x.f7 < 0
            · exact l4Form_7b N ih x cs d w hK hsm hd' hn e hk hcl h6 h7
            · by_cases h73 : 3 < x.f7
              · exact l4Form_7c N ih x cs d w hK hsm hd' hn e hk hcl h6 (by omega) h73
              · exact l4Form_7d N ih x cs d w hK hsm hd' hn e hk hcl h6 (by omega) (by omega)
    · exact l4Form_b x cs d w hK hsm hd' hk
theorem fo_all (N : Nat) : FoP N := by
  induction N using Nat.strongRecOn with
  | _ N ih =>
    cases N with
    | zero => intro x cs d w hn; have := sz39_kids x; omega
    | succ N => exact fo_step N (fun m hm => ih m (by omega))
/-- **spec.l4Form** -/
theorem l4Form_c (x : S39) (cs : List Value) (d : Nat) (w : World) (hK : k39.K w x cs) (hsm : Small39 x) (hd : d ≤ 1000) :
    Calls Tryz.prog 38 #[.agg cs.toArray, .int .i64 d] w fun e w' => e = .returned (.bool (sForm x d)) ∧ Below w.heap.size w w' := fo_all _ x cs d w (Nat.le_refl _) hK hsm hd
set_option maxHeartbeats 8000000 in
set_option maxRecDepth 100000 in
/-- **spec.l4Fit** -/
theorem l4Fit_c (x : S39) (cs : List Value) (w : World) (hK : k39.K w x cs) (hsm : Small39 x) (hbig : sz39 x ≤ 1099511627776) :
    Calls Tryz.prog 18 #[.agg cs.toArray] w fun e w' => e = .returned (.bool (sFit x)) ∧ Below w.heap.size w w' := by
  have LC := Aside0.mk (show cs.length = 19 from k39.K_len hK)
  have C1 := Aside0.mk (fun (W : World) (hb : Below w.heap.size w W) => l4Form_c x cs 6 W (k39.K_below hb hK) hsm (by decide))
  have C2 := Aside0.mk (fun (W : World) (hb : Below w.heap.size w W) => l4Many_c x cs 6 W hbig (by decide) (k39.K_below hb hK))
  have VV := Aside0.mk (show sFit x = (sForm x 6 && decide (manyF x 6 ≤ 10)) from rfl)
  obtain ⟨z, hz⟩ : ∃ z, z = sForm x 6 := ⟨_, rfl⟩
  obtain ⟨m, hm⟩ : ∃ m, m = manyF x 6 := ⟨_, rfl⟩
  rw [← hz, ← hm] at VV
  rw [← hz] at C1
  rw [← hm] at C2
  clear hK hsm hbig hz hm
  cases z
  · have V2 := Aside0.mk (VV.out.trans (Bool.false_and _))
    go_enter Tryz.func18, Tryz.ntmps18
    go_wp2_with (first
      | ((with_reducible refine gate_dst (N := 1) rfl ?_); refine box_ 39 (.tmp 0) rfl rfl cs.toArray rfl ?_; intro gb hg w1 hb hB; have X1 := Aside0.mk hb; have B1 := Aside0.mk hB; clear hb hB hg)
      | ((with_reducible refine gate_dst (N := 3) rfl ?_); refine loadVar_ 39 (.tmp 1) rfl rfl gb ?hx cs _ Tryz.underlying39 ?hi _ X1.out ?_; (case hx => first | rfl | (go_simp; done) | (go_simp; rfl)); (case hi => rw [LC.out]; kernel_rfl))
      | (go_at_call 38; refine (C1.out _ B1.out).mono ?_; rintro e w2 ⟨rfl, hB⟩; have X2 := Aside0.mk ((hB.block _ (blk_lt X1.out)).trans X1.out); have B2 := Aside0.mk (below_step B1.out hB); clear hB))
    go_ret
    exact ⟨by rw [V2.out]; rfl, B2.out⟩
  · have V2 := Aside0.mk (VV.out.trans (Bool.true_and _))
    obtain ⟨q, hq⟩ : ∃ q, q = decide (m ≤ 10) := ⟨_, rfl⟩
    have d10 : decide ((m : Int) ≤ 10) = q := by rw [hq, Bool.eq_iff_iff]; simp; omega
    rw [← hq] at V2
    clear hq
    go_enter Tryz.func18, Tryz.ntmps18
    go_wp2_with (first
      | ((with_reducible refine gate_dst (N := 1) rfl ?_); refine box_ 39 (.tmp 0) rfl rfl cs.toArray rfl ?_; intro gb hg w1 hb hB; have X1 := Aside0.mk hb; have B1 := Aside0.mk hB; clear hb hB hg)
      | ((with_reducible refine gate_dst (N := 3) rfl ?_); refine loadVar_ 39 (.tmp 1) rfl rfl gb ?hx cs _ Tryz.underlying39 ?hi _ X1.out ?_; (case hx => first | rfl | (go_simp; done) | (go_simp; rfl)); (case hi => rw [LC.out]; kernel_rfl))
      | (go_at_call 38; refine (C1.out _ B1.out).mono ?_; rintro e w2 ⟨rfl, hB⟩; have X2 := Aside0.mk ((hB.block _ (blk_lt X1.out)).trans X1.out); have B2 := Aside0.mk (below_step B1.out hB); clear hB)
      | ((with_reducible refine gate_dst (N := 6) rfl ?_); refine loadW_ 39 (.tmp 1) rfl ?hw ⟨gb, 0, none⟩ ?hx cs _ Tryz.underlying39 ?hi (sub_ X2.out [] cs [] (by simp)) ?_; (case hw => first | rfl | (simp [Region.wanted, yielded]; done)); (case hx => first | rfl | (go_simp; done) | (go_simp; rfl)); (case hi => rw [LC.out]; kernel_rfl))
      | (go_at_call 19; refine (C2.out _ B2.out).mono ?_; rintro e w3 ⟨rfl, hB⟩; have X3 := Aside0.mk ((hB.block _ (blk_lt X2.out)).trans X2.out); have B3 := Aside0.mk (below_step B2.out hB); clear hB))
    go_ret
    exact ⟨by rw [V2.out]; rfl, B3.out⟩
set_option maxHeartbeats 8000000 in
set_option maxRecDepth 100000 in
/-- **spec.PlanMany** -/
theorem specPlanMany_c (x : S39) (cs : List Value) (w : World) (hK : k39.K w x cs) (hsm : Small39 x) (hbig : sz39 x ≤ 1099511627776) :
    Calls Tryz.prog 7 #[.agg cs.toArray] w fun e w' => e = .returned (.int .i64 (sMany x : Nat)) ∧ Below w.heap.size w w' := by
  have LC := Aside0.mk (show cs.length = 19 from k39.K_len hK)
  have C1 := Aside0.mk (fun (W : World) (hb : Below w.heap.size w W) => l4Fit_c x cs W (k39.K_below hb hK) hsm hbig)
  have C2 := Aside0.mk (fun (W : World) (hb : Below w.heap.size w W) => l4Many_c x cs 6 W hbig (by decide) (k39.K_below hb hK))
  have N1 := Aside0.mk (fun (h : sFit x = false) => show sMany x = 0 by unfold sMany; rw [if_neg (by rw [h]; decide)])
  have Y1 := Aside0.mk (fun (h : sFit x = true) => show sMany x = manyF x 6 by unfold sMany; rw [if_pos h])
  obtain ⟨m, hm⟩ : ∃ m, m = manyF x 6 := ⟨_, rfl⟩
  rw [← hm] at C2 Y1
  obtain ⟨z, hz⟩ : ∃ z, z = sFit x := ⟨_, rfl⟩
  rw [← hz] at C1 N1 Y1
  clear hK hsm hbig hm hz
  cases z
  · have VV := Aside0.mk (N1.out rfl)
    go_enter Tryz.func7, Tryz.ntmps7
    go_wp2_with (first
      | ((with_reducible refine gate_dst (N := 1) rfl ?_); refine box_ 39 (.tmp 0) rfl rfl cs.toArray rfl ?_; intro gb hg w1 hb hB; have X1 := Aside0.mk hb; have B1 := Aside0.mk hB; clear hb hB hg)
      | ((with_reducible refine gate_dst (N := 3) rfl ?_); refine loadVar_ 39 (.tmp 1) rfl rfl gb ?hx cs _ Tryz.underlying39 ?hi _ X1.out ?_; (case hx => first | rfl | (go_simp; done) | (go_simp; rfl)); (case hi => rw [LC.out]; kernel_rfl))
      | (go_at_call 18; refine (C1.out _ B1.out).mono ?_; rintro e w2 ⟨rfl, hB⟩; have X2 := Aside0.mk ((hB.block _ (blk_lt X1.out)).trans X1.out); have B2 := Aside0.mk (below_step B1.out hB); clear hB))
    go_ret
    exact ⟨by rw [VV.out]; rfl, B2.out⟩
  · have VV := Aside0.mk (Y1.out rfl)
    go_enter Tryz.func7, Tryz.ntmps7
    go_wp2_with (first
      | ((with_reducible refine gate_dst (N := 1) rfl ?_); refine box_ 39 (.tmp 0) rfl rfl cs.toArray rfl ?_; intro gb hg w1 hb hB; have X1 := Aside0.mk hb; have B1 := Aside0.mk hB; clear hb hB hg)
      | ((with_reducible refine gate_dst (N := 3) rfl ?_); refine loadVar_ 39 (.tmp 1) rfl rfl gb ?hx cs _ Tryz.underlying39 ?hi _ X1.out ?_; (case hx => first | rfl | (go_simp; done) | (go_simp; rfl)); (case hi => rw [LC.out]; kernel_rfl))
      | (go_at_call 18; refine (C1.out _ B1.out).mono ?_; rintro e w2 ⟨rfl, hB⟩; have X2 := Aside0.mk ((hB.block _ (blk_lt X1.out)).trans X1.out); have B2 := Aside0.mk (below_step B1.out hB); clear hB)
      | ((with_reducible refine gate_dst (N := 6) rfl ?_); refine loadVar_ 39 (.tmp 1) rfl rfl gb ?hx cs _ Tryz.underlying39 ?hi _ X2.out ?_; (case hx => first | rfl | (go_simp; done) | (go_simp; rfl)); (case hi => rw [LC.out]; kernel_rfl))
      | (go_at_call 19; refine (C2.out _ B2.out).mono ?_; rintro e w3 ⟨rfl, hB⟩; have X3 := Aside0.mk ((hB.block _ (blk_lt X2.out)).trans X2.out); have B3 := Aside0.mk (below_step B2.out hB); clear hB))
    go_ret
    exact ⟨by rw [VV.out]; rfl, B3.out⟩
end Pl
namespace Pl
/-- The law's walk: what it keeps. -/
structure LU (w : World) (ga : Nat) (ca : List Value) (W : World) : Prop where
  hA : W.heap[ga]? = some (.cells ca.toArray 30 (0, 0))
  bel : Below w.heap.size w W
theorem LU.call {w : World} {ga : Nat} {ca : List Value} {W W1 : World} (h : LU w ga ca W) (hb : Below W.heap.size W W1) : LU w ga ca W1 :=
  ⟨(hb.block ga (blk_lt h.hA)).trans h.hA, below_step h.bel hb⟩
structure LV (w : World) (ga gx : Nat) (ca cx : List Value) (x : S39) (W : World) : Prop where
  ls : LU w ga ca W
  hX : W.heap[gx]? = some (.cells cx.toArray 39 (0, 0))
  kx : k39.K W x cx.toArray.toList
theorem LV.call {w : World} {ga gx : Nat} {ca cx : List Value} {x : S39} {W W1 : World} (h : LV w ga gx ca cx x W) (hb : Below W.heap.size W W1) : LV w ga gx ca cx x W1 :=
  ⟨h.ls.call hb, (hb.block gx (blk_lt h.hX)).trans h.hX, k39.K_below hb h.kx⟩
set_option maxHeartbeats 16000000 in
set_option maxRecDepth 100000 in
theorem law_many (x : S30) (ca : List Value) (w : World) (hK : k30.K w x ca) (hok : OkP x) :
    Calls Tryz.prog 3 #[.agg ca.toArray] w fun e w' => e = .returned (.bool true) ∧ Below w.heap.size w w' := by
  have LA := Aside0.mk (show ca.length = 19 from k30.K_len hK)
  have T0 := Aside0.mk (Below.refl w.heap.size w)
  have KA := Aside0.mk (show k30.K w x ca.toArray.toList from hK)
  have b1 := szF_le x 1048576 (by omega)
  have SX := Aside0.mk (small_sz _ x (Nat.le_refl _) 1048576 (by omega) (by omega))
  have FX := Aside0.mk (few_sz _ x (Nat.le_refl _) 1048576 (by omega))
  have C1 := Aside0.mk (fun (w' : World) (hK : k30.K w' x ca.toArray.toList) => szPlan_c x ca.toArray 1048576 w' hK hok (by omega) (by omega))
  obtain ⟨r1, hr1⟩ : ∃ r, r = szF x 1048576 := ⟨_, rfl⟩
  rw [← hr1] at b1 SX FX C1
  clear hr1 hK hok
  by_cases hn : r1 < 0
  · have f0 : decide (r1 < 0) = true := decide_eq_true hn
    clear SX FX b1 hn
    go_enter Tryz.func3, Tryz.ntmps3
    go_wp2_with (first
      | ((with_reducible refine gate_dst (N := 1) rfl ?_); refine box_ 30 (.tmp 0) rfl rfl ca.toArray rfl ?_; intro ga hga w1 hb1 hB1; have E := Aside0.mk (show LU w ga ca w1 from ⟨hb1, below_step T0.out hB1⟩); clear hb1 hB1 hga T0)
      | ((with_reducible refine gate_dst (N := 7) rfl ?_); refine loadVar_ 30 (.tmp 1) rfl rfl ga ?hx ca _ Tryz.underlying30 ?hi _ E.out.hA ?_; (case hx => first | rfl | (go_simp; done) | (go_simp; rfl)); (case hi => rw [LA.out]; kernel_rfl))
      | (go_at_call 6; refine (C1.out _ (k30.K_below E.out.bel KA.out)).mono ?_; rintro e w3 ⟨rfl, hB⟩; have E2 := Aside0.mk (E.out.call hB); clear E C1 hB; have E := E2; clear E2))
    go_ret
    exact ⟨rfl, E.out.bel⟩
  have f0 : decide (r1 < 0) = false := decide_eq_false hn
  have sx := Aside0.mk (SX.out (by omega))
  have hbig := Aside0.mk (show sz39 (conv x) ≤ 1099511627776 by have h1 := FX.out (by omega); have h2 := sz_conv _ x (Nat.le_refl _); omega)
  have TX := Aside0.mk (fun (w' : World) hK => toPlan_c x ca.toArray w' hK sx.out)
  obtain ⟨V, hV⟩ : ∃ V, V = sMany (conv x) := ⟨_, rfl⟩
  have TS := Aside0.mk (fun (W : World) cx hK => hV ▸ specPlanMany_c (conv x) cx W hK (small_conv sx.out) hbig.out)
  have TW := Aside0.mk (fun (W : World) cx hK => (many_law (conv x)).trans hV.symm ▸ implPlanMany_c (conv x) cx W hK (small_conv sx.out))
  have TX1 := TX
  clear SX FX b1 hn hV
  go_enter Tryz.func3, Tryz.ntmps3
  go_wp2_with (first
    | ((with_reducible refine gate_dst (N := 1) rfl ?_); refine box_ 30 (.tmp 0) rfl rfl ca.toArray rfl ?_; intro ga hga w1 hb1 hB1; have E := Aside0.mk (show LU w ga ca w1 from ⟨hb1, below_step T0.out hB1⟩); clear hb1 hB1 hga T0)
    | ((with_reducible refine gate_dst (N := 7) rfl ?_); refine loadVar_ 30 (.tmp 1) rfl rfl ga ?hx ca _ Tryz.underlying30 ?hi _ E.out.hA ?_; (case hx => first | rfl | (go_simp; done) | (go_simp; rfl)); (case hi => rw [LA.out]; kernel_rfl))
    | (go_at_call 6; refine (C1.out _ (k30.K_below E.out.bel KA.out)).mono ?_; rintro e w3 ⟨rfl, hB⟩; have E2 := Aside0.mk (E.out.call hB); clear E C1 hB; have E := E2; clear E2)
    | ((with_reducible refine gate_dst (N := 12) rfl ?_); refine loadVar_ 30 (.tmp 1) rfl rfl ga ?hx ca _ Tryz.underlying30 ?hi _ E.out.hA ?_; (case hx => first | rfl | (go_simp; done) | (go_simp; rfl)); (case hi => rw [LA.out]; kernel_rfl))
    | ((with_reducible refine gate_dst (N := 15) rfl ?_); refine loadVar_ 30 (.tmp 1) rfl rfl ga ?hx ca _ Tryz.underlying30 ?hi _ E.out.hA ?_; (case hx => first | rfl | (go_simp; done) | (go_simp; rfl)); (case hi => rw [LA.out]; kernel_rfl))
    | (go_at_call 8; refine (TX1.out _ (k30.K_below E.out.bel KA.out)).mono ?_; rintro e wb1 ⟨c1, rfl, hK3, hB⟩; have E2 := Aside0.mk (E.out.call hB); have K1 := Aside0.mk (show k39.K wb1 (conv x) c1.toArray.toList from hK3); clear E hB hK3 TX1; have E := E2; clear E2)
    | (go_at_call 7; refine (TS.out _ _ K1.out).mono ?_; rintro e wb3 ⟨rfl, hB⟩; have E2 := Aside0.mk (E.out.call hB); clear E K1 TS hB; have E := E2; clear E2)
    | (go_at_call 8; refine (TX.out _ (k30.K_below E.out.bel KA.out)).mono ?_; rintro e wb4 ⟨c3, rfl, hK3, hB⟩; have E2 := Aside0.mk (E.out.call hB); have KX := Aside0.mk (show k39.K wb4 (conv x) c3.toArray.toList from hK3); have LX := Aside0.mk (show c3.length = 19 from k39.K_len hK3); have OX := Aside0.mk (show ∀ q ∈ c3, q.oneCell' = true from k39.K_one hK3); clear E hB hK3; have E := E2; clear E2)
    | ((with_reducible refine gate_dst (N := 5) rfl ?_); refine alloc_ 39 rfl rfl zero39 _ _ info39 ?_; intro gx hg wa1 hb hB; have BA1 := Aside0.mk hB; have YA1 := Aside0.mk hb; have GA1 := Aside0.mk hg; clear hb hB hg)
    | ((with_reducible refine gate_ (.store 39 (.tmp 5) (.tmp 16)) rfl ?_); refine storeAll_ 39 (.tmp 5) (.tmp 16) rfl rfl rfl gx ?hp c3 ?hx2 ?ht OX.out zero39 _ YA1.out ?hf ?_; (case hp => first | rfl | (go_simp; done) | (go_simp; rfl)); (case hx2 => first | rfl | (go_simp; done) | (go_simp; rfl)); (case ht => rw [LX.out]; kernel_rfl); (case hf => rw [LX.out]; rfl); intro wc1 hb hg; have hB := BA1.out.grown hg BA1.out.size (fun k e => by injection e with e; rw [← e]; exact Nat.le_of_eq GA1.out.symm); have F := Aside0.mk (show LV w ga gx ca c3 (conv x) wc1 from ⟨E.out.call hB, hb, k39.K_below hB KX.out⟩); clear E KX BA1 YA1 GA1 hb hg hB)
    | ((with_reducible refine gate_dst (N := 17) rfl ?_); refine loadVar_ 39 (.tmp 5) rfl rfl gx ?hx c3 _ Tryz.underlying39 ?hi _ F.out.hX ?_; (case hx => first | rfl | (go_simp; done) | (go_simp; rfl)); (case hi => rw [LX.out]; kernel_rfl))
    | (go_at_call 9; refine (TW.out _ _ F.out.kx).mono ?_; rintro e wb6 ⟨rfl, hB⟩; have F2 := Aside0.mk (F.out.call hB); clear F TW hB; have F := F2; clear F2))
  refine wp_region_held_drew (S := fun W => LV w ga gx ca c3 (conv x) W) (by kernel_rfl) (F.out.call (Below.refl _ _).drew) (fun hHeld => ?_)
  clear F
  refine wpAnyH_take (i := 0) (oi := _) (v := _) rfl (by kernel_rfl) (by kernel_rfl) (by kernel_rfl) (fun _ _ _ h => h) (yieldsIf_load_mid (by rfl) 39 (.tmp 5) rfl gx 0 rfl c3 _ (fun W h => range_ h.hX) Tryz.underlying39 rfl ?hi) hHeld ?_
  case hi => rw [LX.out]; kernel_rfl
  change wpAnyH _ _ _ _ _ _ _ (Act.put _ (some 22) _) _
  simp only [Act.put, List.setIfInBounds_toArray, List.set_cons_zero, List.set_cons_succ]
  refine wpAnyH_take (i := 1) (oi := _) (v := _) rfl (by kernel_rfl) (by kernel_rfl) (by kernel_rfl) (fun _ _ _ h => h) (yieldsIf_load_mid (by rfl) 30 (.tmp 1) rfl ga 0 rfl ca _ (fun W h => range_ h.ls.hA) Tryz.underlying30 rfl ?hi) hHeld ?_
  case hi => rw [LA.out]; kernel_rfl
  change wpAnyH _ _ _ _ _ _ _ (Act.put _ (some 23) _) _
  simp only [Act.put, List.setIfInBounds_toArray, List.set_cons_zero, List.set_cons_succ]
  refine wpAnyH_ready (rs := [2]) (by kernel_rfl) (by simp) ?_
  refine AllReadyH.cons rfl (fun K hK => ?_) AllReadyH.nil
  refine goes_ (N := some 24) Tryz.func8 (by kernel_rfl) rfl #[.agg ca.toArray] (by rfl) rfl rfl (by simp only [List.map_toArray, List.map_cons, List.map_nil]; rfl) ?_
  refine (TX.out _ (k30.K_below hHeld.ls.bel KA.out)).mono ?_
  rintro e we ⟨c5, rfl, hK5, hB⟩
  refine ⟨_, rfl, ?_⟩
  refine hK.out _ _ (hHeld.call hB) (fun hHeld => ?_)
  clear hK K
  simp only [Act.put, List.setIfInBounds_toArray, List.set_cons_zero, List.set_cons_succ]
  have K5 := Aside0.mk (show k39.K we (conv x) c5.toArray.toList from hK5)
  clear hB hK5
  refine wpAnyH_ready (rs := [3]) (by kernel_rfl) (by simp) ?_
  refine AllReadyH.cons rfl (fun K hK => ?_) AllReadyH.nil
  refine goes_ (N := some 25) Tryz.func10 (by kernel_rfl) rfl #[.agg c3.toArray, .agg c5.toArray] (by rfl) rfl rfl (by simp only [List.map_toArray, List.map_cons, List.map_nil]; rfl) ?_
  refine (eqPlan_c (conv x) (conv x) c3.toArray c5.toArray _ hHeld.kx K5.out (small_conv sx.out)).mono ?_
  rintro e wf ⟨rfl, hB⟩; rw [same_self]
  refine ⟨_, rfl, ?_⟩
  refine hK.out _ _ (hHeld.call hB) (fun hHeld => ?_)
  clear hK K
  simp only [Act.put, List.setIfInBounds_toArray, List.set_cons_zero, List.set_cons_succ]
  clear K5 hB
  refine wpAnyH_take (i := 4) (oi := _) (v := _) rfl (by kernel_rfl) (by kernel_rfl) (by kernel_rfl) (fun _ _ _ h => h) (Or.inl ⟨by rfl, fun W _ => by go_simp; with_reducible rfl⟩) hHeld ?_
  change wpAnyH _ _ _ _ _ _ _ (Act.put _ (some 26) _) _
  simp only [Act.put, List.setIfInBounds_toArray, List.set_cons_zero, List.set_cons_succ]
  refine wpAnyH_done (by kernel_rfl) ?_ _
  have F := Aside0.mk hHeld
  clear hHeld
  go_wp2
  go_ret
  exact ⟨rfl, F.out.ls.bel⟩
end Pl

end Go.Proofs.YtlpgnkndjmfcjaaGreat.PFnExactPlanMany
