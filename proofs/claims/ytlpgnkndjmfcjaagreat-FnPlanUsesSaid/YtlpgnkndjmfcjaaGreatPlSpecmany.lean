/- The given specification's l4Form, l4Fit and PlanMany at every plan. The given specification's l4Uses and PlanUses at every plan. The program's PlanUses at every plan. The reader of a draw's code: how many looks it still lets, and what its own functions pick, num and l12Open do. -/
import Derived.Test.YtlpgnkndjmfcjaaGreatPlL4form
namespace Go.Proofs.YtlpgnkndjmfcjaaGreat.PFnPlanUses
open Go.RowKit Go.Proofs.YtlpgnkndjmfcjaaGreatW.PrintWords Go.Proofs.YtlpgnkndjmfcjaaGreatW.PrintLast Go.Proofs.YtlpgnkndjmfcjaaGreatW.PrintMore
attribute [local go_sem] max2_int min2_int max_two min_two max_three min_three max_four min_four   -- for this text's walks alone
set_option linter.unusedVariables false
set_option linter.unusedSimpArgs false
namespace Pl
theorem fo_step (N : Nat) (ih : ∀ m, m ≤ N → FoP m) : FoP (N + 1) := by
  intro x cs d w hn hK hsm hd
  cases d with
  | zero => exact l4Form_a x cs 0 w hK hsm hd
  | succ d =>
    have hd' : d ≤ 1000 := by omega
    by_cases hk : kidsN x.f0 = x.f9.length
    · cases hcl : cleanB x with
      | false => exact l4Form_c0 x cs d w hK hsm hd' hk hcl
      | true =>
        rcases kidsN_in hk with ⟨e, _⟩ | ⟨e, _⟩ | ⟨e, _⟩ | ⟨e, _⟩ | ⟨e, _⟩ | ⟨e, _⟩ | ⟨e, _⟩
        · by_cases h1 : x.f1 < 0
          · exact l4Form_1a N ih x cs d w hK hsm hd' hn e hk hcl h1
          · by_cases h2 : x.f1 < 3
            · exact l4Form_1c N ih x cs d w hK hsm hd' hn e hk hcl (by omega) h2
            · exact l4Form_1b N ih x cs d w hK hsm hd' hn e hk hcl (by omega) (by omega)
        · exact l4Form_2 N ih x cs d w hK hsm hd' hn e hk hcl
        · exact l4Form_3 N ih x cs d w hK hsm hd' hn e hk hcl
        · cases h4 : colB x.f4 6 with
          | false => exact l4Form_4a N ih x cs d w hK hsm hd' hn e hk hcl h4
          | true => exact l4Form_4b N ih x cs d w hK hsm hd' hn e hk hcl h4
        · exact l4Form_5 N ih x cs d w hK hsm hd' hn e hk hcl
        · exact l4Form_6 N ih x cs d w hK hsm hd' hn e hk hcl
        · cases h6 : keysB x.f6 6 with
          | false => exact l4Form_7a N ih x cs d w hK hsm hd' hn e hk hcl h6
          | true =>
            by_cases h7 : x.f7 < 0
            · exact l4Form_7b N ih x cs d w hK hsm hd' hn e hk hcl h6 h7
            · by_cases h73 : 3 < x.f7
              · exact l4Form_7c N ih x cs d w hK hsm hd' hn e hk hcl h6 (by omega) h73
              · exact l4Form_7d N ih x cs d w hK hsm hd' hn e hk hcl h6 (by omega) (by omega)
    · exact l4Form_b x cs d w hK hsm hd' hk
theorem fo_all (N : Nat) : FoP N := by
  induction N using Nat.strongRecOn with
  | _ N ih =>
    cases N with
    | zero => intro x cs d w hn; have := sz39_kids x; omega
    | succ N => exact fo_step N (fun m hm => ih m (by omega))
/-- **spec.l4Form** -/
theorem l4Form_c (x : S39) (cs : List Value) (d : Nat) (w : World) (hK : k39.K w x cs) (hsm : Small39 x) (hd : d ≤ 1000) :
    Calls Tryz.prog 38 #[.agg cs.toArray, .int .i64 d] w fun e w' => e = .returned (.bool (sForm x d)) ∧ Below w.heap.size w w' := fo_all _ x cs d w (Nat.le_refl _) hK hsm hd
set_option maxHeartbeats 8000000 in
set_option maxRecDepth 100000 in
/-- **spec.l4Fit** -/
theorem l4Fit_c (x : S39) (cs : List Value) (w : World) (hK : k39.K w x cs) (hsm : Small39 x) (hbig : sz39 x ≤ 1099511627776) :
    Calls Tryz.prog 18 #[.agg cs.toArray] w fun e w' => e = .returned (.bool (sFit x)) ∧ Below w.heap.size w w' := by
  have LC := Aside0.mk (show cs.length = 19 from k39.K_len hK)
  have C1 := Aside0.mk (fun (W : World) (hb : Below w.heap.size w W) => l4Form_c x cs 6 W (k39.K_below hb hK) hsm (by decide))
  have C2 := Aside0.mk (fun (W : World) (hb : Below w.heap.size w W) => l4Many_c x cs 6 W hbig (by decide) (k39.K_below hb hK))
  have VV := Aside0.mk (show sFit x = (sForm x 6 && decide (manyF x 6 ≤ 10)) from rfl)
  obtain ⟨z, hz⟩ : ∃ z, z = sForm x 6 := ⟨_, rfl⟩
  obtain ⟨m, hm⟩ : ∃ m, m = manyF x 6 := ⟨_, rfl⟩
  rw [← hz, ← hm] at VV
  rw [← hz] at C1
  rw [← hm] at C2
  clear hK hsm hbig hz hm
  cases z
  · have V2 := Aside0.mk (VV.out.trans (Bool.false_and _))
    go_enter Tryz.func18, Tryz.ntmps18
    go_wp2_with (first
      | ((with_reducible refine gate_dst (N := 1) rfl ?_); refine box_ 39 (.tmp 0) rfl rfl cs.toArray rfl ?_; intro gb hg w1 hb hB; have X1 := Aside0.mk hb; have B1 := Aside0.mk hB; clear hb hB hg)
      | ((with_reducible refine gate_dst (N := 3) rfl ?_); refine loadVar_ 39 (.tmp 1) rfl rfl gb ?hx cs _ Tryz.underlying39 ?hi _ X1.out ?_; (case hx => first | rfl | (go_simp; done) | (go_simp; rfl)); (case hi => rw [LC.out]; kernel_rfl))
      | (go_at_call 38; refine (C1.out _ B1.out).mono ?_; rintro e w2 ⟨rfl, hB⟩; have X2 := Aside0.mk ((hB.block _ (blk_lt X1.out)).trans X1.out); have B2 := Aside0.mk (below_step B1.out hB); clear hB))
    go_ret
    exact ⟨by rw [V2.out]; rfl, B2.out⟩
  · have V2 := Aside0.mk (VV.out.trans (Bool.true_and _))
    obtain ⟨q, hq⟩ : ∃ q, q = decide (m ≤ 10) := ⟨_, rfl⟩
    have d10 : decide ((m : Int) ≤ 10) = q := by rw [hq, Bool.eq_iff_iff]; simp; omega
    rw [← hq] at V2
    clear hq
    go_enter Tryz.func18, Tryz.ntmps18
    go_wp2_with (first
      | ((with_reducible refine gate_dst (N := 1) rfl ?_); refine box_ 39 (.tmp 0) rfl rfl cs.toArray rfl ?_; intro gb hg w1 hb hB; have X1 := Aside0.mk hb; have B1 := Aside0.mk hB; clear hb hB hg)
      | ((with_reducible refine gate_dst (N := 3) rfl ?_); refine loadVar_ 39 (.tmp 1) rfl rfl gb ?hx cs _ Tryz.underlying39 ?hi _ X1.out ?_; (case hx => first | rfl | (go_simp; done) | (go_simp; rfl)); (case hi => rw [LC.out]; kernel_rfl))
      | (go_at_call 38; refine (C1.out _ B1.out).mono ?_; rintro e w2 ⟨rfl, hB⟩; have X2 := Aside0.mk ((hB.block _ (blk_lt X1.out)).trans X1.out); have B2 := Aside0.mk (below_step B1.out hB); clear hB)
      | ((with_reducible refine gate_dst (N := 6) rfl ?_); refine loadW_ 39 (.tmp 1) rfl ?hw ⟨gb, 0, none⟩ ?hx cs _ Tryz.underlying39 ?hi (sub_ X2.out [] cs [] (by simp)) ?_; (case hw => first | rfl | (simp [Region.wanted, yielded]; done)); (case hx => first | rfl | (go_simp; done) | (go_simp; rfl)); (case hi => rw [LC.out]; kernel_rfl))
      | (go_at_call 19; refine (C2.out _ B2.out).mono ?_; rintro e w3 ⟨rfl, hB⟩; have X3 := Aside0.mk ((hB.block _ (blk_lt X2.out)).trans X2.out); have B3 := Aside0.mk (below_step B2.out hB); clear hB))
    go_ret
    exact ⟨by rw [V2.out]; rfl, B3.out⟩
set_option maxHeartbeats 8000000 in
set_option maxRecDepth 100000 in
/-- **spec.PlanMany** -/
theorem specPlanMany_c (x : S39) (cs : List Value) (w : World) (hK : k39.K w x cs) (hsm : Small39 x) (hbig : sz39 x ≤ 1099511627776) :
    Calls Tryz.prog 7 #[.agg cs.toArray] w fun e w' => e = .returned (.int .i64 (sMany x : Nat)) ∧ Below w.heap.size w w' := by
  have LC := Aside0.mk (show cs.length = 19 from k39.K_len hK)
  have C1 := Aside0.mk (fun (W : World) (hb : Below w.heap.size w W) => l4Fit_c x cs W (k39.K_below hb hK) hsm hbig)
  have C2 := Aside0.mk (fun (W : World) (hb : Below w.heap.size w W) => l4Many_c x cs 6 W hbig (by decide) (k39.K_below hb hK))
  have N1 := Aside0.mk (fun (h : sFit x = false) => show sMany x = 0 by unfold sMany; rw [if_neg (by rw [h]; decide)])
  have Y1 := Aside0.mk (fun (h : sFit x = true) => show sMany x = manyF x 6 by unfold sMany; rw [if_pos h])
  obtain ⟨m, hm⟩ : ∃ m, m = manyF x 6 := ⟨_, rfl⟩
  rw [← hm] at C2 Y1
  obtain ⟨z, hz⟩ : ∃ z, z = sFit x := ⟨_, rfl⟩
  rw [← hz] at C1 N1 Y1
  clear hK hsm hbig hm hz
  cases z
  · have VV := Aside0.mk (N1.out rfl)
    go_enter Tryz.func7, Tryz.ntmps7
    go_wp2_with (first
      | ((with_reducible refine gate_dst (N := 1) rfl ?_); refine box_ 39 (.tmp 0) rfl rfl cs.toArray rfl ?_; intro gb hg w1 hb hB; have X1 := Aside0.mk hb; have B1 := Aside0.mk hB; clear hb hB hg)
      | ((with_reducible refine gate_dst (N := 3) rfl ?_); refine loadVar_ 39 (.tmp 1) rfl rfl gb ?hx cs _ Tryz.underlying39 ?hi _ X1.out ?_; (case hx => first | rfl | (go_simp; done) | (go_simp; rfl)); (case hi => rw [LC.out]; kernel_rfl))
      | (go_at_call 18; refine (C1.out _ B1.out).mono ?_; rintro e w2 ⟨rfl, hB⟩; have X2 := Aside0.mk ((hB.block _ (blk_lt X1.out)).trans X1.out); have B2 := Aside0.mk (below_step B1.out hB); clear hB))
    go_ret
    exact ⟨by rw [VV.out]; rfl, B2.out⟩
  · have VV := Aside0.mk (Y1.out rfl)
    go_enter Tryz.func7, Tryz.ntmps7
    go_wp2_with (first
      | ((with_reducible refine gate_dst (N := 1) rfl ?_); refine box_ 39 (.tmp 0) rfl rfl cs.toArray rfl ?_; intro gb hg w1 hb hB; have X1 := Aside0.mk hb; have B1 := Aside0.mk hB; clear hb hB hg)
      | ((with_reducible refine gate_dst (N := 3) rfl ?_); refine loadVar_ 39 (.tmp 1) rfl rfl gb ?hx cs _ Tryz.underlying39 ?hi _ X1.out ?_; (case hx => first | rfl | (go_simp; done) | (go_simp; rfl)); (case hi => rw [LC.out]; kernel_rfl))
      | (go_at_call 18; refine (C1.out _ B1.out).mono ?_; rintro e w2 ⟨rfl, hB⟩; have X2 := Aside0.mk ((hB.block _ (blk_lt X1.out)).trans X1.out); have B2 := Aside0.mk (below_step B1.out hB); clear hB)
      | ((with_reducible refine gate_dst (N := 6) rfl ?_); refine loadVar_ 39 (.tmp 1) rfl rfl gb ?hx cs _ Tryz.underlying39 ?hi _ X2.out ?_; (case hx => first | rfl | (go_simp; done) | (go_simp; rfl)); (case hi => rw [LC.out]; kernel_rfl))
      | (go_at_call 19; refine (C2.out _ B2.out).mono ?_; rintro e w3 ⟨rfl, hB⟩; have X3 := Aside0.mk ((hB.block _ (blk_lt X2.out)).trans X2.out); have B3 := Aside0.mk (below_step B2.out hB); clear hB))
    go_ret
    exact ⟨by rw [VV.out]; rfl, B3.out⟩
end Pl
namespace Pl
def UsP (N : Nat) : Prop := ∀ (x : S39) (cs : List Value) (n : Int) (w : World), sz39 x ≤ N → sz39 x ≤ 1099511627776 → k39.K w x cs →
  Calls Tryz.prog 30 #[.agg cs.toArray, .int .i64 n] w fun e w' => e = .returned (.bool (usesF n x)) ∧ Below w.heap.size w w'
set_option maxHeartbeats 8000000 in
set_option maxRecDepth 100000 in
theorem uses_step (N : Nat) (ih : ∀ m, m ≤ N → UsP m) : UsP (N + 1) := by
  intro x cs n w hn hbig hK
  have LC := Aside0.mk (show cs.length = 19 from k39.K_len hK)
  obtain ⟨A12, c12, A15, c15, A18, c18, hcs, l12, g12, l15, g15, l18, g18⟩ := k39_open hK
  have E0 := Aside0.mk (show cs[0]? = some (.int .i64 x.f0) by rw [hcs]; rfl)
  have E1 := Aside0.mk (show cs[1]? = some (.int .i64 x.f1) by rw [hcs]; rfl)
  have E18 := Aside0.mk (show cs[18]? = some (.slice A18 x.f9.length c18) by rw [hcs]; rfl)
  have G18 := Aside0.mk g18
  have SK := Aside0.mk (show szs39 x.f9 ≤ N by have := sz39_kids x; omega)
  have SB := Aside0.mk (show szs39 x.f9 ≤ 1099511627776 by have := sz39_kids x; omega)
  have hlen : x.f9.length ≤ 1099511627776 := by have := sz39_kids x; have := len_szs x.f9; omega
  have MF := Aside0.mk (usesF_eq n x)
  have IH := Aside0.mk ih
  clear hcs l12 g12 l15 g15 l18 g18 hK hn hbig ih
  by_cases h1 : x.f0 = 1
  · have VV := Aside0.mk (show usesF n x = (x.f1 == n) by rw [MF.out, if_pos h1, Bool.eq_iff_iff]; simp)
    rw [h1] at E0
    clear h1 MF IH G18 SK SB hlen E18
    obtain ⟨k1, hk1⟩ : ∃ k, k = x.f1 := ⟨_, rfl⟩
    rw [← hk1] at E1 VV
    clear hk1
    go_enter Tryz.func30, Tryz.ntmps30
    go_wp2_with ((with_reducible refine gate_dst (N := 2) rfl ?_); refine box_ 39 (.tmp 0) rfl rfl cs.toArray rfl ?_; intro gb hg w1 hb hB; have q0 := (blk_cell hb 0).trans (by simpa using E0.out); have q1 := (blk_cell hb 1).trans (by simpa using E1.out); have B1 := Aside0.mk hB; clear hb hB hg)
    go_ret
    exact ⟨by rw [VV.out]; rfl, B1.out⟩
  · have b1 : (x.f0 == 1) = false := by simpa using h1
    rw [if_neg h1] at MF
    obtain ⟨k0, hk0⟩ : ∃ k, k = x.f0 := ⟨_, rfl⟩
    rw [← hk0] at E0 b1
    clear h1 hk0 E1
    go_enter Tryz.func30, Tryz.ntmps30
    go_wp2_with ((with_reducible refine gate_dst (N := 2) rfl ?_); refine box_ 39 (.tmp 0) rfl rfl cs.toArray rfl ?_; intro gb hg w1 hb hB; have q0 := (blk_cell hb 0).trans (by simpa using E0.out); have q18 := (blk_cell hb 18).trans (by simpa using E18.out); have B1 := Aside0.mk hB; clear hb hB hg)
    go_loopw [5] (fun v5 wr => ∃ (i : Nat), v5 = .int .i64 i ∧ i ≤ x.f9.length ∧ wr.cell? ⟨gb, 18, none⟩ = some (.slice A18 x.f9.length c18) ∧ Aside0 (Below w.heap.size w wr) ∧ Aside0 (usesF n x = usesFs n (x.f9.drop i))) (fun v5 _ => x.f9.length - (intOf v5).toNat)
    case atStart => exact ⟨0, rfl, Nat.zero_le _, q18, B1, ⟨by rw [MF.out]; simp⟩⟩
    case round =>
      obtain ⟨i, rfl, hi, q18', HB, HN⟩ := hrel
      clear q18 q0
      by_cases hlt : i < x.f9.length
      · obtain ⟨ad, c0, e18, hcl, hK0, hcell⟩ := elem_ G18.out i hlt
        obtain rfl := e18
        have hsz := szs39_get hlt
        have LD := Aside0.mk (show c0.length = 19 from hcl)
        have HE := Aside0.mk hcell
        have CA := Aside0.mk (fun (W : World) (hb : Below w.heap.size w W) => IH.out (sz39 x.f9[i]) (by have := SK.out; omega) x.f9[i] c0 n W (Nat.le_refl _) (by have := SB.out; omega) (k39.K_below hb hK0))
        have GD := Aside0.mk (HN.out.trans (usesFs_drop n x.f9 i hlt))
        obtain ⟨r, hr⟩ : ∃ r, r = usesF n x.f9[i] := ⟨_, rfl⟩
        rw [← hr] at CA GD
        clear hK0 hcell hcl hsz HN hr
        cases r
        · go_wp2_with (first
            | ((with_reducible refine gate_dst (N := 24) rfl ?_); refine load_ 39 (.tmp 23) rfl rfl (ad.add (i * 19)) ?hx c0 _ Tryz.underlying39 ?hi (fun j v h => zhs HB.out (HE.out j v h)) ?_; (case hx => first | rfl | (go_simp; done) | (go_simp; rfl)); (case hi => rw [LD.out]; kernel_rfl))
            | (go_at_call 30; refine (CA.out _ HB.out).mono ?_; rintro e w6 ⟨rfl, hB⟩; have HB6 := Aside0.mk (below_step HB.out hB); have p18 := zhs hB q18'; clear hB CA q18'))
          go_roundw
          case rel => exact ⟨i + 1, by go_num, by omega, p18, HB6, ⟨by rw [GD.out, Bool.false_or]⟩⟩
          case measure => simp [intOf]; omega
        · go_wp2_with (first
            | ((with_reducible refine gate_dst (N := 24) rfl ?_); refine load_ 39 (.tmp 23) rfl rfl (ad.add (i * 19)) ?hx c0 _ Tryz.underlying39 ?hi (fun j v h => zhs HB.out (HE.out j v h)) ?_; (case hx => first | rfl | (go_simp; done) | (go_simp; rfl)); (case hi => rw [LD.out]; kernel_rfl))
            | (go_at_call 30; refine (CA.out _ HB.out).mono ?_; rintro e w6 ⟨rfl, hB⟩; have HB6 := Aside0.mk (below_step HB.out hB); clear hB CA q18'))
          go_ret
          exact ⟨by rw [GD.out]; rfl, HB6.out⟩
      · have GE := Aside0.mk (HN.out.trans (usesFs_end n x.f9 i (by omega)))
        go_wp2
        go_ret
        exact ⟨by rw [GE.out]; rfl, HB.out⟩
theorem uses_all (N : Nat) : UsP N := by
  induction N using Nat.strongRecOn with
  | _ N ih =>
    cases N with
    | zero => intro x cs d w hn; have := sz39_kids x; omega
    | succ N => exact uses_step N (fun m hm => ih m (by omega))
/-- **spec.l4Uses** -/
theorem l4Uses_c (x : S39) (cs : List Value) (n : Int) (w : World) (hbig : sz39 x ≤ 1099511627776) (hK : k39.K w x cs) :
    Calls Tryz.prog 30 #[.agg cs.toArray, .int .i64 n] w fun e w' => e = .returned (.bool (usesF n x)) ∧ Below w.heap.size w w' := uses_all _ x cs n w (Nat.le_refl _) hbig hK
set_option maxHeartbeats 8000000 in
set_option maxRecDepth 100000 in
/-- **spec.PlanUses** -/
theorem specPlanUses_c (x : S39) (n : Int) (cs : List Value) (w : World) (hK : k39.K w x cs) (hsm : Small39 x) (hbig : sz39 x ≤ 1099511627776) :
    Calls Tryz.prog 11 #[.agg cs.toArray, .int .i64 n] w fun e w' => e = .returned (.bool (sUses x n)) ∧ Below w.heap.size w w' := by
  have LC := Aside0.mk (show cs.length = 19 from k39.K_len hK)
  have C1 := Aside0.mk (fun (W : World) (hb : Below w.heap.size w W) => l4Fit_c x cs W (k39.K_below hb hK) hsm hbig)
  have C2 := Aside0.mk (fun (W : World) (hb : Below w.heap.size w W) => l4Uses_c x cs n W hbig (k39.K_below hb hK))
  have VV := Aside0.mk (show sUses x n = (sFit x && usesF n x) from rfl)
  obtain ⟨z, hz⟩ : ∃ z, z = sFit x := ⟨_, rfl⟩
  obtain ⟨m, hm⟩ : ∃ m, m = usesF n x := ⟨_, rfl⟩
  rw [← hz, ← hm] at VV
  rw [← hz] at C1
  rw [← hm] at C2
  clear hK hsm hbig hz hm
  cases z
  · have V2 := Aside0.mk (VV.out.trans (Bool.false_and _))
    go_enter Tryz.func11, Tryz.ntmps11
    go_wp2_with (first
      | ((with_reducible refine gate_dst (N := 2) rfl ?_); refine box_ 39 (.tmp 0) rfl rfl cs.toArray rfl ?_; intro gb hg w1 hb hB; have X1 := Aside0.mk hb; have B1 := Aside0.mk hB; clear hb hB hg)
      | ((with_reducible refine gate_dst (N := 5) rfl ?_); refine loadVar_ 39 (.tmp 2) rfl rfl gb ?hx cs _ Tryz.underlying39 ?hi _ X1.out ?_; (case hx => first | rfl | (go_simp; done) | (go_simp; rfl)); (case hi => rw [LC.out]; kernel_rfl))
      | (go_at_call 18; refine (C1.out _ B1.out).mono ?_; rintro e w2 ⟨rfl, hB⟩; have X2 := Aside0.mk ((hB.block _ (blk_lt X1.out)).trans X1.out); have B2 := Aside0.mk (below_step B1.out hB); clear hB))
    go_ret
    exact ⟨by rw [V2.out]; rfl, B2.out⟩
  · have V2 := Aside0.mk (VV.out.trans (Bool.true_and _))
    go_enter Tryz.func11, Tryz.ntmps11
    go_wp2_with (first
      | ((with_reducible refine gate_dst (N := 2) rfl ?_); refine box_ 39 (.tmp 0) rfl rfl cs.toArray rfl ?_; intro gb hg w1 hb hB; have X1 := Aside0.mk hb; have B1 := Aside0.mk hB; clear hb hB hg)
      | ((with_reducible refine gate_dst (N := 5) rfl ?_); refine loadVar_ 39 (.tmp 2) rfl rfl gb ?hx cs _ Tryz.underlying39 ?hi _ X1.out ?_; (case hx => first | rfl | (go_simp; done) | (go_simp; rfl)); (case hi => rw [LC.out]; kernel_rfl))
      | (go_at_call 18; refine (C1.out _ B1.out).mono ?_; rintro e w2 ⟨rfl, hB⟩; have X2 := Aside0.mk ((hB.block _ (blk_lt X1.out)).trans X1.out); have B2 := Aside0.mk (below_step B1.out hB); clear hB)
      | ((with_reducible refine gate_dst (N := 8) rfl ?_); refine loadW_ 39 (.tmp 2) rfl ?hw ⟨gb, 0, none⟩ ?hx cs _ Tryz.underlying39 ?hi (sub_ X2.out [] cs [] (by simp)) ?_; (case hw => first | rfl | (simp [Region.wanted, yielded]; done)); (case hx => first | rfl | (go_simp; done) | (go_simp; rfl)); (case hi => rw [LC.out]; kernel_rfl))
      | (go_at_call 30; refine (C2.out _ B2.out).mono ?_; rintro e w3 ⟨rfl, hB⟩; have X3 := Aside0.mk ((hB.block _ (blk_lt X2.out)).trans X2.out); have B3 := Aside0.mk (below_step B2.out hB); clear hB))
    go_ret
    exact ⟨by rw [V2.out]; rfl, B3.out⟩
end Pl
section
attribute [local go_sem] Oper.semAt_some
namespace Pl
section
variable {F : Fence} {n : Nat} {P : Program} {ops : Array Oper} {rest : List Oper} {o : Oper} {a : Act} {Q : Exit → Act → World → Prop}
theorem allocIn_ {W : World} (ty : TypeId) (ho : o.op = .alloc ty) (hgd : o.guard = none) (z : List Value) (m b : Nat) (hi : (P.info? ty).map (fun i => (i.zero, i.size, i.bytes)) = some (some (.agg z.toArray), m, b))
    (h : ∀ g, g = W.heap.size → ∀ w1, w1.heap[g]? = some (.cells z.toArray ty (0, 0)) → Below W.heap.size W w1 → wpListIn F n P ops Q rest (a.put o.dst (.pointer (some ⟨g, 0, none⟩))) w1) : wpListIn F n P ops Q (o :: rest) a W := by
  refine eventIn hgd (by simp [Oper.about, ho]) (by rw [ho]; intro c e; cases e) ?_ (h _ rfl _ (blk_new W _) (below_alloc (Below.refl _ _) _))
  obtain ⟨i, hi1, hi2⟩ := Option.map_eq_some_iff.1 hi
  simp only [Prod.mk.injEq] at hi2
  obtain ⟨hz, -, -⟩ := hi2
  unfold execOp
  simp only [ho]
  simp [Instr.alloc, zeroValue, typeInfo, hi1, hz, go_sem]
  try rfl
theorem storeAllIn_ {W : World} (t : TypeId) (p x : Operand) (ho : o.op = .store t p x) (hd : o.dst = none) (hgd : o.guard = none) (g : Nat) (hp : a.eval p = .pointer (some ⟨g, 0, none⟩)) (seg : List Value) (hx : a.eval x = .agg seg.toArray)
    (ht : (P.info? t).map (·.size) = some seg.length) (h1 : ∀ q ∈ seg, q.oneCell' = true) (cur : List Value) (e : TypeId) (hh : W.heap[g]? = some (.cells cur.toArray e (0, 0))) (hfit : seg.length = cur.length)
    (h : ∀ w1, w1.heap[g]? = some (.cells seg.toArray e (0, 0)) → W.grownBy w1 (some g) → wpListIn F n P ops Q rest a w1) : wpListIn F n P ops Q (o :: rest) a W := by
  have hrun := run_store_run (P := P) t (.agg seg.toArray) seg (g := g) (o := 0) hh rfl ht (by simp; omega) h1
  obtain ⟨cur', h3, h4, h5⟩ := setCells_row seg 0 W cur.toArray hh (by simp; omega)
  obtain ⟨s1, s2, s3, s4⟩ := setCells_same g seg 0 W
  refine wpListIn_plain hgd fun K hK => ⟨fun f hf => (by simp [Oper.about, ho] at hf), ?_⟩
  rw [Oper.semAt_plain F _ _ (by rw [ho]; intro c e; cases e)]
  unfold execOp
  simp only [ho, hp, hx, Sem.run_bind, Sem.run_pure, Result.andThen_ok, hrun]
  show K (a.put o.dst undef) _
  rw [hd]
  refine hK a _ (h _ ?_ ⟨s1, s2, s3, by rw [s4]; exact Nat.le_refl _, fun k _ hk => setCells_far _ _ k (fun he => hk (by rw [he]))⟩)
  rw [h3]
  congr 2
  apply Array.toList_inj.1
  rw [h5]
  simp [hfit]
end
/-- PlanUses's boxes: its answer, the table. -/
structure UsW (w : World) (br bn : Nat) (n : Int) (W : World) : Prop where
  hr : W.heap[br]? = some (.cells #[.bool false] 4 (0, 0))
  hn : W.heap[bn]? = some (.cells #[.int .i64 n] 3 (0, 0))
  bel : Below w.heap.size w W
theorem UsW.below {w : World} {br bn m : Nat} {n : Int} {A B : World} (h : UsW w br bn n A) (hb : Below m A B) (h1 : br < m) (h2 : bn < m) (h3 : w.heap.size ≤ m) : UsW w br bn n B :=
  ⟨(hb.block _ h1).trans h.hr, (hb.block _ h2).trans h.hn, h.bel.trans (hb.mono h3)⟩
/-- what has come so far is no part that is table n -/
def noneT (n : Int) (l : List Vis) : Bool := l.any (fun v => isT n v.2)
theorem noneT_snoc (n : Int) (l : List Vis) (v : Vis) : noneT n (l ++ [v]) = (noneT n l || isT n v.2) := by unfold noneT; rw [List.any_append]; simp
theorem noneT_prefix {n : Int} {a b : List Vis} (h : a <+: b) (hb : noneT n a = true) : noneT n b = true := by
  obtain ⟨c, rfl⟩ := h; unfold noneT at *; rw [List.any_append, hb, Bool.true_or]
set_option maxHeartbeats 8000000 in
set_option maxRecDepth 100000 in
/-- **impl.PlanUses** -/
theorem implPlanUses_c (x : S39) (n : Int) (cs : List Value) (w : World) (hK : k39.K w x cs) (hsm : Small39 x) :
    Calls Tryz.prog 12 #[.agg cs.toArray, .int .i64 n] w fun e w' => e = .returned (.bool (iUses x n)) ∧ Below w.heap.size w w' := by
  have LC := Aside0.mk (show cs.length = 19 from k39.K_len hK)
  have HK := Aside0.mk hK
  have CA := Aside0.mk (all_c cs)
  have CW := Aside0.mk (fun (W : World) (hb : Below w.heap.size w W) => writable_c x cs W (k39.K_below hb hK) hsm)
  obtain ⟨z, hz⟩ : ∃ z, z = fitB x := ⟨_, rfl⟩
  have VV := Aside0.mk (show iUses x n = (z && noneT n (goV x 0 0).1) by rw [hz]; rfl)
  rw [← hz] at CW
  clear hK hz hsm
  cases z with
  | false =>
    have V2 := Aside0.mk (VV.out.trans (Bool.false_and _))
    go_enter Tryz.func12, Tryz.ntmps12
    go_wp2_with (first
      | ((with_reducible refine gate_dst (N := 2) rfl ?_); refine box_ 39 (.tmp 0) rfl rfl cs.toArray rfl ?_; intro bp hg w1 hbx hB; have X1 := Aside0.mk hbx; have B1 := Aside0.mk hB; clear hbx hB hg)
      | ((with_reducible refine gate_dst (N := 3) rfl ?_); refine box1_ 3 (.tmp 1) rfl rfl (.int .i64 n) rfl rfl ?_; intro bn hg w2 hb hB; have X2 := Aside0.mk ((hB.block _ (blk_lt X1.out)).trans X1.out); have B2 := Aside0.mk (below_step B1.out hB); clear hg hb hB)
      | ((with_reducible refine gate_dst (N := 4) rfl ?_); refine alloc1_ 4 rfl rfl (.bool false) rfl 1 1 (by kernel_rfl) ?_; intro br hg w3 hb hB; have X3 := Aside0.mk ((hB.block _ (blk_lt X2.out)).trans X2.out); have R3 := Aside0.mk hb; have B3 := Aside0.mk (below_step B2.out hB); have GR := Aside0.mk (show w.heap.size ≤ br by rw [hg]; exact B2.out.size); clear hg hb hB)
      | ((with_reducible refine gate_dst (N := 7) rfl ?_); refine loadVar_ 39 (.tmp 2) rfl rfl bp ?hx cs _ Tryz.underlying39 ?hi _ X3.out ?_; (case hx => first | rfl | (go_simp; done) | (go_simp; rfl)); (case hi => rw [LC.out]; kernel_rfl))
      | (go_at_call 24; refine (CW.out _ B3.out).mono ?_; rintro e w4 ⟨rfl, hB⟩; have R4 := Aside0.mk ((hB.block _ (blk_lt R3.out)).trans R3.out); have B4 := Aside0.mk (below_step B3.out hB); clear hB)
      | ((with_reducible refine gate_ (.store 4 (.tmp 4) (.const (.bool false))) rfl ?_); refine store1_ 4 (.tmp 4) (.const (.bool false)) rfl rfl rfl br ?hp (.bool false) rfl rfl rfl (by kernel_rfl) _ _ R4.out ?_; (case hp => first | rfl | (go_simp; done) | (go_simp; rfl)); intro W5 hb hg; have B5 := Aside0.mk (B4.out.grown hg B4.out.size (fun k e => by cases e; exact GR.out)); have R5 := Aside0.mk hb; clear hb hg))
    exact bodyPost_ret (v := .bool false) (results_cell1 (p := 4) (ty := 4) rfl rfl R5.out Tryz.underlying4 rfl) rfl ⟨by rw [V2.out], B5.out⟩
  | true =>
    have V2 := Aside0.mk (VV.out.trans (Bool.true_and _))
    clear VV
    refine callsIn_wide (n := 0).1 ?_
    refine callsIn_of_wp_marks Tryz.func12 rfl trivial ?_ rfl
    simp only [Tryz.ntmps12, List.size_toArray, List.length_cons, List.length_nil, Nat.reduceAdd, Nat.reduceSub, Array.replicate_succ, Array.replicate_zero, List.push_toArray, List.append_toArray, List.nil_append, List.cons_append]
    refine wpIn_wide.2 ?_
    go_wp2_with (first
      | ((with_reducible refine gate_dst (N := 2) rfl ?_); refine box_ 39 (.tmp 0) rfl rfl cs.toArray rfl ?_; intro bp hg w1 hbx hB; have X1 := Aside0.mk hbx; have B1 := Aside0.mk hB; clear hbx hB hg)
      | ((with_reducible refine gate_dst (N := 3) rfl ?_); refine box1_ 3 (.tmp 1) rfl rfl (.int .i64 n) rfl rfl ?_; intro bn hg w2 hb hB; have X2 := Aside0.mk ((hB.block _ (blk_lt X1.out)).trans X1.out); have N2 := Aside0.mk hb; have B2 := Aside0.mk (below_step B1.out hB); clear hg hb hB X1)
      | ((with_reducible refine gate_dst (N := 4) rfl ?_); refine alloc1_ 4 rfl rfl (.bool false) rfl 1 1 (by kernel_rfl) ?_; intro br hg w3 hb hB; have X3 := Aside0.mk ((hB.block _ (blk_lt X2.out)).trans X2.out); have S3 := Aside0.mk (show UsW w br bn n w3 from ⟨hb, (hB.block _ (blk_lt N2.out)).trans N2.out, below_step B2.out hB⟩); have GR := Aside0.mk (show w.heap.size ≤ br by rw [hg]; exact B2.out.size); clear hg hb hB X2 N2 B2 B1)
      | ((with_reducible refine gate_dst (N := 7) rfl ?_); refine loadVar_ 39 (.tmp 2) rfl rfl bp ?hx cs _ Tryz.underlying39 ?hi _ X3.out ?_; (case hx => first | rfl | (go_simp; done) | (go_simp; rfl)); (case hi => rw [LC.out]; kernel_rfl))
      | (go_at_call 24; refine (CW.out _ S3.out.bel).mono ?_; rintro e w4 ⟨rfl, hB⟩; have X4 := Aside0.mk ((hB.block _ (blk_lt X3.out)).trans X3.out); have S4 := Aside0.mk (S3.out.below hB (blk_lt S3.out.hr) (blk_lt S3.out.hn) S3.out.bel.size); clear hB S3 X3)
      | ((with_reducible refine gate_dst (N := 10) rfl ?_); refine loadVar_ 39 (.tmp 2) rfl rfl bp ?hx cs _ Tryz.underlying39 ?hi _ X4.out ?_; (case hx => first | rfl | (go_simp; done) | (go_simp; rfl)); (case hi => rw [LC.out]; kernel_rfl))
      | (go_at_call 25; refine (CA.out _).mono ?_; rintro e w5 ⟨bx, rfl, hbx, hB⟩; have X5 := Aside0.mk hbx; have S5 := Aside0.mk (S4.out.below hB (blk_lt S4.out.hr) (blk_lt S4.out.hn) S4.out.bel.size); clear hbx hB S4 X4))
    refine (wpIn_wide (n := 0)).1 (wpIn_rangeAll (E := VisE w) (V := (goV x 0 0).1) (n₀ := w.heap.size) rfl (enters_v Tryz.func41 (by kernel_rfl) rfl) (all1_gives w x cs HK.out bx w5 X5.out S5.out.bel) S5.out.bel.size (fun v vs h => VisE_size h)
      (fun pre W => noneT n pre = false ∧ UsW w br bn n W) (fun c pre W => c = .ret ∧ noneT n pre = true ∧ W.heap[br]? = some (.cells #[.bool true] 4 (0, 0)) ∧ Below w.heap.size w W)
      (fun s A B hs hb => ⟨hs.1, hs.2.below hb (blk_lt S5.out.hr) (blk_lt S5.out.hn) S5.out.bel.size⟩) (fun c s A B hs hb => ⟨hs.1, hs.2.1, (hb.block _ (blk_lt S5.out.hr)).trans hs.2.2.1, hs.2.2.2.trans (hb.mono S5.out.bel.size)⟩) ⟨rfl, S5.out⟩ ?round ?done ?stop)
    case round =>
      rintro l pre v vs W hsz ⟨hno, hS⟩ ⟨cs', rfl, hk⟩ hpre
      have LR := Aside0.mk (blk_lt S5.out.hr)
      have LN := Aside0.mk (blk_lt S5.out.hn)
      have LX := Aside0.mk (show cs'.length = 19 from k39.K_len hk)
      have OX := Aside0.mk (show ∀ q ∈ cs', q.oneCell' = true from k39.K_one hk)
      obtain ⟨A12, c12, A15, c15, A18, c18, hcs, -, -, -, -, -, -⟩ := k39_open hk
      have E0 := Aside0.mk (show cs'[0]? = some (.int .i64 v.2.f0) by rw [hcs]; rfl)
      have E1 := Aside0.mk (show cs'[1]? = some (.int .i64 v.2.f1) by rw [hcs]; rfl)
      have SW := Aside0.mk hS
      have HZ := Aside0.mk hsz
      have NO := Aside0.mk hno
      have IT := Aside0.mk (show isT n v.2 = ((v.2.f0 == 1) && (v.2.f1 == n)) by unfold isT; rw [Bool.eq_iff_iff]; simp)
      have WS := Aside0.mk (show w.heap.size ≤ W.heap.size from hS.bel.size)
      clear hk hcs hS hsz hno hpre
      gi_wp2_with (first
        | ((with_reducible refine gateIn (N := 6) rfl ?_); refine allocIn_ 39 rfl rfl zero39 _ _ info39 ?_; intro gx hg wa1 hb hB; have BA1 := Aside0.mk hB; have YA1 := Aside0.mk hb; have GA1 := Aside0.mk hg; clear hb hB hg)
        | ((with_reducible refine gateInOp (op := .store 39 (.tmp 6) (.tmp 13)) rfl ?_); refine storeAllIn_ 39 (.tmp 6) (.tmp 13) rfl rfl rfl gx ?hp cs' ?hx2 ?ht OX.out zero39 _ YA1.out ?hf ?_; (case hp => first | rfl | (go_simp; done) | (go_simp; rfl)); (case hx2 => first | rfl | (go_simp; done) | (go_simp; rfl)); (case ht => rw [LX.out]; kernel_rfl); (case hf => rw [LX.out]; rfl); intro wc1 hb hg; have BC := Aside0.mk (BA1.out.grown hg BA1.out.size (fun k e => by injection e with e; rw [← e]; exact Nat.le_of_eq GA1.out.symm)); have XC := Aside0.mk hb; clear BA1 YA1 hb hg))
      refine ⟨Kp.of_below BC.out WS.out, ⟨NO.out, SW.out.below BC.out (blk_lt SW.out.hr) (blk_lt SW.out.hn) WS.out⟩, ?_⟩
      rintro W2 ⟨-, hS2⟩ hB2 hz2 hc2
      have S2 := Aside0.mk hS2
      have hx2 := hc2 _ _ XC.out rfl
      have q0 := (blk_cell hx2 0).trans (by simpa using E0.out)
      have q1 := (blk_cell hx2 1).trans (by simpa using E1.out)
      have qn : W2.cell? ⟨bn, 0, none⟩ = some (.int .i64 n) := by rw [blk_cell hS2.hn]; rfl
      have W2S := Aside0.mk (show w.heap.size ≤ W2.heap.size from hS2.bel.size)
      obtain ⟨k0, hk0⟩ : ∃ k, k = v.2.f0 := ⟨_, rfl⟩
      obtain ⟨k1, hk1⟩ : ∃ k, k = v.2.f1 := ⟨_, rfl⟩
      rw [← hk0, ← hk1] at IT
      rw [← hk0] at q0
      rw [← hk1] at q1
      obtain ⟨t0, ht0⟩ : ∃ t, (k0 == 1) = t := ⟨_, rfl⟩
      obtain ⟨t1, ht1⟩ : ∃ t, (k1 == n) = t := ⟨_, rfl⟩
      rw [ht0, ht1] at IT
      clear hk0 hk1 hS2 hB2 hz2 hc2 hx2 E0 E1
      have no2 : isT n v.2 = false → noneT n (pre ++ [v]) = false := fun h => by rw [noneT_snoc, NO.out, h]; rfl
      have NO2 := Aside0.mk no2
      have YE2 := Aside0.mk (fun (h : isT n v.2 = true) => show noneT n (pre ++ [v]) = true by rw [noneT_snoc, h, Bool.or_true])
      clear no2
      cases t0
      · gi_wp2
        exact ⟨Kp.refl _ _ _, NO2.out (by rw [IT.out]; rfl), S2.out⟩
      · cases t1
        · gi_wp2
          exact ⟨Kp.refl _ _ _, NO2.out (by rw [IT.out]; rfl), S2.out⟩
        · gi_wp2_with ((with_reducible refine gateInOp (op := .store 4 (.tmp 4) (.const (.bool true))) rfl ?_); refine store1In_ 4 (.tmp 4) (.const (.bool true)) rfl rfl rfl br ?hp (.bool true) rfl rfl rfl (by kernel_rfl) _ _ S2.out.hr ?_; (case hp => first | rfl | (go_simp; done) | (go_simp; rfl)); intro W4 hb hg; have R4 := Aside0.mk hb; have K4 := Aside0.mk (Kp.grown (M := w5.heap.size) hg GR.out W2S.out LR.out); have B4 := Aside0.mk (S2.out.bel.grown hg S2.out.bel.size (fun k e => by cases e; exact GR.out)); clear hb hg q0 q1 qn)
          exact ⟨K4.out, rfl, YE2.out (by rw [IT.out]; rfl), R4.out, B4.out⟩
    case done =>
      rintro D W hD ⟨hno, hS⟩ hK
      have ST := Aside0.mk hS
      have KD := Aside0.mk hK
      have NO := Aside0.mk hno
      clear hno hS hK
      go_wp2_with ((with_reducible refine gate_ (.store 4 (.tmp 4) (.const (.bool false))) rfl ?_); refine store1_ 4 (.tmp 4) (.const (.bool false)) rfl rfl rfl br ?hp (.bool false) rfl rfl rfl (by kernel_rfl) _ _ ST.out.hr ?_; (case hp => first | rfl | (go_simp; done) | (go_simp; rfl)); intro W4 hb hg; have B4 := Aside0.mk (ST.out.bel.grown hg ST.out.bel.size (fun k e => by cases e; exact GR.out)); have R4 := Aside0.mk hb; have D4 := Aside0.mk ((hg.block D (Array.getElem?_eq_some_iff.1 KD.out).1 (by intro e; injection e with e; have := blk_lt S5.out.hr; omega)).trans KD.out); clear hb hg ST)
      refine ⟨by simp, .inl ⟨_, _, rfl, run_takeDeferred D4.out, ?_⟩⟩
      have hb5 : Below w.heap.size W4 (W4.putObj D (.deferred none)) := below_putObj _ _ (by have := S5.out.bel.size; omega)
      refine ⟨.bool false, results_cell1 (p := 4) (ty := 4) rfl rfl ((World.putObj_heap_other (by have := blk_lt S5.out.hr; omega)).trans R4.out) Tryz.underlying4 rfl, ?_, B4.out.trans hb5⟩
      rw [V2.out, NO.out]
    case stop =>
      rintro D c pre W hD hpre ⟨rfl, hyes, hR, hBl⟩ hK
      have RT := Aside0.mk hR
      have BT := Aside0.mk hBl
      have KD := Aside0.mk hK
      have YE := Aside0.mk (noneT_prefix hpre hyes)
      clear hyes hR hBl hK hpre
      refine wpIn_wide.2 ?_
      go_wp2
      refine ⟨by simp, .inl ⟨_, _, rfl, run_takeDeferred KD.out, ?_⟩⟩
      have hb5 : Below w.heap.size W (W.putObj D (.deferred none)) := below_putObj _ _ (by have := S5.out.bel.size; omega)
      refine ⟨.bool true, results_cell1 (p := 4) (ty := 4) rfl rfl ((World.putObj_heap_other (by have := blk_lt S5.out.hr; omega)).trans RT.out) Tryz.underlying4 rfl, ?_, BT.out.trans hb5⟩
      rw [V2.out, YE.out]
end Pl

end
namespace Pl
/-! ### The reader of a draw's code -/
theorem xor_pos (x y : Int) (h0 : 0 ≤ x) (h1 : x < 4611686018427387904) (h2 : 0 ≤ y) (h3 : y < 4611686018427387904) : 0 ≤ Go.bits .xor .i64 x y := by
  obtain ⟨a, rfl⟩ := Int.eq_ofNat_of_zero_le h0
  obtain ⟨b, rfl⟩ := Int.eq_ofNat_of_zero_le h2
  have ha : a < 2 ^ 62 := by omega
  have hb : b < 2 ^ 62 := by omega
  have ha' : a % 2 ^ IntKind.i64.bits = a := Nat.mod_eq_of_lt (Nat.lt_of_lt_of_le ha (by decide))
  have hb' : b % 2 ^ IntKind.i64.bits = b := Nat.mod_eq_of_lt (Nat.lt_of_lt_of_le hb (by decide))
  have hx : a ^^^ b < 2 ^ 62 := Nat.xor_lt_two_pow ha hb
  simp only [bits, BitVec.ofInt_natCast, BitVec.toNat_xor, BitVec.toNat_ofNat, ha', hb']
  rw [IntKind.wrap_i64]
  omega
/-- a code as the draws read it, and a place in it -/
structure Code_ (b : List Int) : Prop where
  len : b.length ≤ 2000
  byte : ∀ i : Int, 0 ≤ rd b i ∧ rd b i ≤ 255
def lim : Int := 1000000000
theorem tmod_lt (x n : Int) (h0 : 0 ≤ x) (hn : 0 < n) : 0 ≤ Int.tmod x n ∧ Int.tmod x n < n := by
  rw [Int.tmod_eq_emod_of_nonneg h0]
  exact ⟨Int.emod_nonneg _ (by omega), Int.emod_lt_of_pos _ hn⟩
theorem pick_some {b : List Int} (hb : Code_ b) (p n : Int) (hp : 0 ≤ p) (hp1 : p ≤ lim) (hn : 1 ≤ n) : ∃ v, spec_l12Rd_pick.f b p n = some (v, p + 1) ∧ 0 ≤ v ∧ v < n := by
  have hl := hb.len
  unfold lim at hp1
  unfold spec_l12Rd_pick.f
  have e1 : wrap64 (p + 1) = p + 1 := w64 (by omega) (by omega)
  have e2 : wrap64 (p + 1 - 1) = p := by rw [w64 (by omega) (by omega)]; omega
  rw [e1, e2, if_neg (by omega)]
  by_cases h0 : (b.length : Int) = 0
  · rw [if_pos h0]; exact ⟨0, rfl, by omega, by omega⟩
  · rw [if_neg h0]
    by_cases h1 : p < b.length
    · rw [if_pos h1, if_pos hp, if_neg (by omega)]
      have hr := hb.byte p
      rw [w64 (by omega) (by omega)]
      have := tmod_lt (rd b p) n hr.1 (by omega)
      exact ⟨_, rfl, this.1, this.2⟩
    · rw [if_neg h1]
      have hm := tmod_lt p b.length hp (by omega)
      have e3 : wrap64 (p * 7) = p * 7 := w64 (by omega) (by omega)
      have e4 : wrap64 (p * 7 + 3) = p * 7 + 3 := w64 (by omega) (by omega)
      have hm2 := tmod_lt (p * 7 + 3) b.length (by omega) (by omega)
      rw [e3, e4, if_pos hm.1, if_pos hm.2, if_pos hm2.1, if_pos hm2.2, if_neg (by omega)]
      have b1 := hb.byte (Int.tmod p b.length)
      have b2 := hb.byte (Int.tmod (p * 7 + 3) b.length)
      generalize rd b (Int.tmod p b.length) = u at b1 ⊢
      generalize rd b (Int.tmod (p * 7 + 3) b.length) = v at b2 ⊢
      have hd : 0 ≤ Int.tdiv p b.length ∧ Int.tdiv p b.length ≤ p := by
        rw [Int.tdiv_eq_ediv_of_nonneg hp]
        exact ⟨Int.ediv_nonneg hp (by omega), Int.ediv_le_self _ hp⟩
      generalize Int.tdiv p b.length = d at hd ⊢
      have f1 : wrap64 u = u := w64 (by omega) (by omega)
      have f2 : wrap64 v = v := w64 (by omega) (by omega)
      have f3 : wrap64 d = d := w64 (by omega) (by omega)
      have f4 : wrap64 (u * 131) = u * 131 := w64 (by omega) (by omega)
      have f5 : wrap64 (v * 1117) = v * 1117 := w64 (by omega) (by omega)
      have f6 : wrap64 (p * 29) = p * 29 := w64 (by omega) (by omega)
      have f7 : wrap64 (d * 53) = d * 53 := w64 (by omega) (by omega)
      have f8 : wrap64 (u * 131 + v * 1117) = u * 131 + v * 1117 := w64 (by omega) (by omega)
      have f9 : wrap64 (u * 131 + v * 1117 + p * 29) = u * 131 + v * 1117 + p * 29 := w64 (by omega) (by omega)
      have f10 : wrap64 (u * 131 + v * 1117 + p * 29 + d * 53) = u * 131 + v * 1117 + p * 29 + d * 53 := w64 (by omega) (by omega)
      rw [f1, f2, f3, f4, f5, f6, f7, f8, f9, f10]
      generalize hX : u * 131 + v * 1117 + p * 29 + d * 53 = X
      have hX0 : 0 ≤ X := by omega
      have hX1 : X < 4611686018427387904 := by omega
      have g1 : Int.tdiv X 64 = X / 64 := Int.tdiv_eq_ediv_of_nonneg hX0
      rw [g1, w64 (by omega) (by omega)]
      have := tmod_lt (Go.bits .xor .i64 X (X / 64)) n (xor_pos X (X / 64) hX0 hX1 (by omega) (by omega)) (by omega)
      exact ⟨_, rfl, this.1, this.2⟩
theorem pick_any {b : List Int} (hb : Code_ b) (p n : Int) (hp : 0 ≤ p) (hp1 : p ≤ lim) : ∃ v, spec_l12Rd_pick.f b p n = some (v, p + 1) ∧ (1 ≤ n → 0 ≤ v ∧ v < n) := by
  by_cases hn : 1 ≤ n
  · obtain ⟨v, h, h0, h1⟩ := pick_some hb p n hp hp1 hn
    exact ⟨v, h, fun _ => ⟨h0, h1⟩⟩
  · have hl : lim = 1000000000 := rfl
    have e1 : wrap64 (p + 1) = p + 1 := w64 (by omega) (by omega)
    refine ⟨0, ?_, fun h => absurd h hn⟩
    unfold spec_l12Rd_pick.f
    rw [e1, if_pos (by omega)]
theorem rd_mem (l : List Int) (i : Int) (h0 : 0 ≤ i) (h1 : i < l.length) : rd l i ∈ l := by
  obtain ⟨n, rfl⟩ := Int.eq_ofNat_of_zero_le h0
  rw [show ((n : Nat) : Int) = (n : Int) from rfl, rd_nat, List.getD_eq_getElem?_getD, List.getElem?_eq_getElem (by omega)]
  exact List.getElem_mem _
theorem open_some (l : List Int) (hl : ∀ x ∈ l, (Lit.int .u8 x).wf = true) : ∃ b, spec_l12Open.f l = some (b, 0) ∧ Code_ b := by
  have hw : ∀ x ∈ l, 0 ≤ x ∧ x ≤ 255 := fun x hx => by
    have := hl x hx
    simp [Lit.wf, IntKind.min, IntKind.max, IntKind.bits, IntKind.signed] at this
    omega
  have hr : ∀ m : List Int, (∀ x ∈ m, 0 ≤ x ∧ x ≤ 255) → ∀ i : Int, 0 ≤ rd m i ∧ rd m i ≤ 255 := fun m hm i => by
    unfold rd
    rw [List.getD_eq_getElem?_getD]
    cases h : m[i.toNat]? with
    | none => simp
    | some x => exact hm x (List.mem_of_getElem? h)
  unfold spec_l12Open.f
  by_cases h : (l.length : Int) > 2000
  · rw [if_pos h, if_pos (by omega)]
    exact ⟨_, rfl, ⟨by simp; omega, hr _ (fun x hx => hw x (List.mem_of_mem_take hx))⟩⟩
  · rw [if_neg h]
    exact ⟨_, rfl, ⟨by omega, hr _ hw⟩⟩

/-- The reader at block g: so many looks more are let. -/
structure RdW (w0 : World) (g : Nat) (b : List Int) (c : Nat) (w : World) : Prop where
  code : Code_ b
  is_ : ∃ p : Int, IsS76 w0 w g b p ∧ 0 ≤ p ∧ p + c ≤ lim
  bel : Below w0.heap.size w0 w
theorem RdW.ge {w0 : World} {g : Nat} {b : List Int} {c : Nat} {w : World} (h : RdW w0 g b c w) : w0.heap.size ≤ g := by
  obtain ⟨p, hI, _⟩ := h.is_; exact IsS76.ge hI
theorem RdW.lt {w0 : World} {g : Nat} {b : List Int} {c : Nat} {w : World} (h : RdW w0 g b c w) : g < w.heap.size := by
  obtain ⟨p, hI, _⟩ := h.is_; exact IsS76.lt hI
theorem RdW.less {w0 : World} {g : Nat} {b : List Int} {c c' : Nat} {w : World} (h : RdW w0 g b c w) (hc : c' ≤ c) : RdW w0 g b c' w := by
  obtain ⟨p, hI, h0, h1⟩ := h.is_; exact ⟨h.code, ⟨p, hI, h0, by omega⟩, h.bel⟩
theorem RdW.below {w0 : World} {g : Nat} {b : List Int} {c : Nat} {w w1 : World} (h : RdW w0 g b c w) (hb : Below w.heap.size w w1) : RdW w0 g b c w1 := by
  obtain ⟨p, hI, h0, h1⟩ := h.is_; exact ⟨h.code, ⟨p, hI.below hb, h0, h1⟩, below_step h.bel hb⟩
theorem RdW.grown {w0 : World} {g : Nat} {b : List Int} {c : Nat} {w w1 : World} {row : Option Nat} (h : RdW w0 g b c w) (hg : w.grownBy w1 row) (hn : some g ≠ row) (hr : ∀ k, row = some k → w0.heap.size ≤ k) : RdW w0 g b c w1 := by
  obtain ⟨p, hI, h0, h1⟩ := h.is_; exact ⟨h.code, ⟨p, hI.grown hg hn, h0, h1⟩, h.bel.grown hg h.bel.size hr⟩
theorem RdW.drew {w0 : World} {g : Nat} {b : List Int} {c : Nat} {w : World} (h : RdW w0 g b c w) : RdW w0 g b c w.drew := by
  obtain ⟨p, hI, h0, h1⟩ := h.is_; exact ⟨h.code, ⟨p, hI.drew, h0, h1⟩, below_drew h.bel⟩
/-- **pick** -/
theorem pick_c {w0 : World} {g : Nat} {b : List Int} {c : Nat} {w : World} (h : RdW w0 g b (c + 1) w) (n : Int) :
    Calls Tryz.prog 33 #[.pointer (some ⟨g, 0, none⟩), .int .i64 n] w fun e w' => (∃ v : Int, e = .returned (.int .i64 v) ∧ (1 ≤ n → 0 ≤ v ∧ v < n)) ∧ RdW w0 g b c w' ∧ KeepBut w w' g none := by
  obtain ⟨p, hI, h0, h1⟩ := h.is_
  obtain ⟨v, hv, hn⟩ := pick_any h.code p n h0 (by omega)
  exact (spec_l12Rd_pick.calls g b p n v (p + 1) w0 w hI h.bel hv).mono fun e w' ⟨he, hI', hB, hk⟩ => ⟨⟨v, he, hn⟩, ⟨h.code, ⟨p + 1, hI', by omega, by omega⟩, hB⟩, hk⟩
/-- **num** -/
theorem num_c {w0 : World} {g : Nat} {b : List Int} {c : Nat} {w : World} (h : RdW w0 g b (c + 1) w) (A : Option Addr) (m : Nat) (l : List Int) (hl : 1 ≤ l.length) (hr : Kd.C (Kd.int .i64) w A l.length l) (hm : l.length ≤ m) (hf : ∀ ad, A = some ad → 0 < l.length → ad.block ≠ g) :
    Calls Tryz.prog 45 #[.pointer (some ⟨g, 0, none⟩), .slice A l.length m] w fun e w' => (∃ v : Int, e = .returned (.int .i64 v)) ∧ RdW w0 g b c w' ∧ KeepBut w w' g none := by
  obtain ⟨p, hI, h0, h1⟩ := h.is_
  obtain ⟨v, hv, hn, hn1⟩ := pick_some h.code p l.length h0 (by omega) (by omega)
  refine (spec_l12Rd_num.calls g b p A m l (rd l v) (p + 1) w0 w hI h.bel hr hm hf ?_).mono fun e w' ⟨he, hI', hB, hk⟩ => ⟨⟨_, he⟩, ⟨h.code, ⟨p + 1, hI', by omega, by omega⟩, hB⟩, hk⟩
  unfold spec_l12Rd_num.f
  rw [hv]
  show (if 0 ≤ v then _ else _) = _
  rw [if_pos hn, if_pos hn1]
/-- **l12Open** -/
theorem open_c (A : Option Addr) (m : Nat) (l : List Int) (w : World) (hr : Kd.C (Kd.int .u8) w A l.length l) (hm : l.length ≤ m) (hl : ∀ x ∈ l, (Lit.int .u8 x).wf = true) :
    Calls Tryz.prog 31 #[.slice A l.length m] w fun e w' => ∃ g b, e = .returned (.pointer (some ⟨g, 0, none⟩)) ∧ RdW w g b 1000000 w' ∧ Below w.heap.size w w' := by
  obtain ⟨b, hb, hc⟩ := open_some l hl
  exact (spec_l12Open.calls A m l b 0 w w (Below.refl _ _) hr hm hb).mono fun e w' ⟨g, he, hI, hB, hB'⟩ => ⟨g, b, he, ⟨hc, ⟨0, hI, by omega, by decide⟩, hB⟩, hB'⟩
/-! What a world keeps but for the reader's block. -/
theorem KeepBut.below_ {w w1 : World} (h : Below w.heap.size w w1) (g : Nat) : KeepBut w w1 g none := KeepBut.of_below h g none
theorem KeepBut.tr {w w1 w2 : World} {g : Nat} (h : KeepBut w w1 g none) (k : KeepBut w1 w2 g none) : KeepBut w w2 g none := h.trans k (.inl rfl)
theorem KeepBut.new_ {w w1 w2 : World} {g q : Nat} (h : KeepBut w w1 g none) (k : w1.grownBy w2 (some q)) (hq : w.heap.size ≤ q) : KeepBut w w2 g none :=
  ⟨Nat.le_trans h.1 k.size, fun i hi hg hn => (k.block i (Nat.lt_of_lt_of_le hi h.1) (by intro e; injection e with e; omega)).trans (h.2 i hi hg hn)⟩
theorem KeepBut.blk {w w1 : World} {g q : Nat} {o : Obj} (h : KeepBut w w1 g none) (hq : w.heap[q]? = some o) (hne : q ≠ g) : w1.heap[q]? = some o :=
  (h.2 q (blk_lt hq) hne (by simp)).trans hq
end Pl

end Go.Proofs.YtlpgnkndjmfcjaaGreat.PFnPlanUses
