/- The given specification's l4Wide at every plan. The given specification's PlanWide at every plan. What impl.PlanWide and spec.PlanWide return is one number, in plain Lean, and what the measure lets by has at most 2^20 parts and one. The law FnExactPlanWide returns true for each plan and row of widths, and leaves what lay in the world as it was. -/
import Derived.Test.YtlpgnkndjmfcjaaPlL4wide
namespace Go.Proofs.Ytlpgnkndjmfcjaa.PFnExactPlanWide
open Go.RowKit Go.Proofs.YtlpgnkndjmfcjaaW.PrintWords Go.Proofs.YtlpgnkndjmfcjaaW.PrintLast Go.Proofs.YtlpgnkndjmfcjaaW.PrintMore
attribute [local go_sem] max2_int min2_int max_two min_two max_three min_three max_four min_four   -- for this text's walks alone
set_option linter.unusedVariables false
set_option linter.unusedSimpArgs false
namespace Pl
theorem kidsN_in {q : Int} {n : Nat} (h : kidsN q = n) : q = 1 ∧ n = 0 ∨ q = 2 ∧ n = 1 ∨ q = 3 ∧ n = 1 ∨ q = 4 ∧ n = 2 ∨ q = 5 ∧ n = 2 ∨ q = 6 ∧ n = 1 ∨ q = 7 ∧ n = 1 := by
  unfold kidsN at h
  omega
theorem sw_step (N : Nat) (ih : ∀ m, m ≤ N → SwP m) : SwP (N + 1) := by
  intro x cs A c t d w hn hK hsm hr hc hl hd
  cases d with
  | zero => exact l4Wide_a x cs A c t 0 w hK hsm hr hc hl hd
  | succ d =>
    have hd' : d ≤ 1000 := by omega
    by_cases hk : kidsN x.f0 = x.f9.length
    · cases hcl : cleanB x with
      | false => exact l4Wide_c0 x cs A c t d w hK hsm hr hc hl hd' hk hcl
      | true =>
        rcases kidsN_in hk with ⟨e, hlen⟩ | ⟨e, hlen⟩ | ⟨e, hlen⟩ | ⟨e, hlen⟩ | ⟨e, hlen⟩ | ⟨e, hlen⟩ | ⟨e, hlen⟩
        · by_cases h1 : x.f1 < 0
          · exact l4Wide_tabA N ih x cs A c t d w hK hsm hr hc hl hd' hn e hlen hcl h1
          · by_cases h2 : x.f1 < (t.length : Int)
            · exact l4Wide_tabC N ih x cs A c t d w hK hsm hr hc hl hd' hn e hlen hcl (by omega) h2
            · exact l4Wide_tabB N ih x cs A c t d w hK hsm hr hc hl hd' hn e hlen hcl (by omega) (by omega)
        · exact l4Wide_where N ih x cs A c t d w hK hsm hr hc hl hd' hn e hlen hcl
        · exact l4Wide_map N ih x cs A c t d w hK hsm hr hc hl hd' hn e hlen hcl
        · exact l4Wide_join N ih x cs A c t d w hK hsm hr hc hl hd' hn e hlen hcl
        · exact l4Wide_both N ih x cs A c t d w hK hsm hr hc hl hd' hn e hlen hcl
        · exact l4Wide_once N ih x cs A c t d w hK hsm hr hc hl hd' hn e hlen hcl
        · exact l4Wide_group N ih x cs A c t d w hK hsm hr hc hl hd' hn e hlen hcl
    · exact l4Wide_b x cs A c t d w hK hsm hr hc hl hd' hk
theorem sw_all (N : Nat) : SwP N := by
  induction N using Nat.strongRecOn with
  | _ N ih =>
    cases N with
    | zero => intro x cs A c t d w hn; have := sz39_kids x; omega
    | succ N => exact sw_step N (fun m hm => ih m (by omega))
/-- **spec.l4Wide** -/
theorem l4Wide_c (x : S39) (cs : List Value) (A : Option Addr) (c : Nat) (t : List Int) (d : Nat) (w : World) (hK : k39.K w x cs) (hsm : Small39 x) (hr : Kd.C (Kd.int .i64) w A t.length t) (hc : t.length ≤ c) (hl : t.length ≤ 3) (hd : d ≤ 1000) :
    Calls Try.prog 38 #[.agg cs.toArray, .slice A t.length c, .int .i64 d] w fun e w' => e = .returned (.int .i64 (sWide t x d)) ∧ Below w.heap.size w w' :=
  sw_all _ x cs A c t d w (Nat.le_refl _) hK hsm hr hc hl hd
end Pl
namespace Pl
/-- spec.PlanWide -/
def sW (x : S39) (t : List Int) : Int := if 3 < t.length ∨ 10 < manyF x 6 then -1 else sWide t x 6
set_option maxHeartbeats 8000000 in
set_option maxRecDepth 100000 in
/-- **spec.PlanWide** -/
theorem specPlanWide_c (x : S39) (cs : List Value) (A : Option Addr) (c : Nat) (t : List Int) (w : World) (hK : k39.K w x cs) (hsm : Small39 x) (hbig : sz39 x ≤ 1099511627776) (hr : Kd.C (Kd.int .i64) w A t.length t) (hc : t.length ≤ c) (hl : t.length ≤ 1048576) :
    Calls Try.prog 13 #[.agg cs.toArray, .slice A t.length c] w fun e w' => e = .returned (.int .i64 (sW x t)) ∧ Below w.heap.size w w' := by
  have LC := Aside0.mk (show cs.length = 19 from k39.K_len hK)
  by_cases h3 : t.length ≤ 3
  rotate_left
  · have VV := Aside0.mk (show sW x t = -1 by unfold sW; rw [if_pos (.inl (by omega))])
    have d3 : decide ((3 : Int) < (t.length : Int)) = true := by simp; omega
    clear h3 hK hsm hr hbig
    go_enter Try.func13, Try.ntmps13
    go_wp2_with ((with_reducible refine gate_dst (N := 2) rfl ?_); refine box_ 39 (.tmp 0) rfl rfl cs.toArray rfl ?_; intro gb hg w1 hb hB; have X1 := Aside0.mk hb; have B1 := Aside0.mk hB; clear hb hB hg)
    go_ret
    exact ⟨by rw [VV.out]; rfl, B1.out⟩
  have SZ := Aside0.mk (fun (W : World) (hb : Below w.heap.size w W) => l4Many_c x cs 6 W hbig (by decide) (k39.K_below hb hK))
  have WO := Aside0.mk (fun (W : World) (hb : Below w.heap.size w W) => l4Wide_c x cs A c t 6 W (k39.K_below hb hK) hsm (Kd.C_below hr hb) hc h3 (by decide))
  have N1 := Aside0.mk (fun (h : 10 < manyF x 6) => show sW x t = -1 by unfold sW; rw [if_pos (.inr h)])
  have Y1 := Aside0.mk (fun (h : ¬ 10 < manyF x 6) => show sW x t = sWide t x 6 by unfold sW; rw [if_neg (by omega)])
  obtain ⟨z, hz⟩ : ∃ z, z = manyF x 6 := ⟨_, rfl⟩
  rw [← hz] at SZ N1 Y1
  have d3 : decide ((3 : Int) < (t.length : Int)) = false := by simp; omega
  clear h3 hK hsm hr hbig hz
  go_enter Try.func13, Try.ntmps13
  by_cases h10 : 10 < z
  · have VV := Aside0.mk (N1.out h10)
    have d10 : decide ((10 : Int) < (z : Int)) = true := by simp; omega
    clear h10 N1 Y1
    go_wp2_with (first
      | ((with_reducible refine gate_dst (N := 2) rfl ?_); refine box_ 39 (.tmp 0) rfl rfl cs.toArray rfl ?_; intro gb hg w1 hb hB; have X1 := Aside0.mk hb; have B1 := Aside0.mk hB; clear hb hB hg)
      | ((with_reducible refine gate_dst (N := 9) rfl ?_); refine loadW_ 39 (.tmp 2) rfl ?hw ⟨gb, 0, none⟩ ?hx cs _ Try.underlying39 ?hi (sub_ X1.out [] cs [] (by simp)) ?_; (case hw => first | rfl | (simp [Region.wanted, yielded]; done)); (case hx => first | rfl | (go_simp; done) | (go_simp; rfl)); (case hi => rw [LC.out]; kernel_rfl))
      | (go_at_call 37; refine (SZ.out _ B1.out).mono ?_; rintro e w2 ⟨rfl, hB⟩; have X2 := Aside0.mk ((hB.block _ (blk_lt X1.out)).trans X1.out); have B2 := Aside0.mk (below_step B1.out hB); clear hB))
    go_ret
    exact ⟨by rw [VV.out]; rfl, B2.out⟩
  · have VV := Aside0.mk (Y1.out h10)
    have d10 : decide ((10 : Int) < (z : Int)) = false := by simp; omega
    clear h10 N1 Y1
    go_wp2_with (first
      | ((with_reducible refine gate_dst (N := 2) rfl ?_); refine box_ 39 (.tmp 0) rfl rfl cs.toArray rfl ?_; intro gb hg w1 hb hB; have X1 := Aside0.mk hb; have B1 := Aside0.mk hB; clear hb hB hg)
      | ((with_reducible refine gate_dst (N := 9) rfl ?_); refine loadW_ 39 (.tmp 2) rfl ?hw ⟨gb, 0, none⟩ ?hx cs _ Try.underlying39 ?hi (sub_ X1.out [] cs [] (by simp)) ?_; (case hw => first | rfl | (simp [Region.wanted, yielded]; done)); (case hx => first | rfl | (go_simp; done) | (go_simp; rfl)); (case hi => rw [LC.out]; kernel_rfl))
      | (go_at_call 37; refine (SZ.out _ B1.out).mono ?_; rintro e w2 ⟨rfl, hB⟩; have X2 := Aside0.mk ((hB.block _ (blk_lt X1.out)).trans X1.out); have B2 := Aside0.mk (below_step B1.out hB); clear hB)
      | ((with_reducible refine gate_dst (N := 13) rfl ?_); refine loadVar_ 39 (.tmp 2) rfl rfl gb ?hx cs _ Try.underlying39 ?hi _ X2.out ?_; (case hx => first | rfl | (go_simp; done) | (go_simp; rfl)); (case hi => rw [LC.out]; kernel_rfl))
      | (go_at_call 38; refine (WO.out _ B2.out).mono ?_; rintro e w3 ⟨rfl, hB⟩; have B3 := Aside0.mk (below_step B2.out hB); clear hB))
    go_ret
    exact ⟨by rw [VV.out]; rfl, B3.out⟩
end Pl
namespace Pl
/-! ### impl.PlanWide and spec.PlanWide are one -/
mutual
/-- How deep a plan goes. -/
def hgt : S39 → Nat
  | ⟨_, _, _, _, _, _, _, _, _, ks⟩ => hgts ks + 1
def hgts : List S39 → Nat
  | [] => 0
  | k :: ks => max (hgt k) (hgts ks)
end
theorem hgt_eq (x : S39) : hgt x = hgts x.f9 + 1 := by cases x; rfl
theorem shaped_clean (x : S39) : shapedB x = (decide (kidsN x.f0 = x.f9.length) && cleanB x) := by
  obtain ⟨a, b, ts, cells, c, d, keys, e, f, ks⟩ := x
  rw [Bool.eq_iff_iff, Bool.and_eq_true, decide_eq_true_iff]
  unfold shapedB kidsN cleanB
  by_cases h1 : a = 1
  · subst h1; simp [shB, same_iff, noKids, tableOnly, and_assoc]; intros; cases ks with | nil => simp | cons k ks => simp; omega
  by_cases h2 : a = 2
  · subst h2; simp [shB, same_iff, noKids, whereOnly, and_assoc]; intros; omega
  by_cases h3 : a = 3
  · subst h3; simp [shB, same_iff, noKids, mapOnly, and_assoc]; intros; omega
  by_cases h4 : a = 4
  · subst h4; simp [shB, same_iff, noKids, joinOnly, and_assoc]; intros; omega
  by_cases h5 : a = 5
  · subst h5; simp [shB, same_iff, noKids, bothOnly, and_assoc]; intros; omega
  by_cases h6 : a = 6
  · subst h6; simp [shB, same_iff, noKids, onceOnly, and_assoc]; intros; omega
  by_cases h7 : a = 7
  · subst h7; simp [shB, same_iff, noKids, groupOnly, and_assoc]; intros; omega
  simp [h1, h2, h3, h4, h5, h6, h7]
  try (intros; omega)
theorem gW_if (ok : Bool) (v : Int) : gW (ifW ok v) = finB ok v := by
  unfold gW ifW finB
  cases ok
  · simp
  · simp
theorem gW_fin (v : Int) : gW v = finB true v := by rw [← gW_if]; rfl
theorem finB_is (ok : Bool) (v : Int) : finB ok v = -1 ∨ 1 ≤ finB ok v := by
  unfold finB; split
  · omega
  · exact .inl rfl
theorem raw_fin (x : S39) (t ws : List Int) (h : ¬ x.f0 = 1) : gW (rawW x ws) = finB (okS x t ws) (wS x t ws) := by
  unfold rawW okS wS
  rw [if_neg h, if_neg h, if_neg h]
  by_cases h2 : x.f0 = 2
  · simp only [h2, if_true]; exact gW_if _ _
  rw [if_neg h2, if_neg h2, if_neg h2]
  by_cases h3 : x.f0 = 3
  · simp only [h3, if_true]; exact gW_if _ _
  rw [if_neg h3, if_neg h3, if_neg h3]
  by_cases h4 : x.f0 = 4
  · simp only [h4, if_true]; exact gW_if _ _
  rw [if_neg h4, if_neg h4, if_neg h4]
  by_cases h5 : x.f0 = 5
  · simp only [h5, if_true]; exact gW_if _ _
  rw [if_neg h5, if_neg h5, if_neg h5]
  by_cases h6 : x.f0 = 6
  · simp only [h6, if_true]; exact gW_fin _
  rw [if_neg h6, if_neg h6, if_neg h6, gW_if]
  congr 1
  cases keysB x.f6 (rd ws 0) <;> cases decide (0 ≤ x.f7) <;> cases decide (x.f7 ≤ 3) <;> rfl
theorem raw_tab (x : S39) (t ws : List Int) (h : x.f0 = 1) : gW (rawW x t) = finB (okS x t ws) (wS x t ws) := by
  unfold rawW okS wS
  rw [if_pos h, if_pos h, if_pos h]
  unfold tableW
  by_cases hc : 0 ≤ x.f1 ∧ x.f1 < t.length
  · rw [if_pos hc, decide_eq_true hc]; exact gW_fin _
  · rw [if_neg hc, decide_eq_false hc]; rfl
/-- Where a plan goes no deeper than that, both count alike. -/
theorem wide_same (t : List Int) : ∀ (m : Nat) (x : S39), sz39 x ≤ m → ∀ d, hgt x ≤ d → wideF gW t x = sWide t x d ∧ (sWide t x d = -1 ∨ 1 ≤ sWide t x d) := by
  intro m
  induction m with
  | zero => intro x h; have := sz39_kids x; omega
  | succ m ih =>
    intro x hm d hd
    have hk := sz39_kids x
    rw [hgt_eq] at hd
    have go : ∀ (ks : List S39), szs39 ks ≤ m → ∀ d, hgts ks ≤ d → wideFs gW t ks = sWides t ks d := by
      intro ks
      induction ks with
      | nil => intro _ d _; rfl
      | cons k ks ihk =>
        intro hs d hd
        simp only [szs39] at hs
        simp only [hgts] at hd
        obtain ⟨e1, e2⟩ := ih k (by omega) d (by omega)
        rw [wideFs, sWides, e1, ihk (by omega) d (by omega)]
        by_cases hv : sWide t k d = -1
        · rw [if_pos hv, if_pos (by omega)]
        · rw [if_neg hv, if_neg (by omega)]
    obtain ⟨d, rfl⟩ : ∃ d', d = d' + 1 := ⟨d - 1, by omega⟩
    have hgo := go x.f9 (by omega) d (by omega)
    have sc := shaped_clean x
    by_cases hsh : shapedB x = true
    · rw [hsh] at sc
      have sc2 : kidsN x.f0 = x.f9.length ∧ cleanB x = true := by simpa using sc.symm
      by_cases h1 : x.f0 = 1
      · have h9 : x.f9 = [] := by
          have h := sc2.1; rw [h1] at h
          have : (x.f9.length : Int) = 0 := h.symm
          exact List.eq_nil_of_length_eq_zero (by omega)
        have hs : sWides t x.f9 d = some [] := by rw [h9]; rfl
        rw [sWide_some sc2.1 sc2.2 hs]
        refine ⟨?_, finB_is _ _⟩
        by_cases h0 : t.length = 0
        · rw [wideF_tab0 hsh h1 h0, finB_no]
          left; unfold okS; rw [if_pos h1, h0]; exact decide_eq_false (by omega)
        · rw [wideF_tab hsh h1 h0]; exact raw_tab x t [] h1
      · cases hs : sWides t x.f9 d with
        | none => rw [wideF_none h1 (hgo.trans hs), sWide_none hs]; exact ⟨rfl, .inl rfl⟩
        | some ws => rw [wideF_some hsh h1 (hgo.trans hs), sWide_some sc2.1 sc2.2 hs]; exact ⟨raw_fin x t ws h1, finB_is _ _⟩
    · have hsf : shapedB x = false := by simpa using hsh
      rw [hsf] at sc
      have sc2 : kidsN x.f0 ≠ x.f9.length ∨ cleanB x = false := by
        by_cases h : kidsN x.f0 = x.f9.length
        · right; simpa [h] using sc.symm
        · exact .inl h
      rw [wideF_no hsf, sWide_no (.inr sc2)]
      exact ⟨rfl, .inl rfl⟩
/-- What goes deeper has no width. -/
theorem wide_deep (t : List Int) : ∀ (m : Nat) (x : S39), sz39 x ≤ m → ∀ d, d < hgt x → sWide t x d = -1 := by
  intro m
  induction m with
  | zero => intro x h; have := sz39_kids x; omega
  | succ m ih =>
    intro x hm d hd
    have hk := sz39_kids x
    rw [hgt_eq] at hd
    have go : ∀ (ks : List S39), szs39 ks ≤ m → ∀ d, d < hgts ks → sWides t ks d = none := by
      intro ks
      induction ks with
      | nil => intro _ d h; simp only [hgts] at h; omega
      | cons k ks ihk =>
        intro hs d hd
        simp only [szs39] at hs
        simp only [hgts] at hd
        rw [sWides]
        by_cases hv : sWide t k d < 1
        · rw [if_pos hv]
        · rw [if_neg hv]
          by_cases h : d < hgt k
          · have := ih k (by omega) d h; omega
          · rw [ihk (by omega) d (by omega)]; rfl
    cases d with
    | zero => exact sWide_no (.inl rfl)
    | succ d => exact sWide_none (go x.f9 (by omega) d (by omega))
/-- l4Many counts all of a plan that is not too deep. -/
theorem many_full : ∀ (m : Nat) (x : S39), sz39 x ≤ m → ∀ d, hgt x ≤ d + 1 → manyF x d = sz39 x := by
  intro m
  induction m with
  | zero => intro x h; have := sz39_kids x; omega
  | succ m ih =>
    intro x hm d hd
    have hk := sz39_kids x
    rw [hgt_eq] at hd
    have go : ∀ (ks : List S39), szs39 ks ≤ m → ∀ d, hgts ks ≤ d + 1 → manysF ks d = szs39 ks := by
      intro ks
      induction ks with
      | nil => intro _ d _; rfl
      | cons k ks ihk =>
        intro hs d hd
        simp only [szs39] at hs
        simp only [hgts] at hd
        rw [manysF, szs39, ih k (by omega) d (by omega), ihk (by omega) d (by omega)]
    rw [manyF_eq, hk]
    by_cases h0 : d = 0
    · rw [if_pos h0]
      have h9 : x.f9 = [] := by
        cases h : x.f9 with
        | nil => rfl
        | cons k ks => rw [h] at hd; simp only [hgts] at hd; rw [hgt_eq] at hd; omega
      rw [h9]; rfl
    · rw [if_neg h0, go x.f9 (by omega) (d - 1) (by omega)]
/-- The iterator comes to the end of what is neither too deep nor too many. -/
theorem goV_full : ∀ (m : Nat) (x : S39), sz39 x ≤ m → ∀ deep n, ((goV x deep n).2 = true ↔ hgt x + deep ≤ 6 ∧ n + sz39 x ≤ 10) ∧ ((goV x deep n).2 = true → (goV x deep n).1.length = sz39 x) := by
  intro m
  induction m with
  | zero => intro x h; have := sz39_kids x; omega
  | succ m ih =>
    intro x hm deep n
    have hk := sz39_kids x
    have hh := hgt_eq x
    have go : ∀ (ks : List S39), szs39 ks ≤ m → ∀ deep n, n ≤ 10 → deep ≤ 6 → ((goVs ks deep n).2 = true ↔ hgts ks + deep ≤ 6 ∧ n + szs39 ks ≤ 10) ∧ ((goVs ks deep n).2 = true → (goVs ks deep n).1.length = szs39 ks) := by
      intro ks
      induction ks with
      | nil => intro _ deep n h1 h2; have e0 : szs39 [] = 0 := rfl; have e1 : hgts [] = 0 := rfl; exact ⟨⟨fun _ => by omega, fun _ => by rw [goVs]⟩, fun _ => by rw [goVs]; rfl⟩
      | cons k ks ihk =>
        intro hs deep n h1 h2
        simp only [szs39] at hs
        obtain ⟨a1, a2⟩ := ih k (by omega) deep n
        simp only [hgts, szs39]
        by_cases hc : (goV k deep n).2 = true
        · have e := a2 hc
          have b := a1.1 hc
          rw [goVs_true hc, e]
          obtain ⟨c1, c2⟩ := ihk (by omega) deep (n + sz39 k) (by omega) h2
          refine ⟨?_, fun h => ?_⟩
          · simp only; rw [c1]; omega
          · simp only [List.length_append]; rw [e, c2 h]
        · rw [goVs_false (by simpa using hc)]
          refine ⟨⟨fun h => (by cases h), fun h => absurd (a1.2 (by omega)) hc⟩, fun h => (by cases h)⟩
    by_cases hc : n + 1 > 10 ∨ deep ≥ 6
    · rw [goV_stop hc]
      refine ⟨⟨fun h => (by cases h), fun h => (by omega)⟩, fun h => (by cases h)⟩
    · rw [goV_go hc]
      obtain ⟨c1, c2⟩ := go x.f9 (by omega) (deep + 1) (n + 1) (by omega) (by omega)
      refine ⟨?_, fun h => ?_⟩
      · simp only; rw [c1]; omega
      · simp only [List.length_cons]; rw [c2 h]; omega
theorem size_full (x : S39) : sizeB x = true ↔ hgt x ≤ 6 ∧ sz39 x ≤ 10 := by
  have h := (goV_full _ x (Nat.le_refl _) 0 0).1
  unfold sizeB; rw [h]; omega
/-- **The plain law of FnExactPlanWide** -/
theorem wide_law (x : S39) (t : List Int) : iWide x t = sW x t := by
  unfold iWide sW
  by_cases h3 : 3 < t.length
  · rw [if_neg (by omega), if_pos (.inl h3)]
  by_cases hs : sizeB x = true
  · have h := (size_full x).1 hs
    have hm := manyF_le _ x (Nat.le_refl _) 6
    rw [if_pos ⟨by omega, hs⟩, if_neg (by omega)]
    exact (wide_same t _ x (Nat.le_refl _) 6 h.1).1
  · have h : ¬ (hgt x ≤ 6 ∧ sz39 x ≤ 10) := fun h => hs ((size_full x).2 h)
    rw [if_neg (fun h => hs h.2)]
    by_cases h6 : hgt x ≤ 6
    · have hm := many_full _ x (Nat.le_refl _) 6 (by omega)
      rw [if_pos (.inr (by omega))]
    · by_cases hq : 3 < t.length ∨ 10 < manyF x 6
      · rw [if_pos hq]
      · rw [if_neg hq, wide_deep t _ x (Nat.le_refl _) 6 (by omega)]
/-- What szPlan lets by has not many parts. -/
theorem few_sz : ∀ (n : Nat) (x : S30), sz30 x ≤ n → ∀ left, 0 ≤ left → 0 ≤ szF x left → (sz30 x : Int) + szF x left ≤ left + 1 := by
  intro n
  induction n with
  | zero => intro x h; have := sz30_kids x; omega
  | succ n ih =>
    intro x hn left h0 hr
    have hk := sz30_kids x
    rw [szF_eq] at hr ⊢
    by_cases a : left - (x.f3.length : Int) < 0
    · rw [if_pos a] at hr; omega
    rw [if_neg a] at hr ⊢
    by_cases b : left - (x.f3.length : Int) - (x.f6.length : Int) < 0
    · rw [if_pos b] at hr; omega
    rw [if_neg b] at hr ⊢
    unfold szSo at hr ⊢
    by_cases c : left - (x.f3.length : Int) - (x.f6.length : Int) - (x.f9.length : Int) < 0
    · rw [if_pos c] at hr; omega
    rw [if_neg c] at hr ⊢
    have go : ∀ (ks : List S30), szs30 ks ≤ n → ∀ l, 0 ≤ l → 0 ≤ szGo ks l → (szs30 ks : Int) + szGo ks l ≤ l + ks.length := by
      intro ks
      induction ks with
      | nil => intro _ l h0 h1; simp only [szs30, szGo, List.length_nil]; omega
      | cons k ks ihk =>
        intro hs l h0 hr
        simp only [szs30] at hs
        simp only [szGo] at hr ⊢
        by_cases hk : szF k l < 0
        · rw [if_pos hk] at hr; omega
        rw [if_neg hk] at hr ⊢
        have h1 := ih k (by omega) l h0 (by omega)
        have h2 := ihk (by omega) _ (by omega) hr
        simp only [szs30, List.length_cons]
        omega
    have := go x.f9 (by omega) _ (by omega) hr
    omega
theorem sz_conv : ∀ (n : Nat) (x : S30), sz30 x ≤ n → sz39 (conv x) = sz30 x := by
  intro n
  induction n with
  | zero => intro x h; have := sz30_kids x; omega
  | succ n ih =>
    intro x hn
    have hk := sz30_kids x
    have hk2 := sz39_kids (conv x)
    have h9 : (conv x).f9 = convs x.f9 := by rw [conv_eq]
    rw [h9] at hk2
    have go : ∀ (ks : List S30), szs30 ks ≤ n → szs39 (convs ks) = szs30 ks := by
      intro ks
      induction ks with
      | nil => intro _; rfl
      | cons k ks ihk =>
        intro hs
        simp only [szs30] at hs
        rw [convs, szs39, szs30, ih k (by omega), ihk (by omega)]
    have := go x.f9 (by omega)
    omega
end Pl
namespace Pl
/-- What szPlan lets by is small. -/
theorem small_sz : ∀ (n : Nat) (x : S30), sz30 x ≤ n → ∀ left, 0 ≤ left → left ≤ 1048576 → 0 ≤ szF x left → Small30 x := by
  intro n
  induction n with
  | zero => intro x h; have := sz30_kids x; omega
  | succ n ih =>
    intro x hn left h0 h1 hr
    have hk := sz30_kids x
    rw [szF_eq] at hr
    by_cases a : left - (x.f3.length : Int) < 0
    · rw [if_pos a] at hr; omega
    rw [if_neg a] at hr
    by_cases b : left - (x.f3.length : Int) - (x.f6.length : Int) < 0
    · rw [if_pos b] at hr; omega
    rw [if_neg b] at hr
    unfold szSo at hr
    by_cases c : left - (x.f3.length : Int) - (x.f6.length : Int) - (x.f9.length : Int) < 0
    · rw [if_pos c] at hr; omega
    rw [if_neg c] at hr
    have go : ∀ (ks : List S30), szs30 ks ≤ n → ∀ l, 0 ≤ l → l ≤ 1048576 → 0 ≤ szGo ks l → ∀ y ∈ ks, Small30 y := by
      intro ks
      induction ks with
      | nil => intro _ l _ _ _ y hy; cases hy
      | cons k ks ihk =>
        intro hs l h0 h1 hr y hy
        simp only [szs30] at hs
        simp only [szGo] at hr
        by_cases hk : szF k l < 0
        · rw [if_pos hk] at hr; omega
        rw [if_neg hk] at hr
        have hle := szF_le k l h0
        rcases List.mem_cons.1 hy with rfl | hy
        · exact ih _ (by omega) l h0 h1 (by omega)
        · exact ihk (by omega) _ (by omega) (by omega) hr y hy
    exact Small30.mk x (by omega) (by omega) (by omega) (go x.f9 (by omega) _ (by omega) (by omega) hr)
/-- The law's walk: what it keeps. -/
structure LU (w : World) (ga : Nat) (ca : List Value) (W : World) : Prop where
  hA : W.heap[ga]? = some (.cells ca.toArray 30 (0, 0))
  bel : Below w.heap.size w W
theorem LU.call {w : World} {ga : Nat} {ca : List Value} {W W1 : World} (h : LU w ga ca W) (hb : Below W.heap.size W W1) : LU w ga ca W1 :=
  ⟨(hb.block ga (blk_lt h.hA)).trans h.hA, below_step h.bel hb⟩
structure LV (w : World) (ga gx : Nat) (ca cx : List Value) (x : S39) (t : List Int) (A8 : Option Addr) (W : World) : Prop where
  ls : LU w ga ca W
  hX : W.heap[gx]? = some (.cells cx.toArray 39 (0, 0))
  kx : k39.K W x cx.toArray.toList
  h8 : Kd.C (Kd.int .i64) W A8 t.length t
theorem LV.call {w : World} {ga gx : Nat} {ca cx : List Value} {x : S39} {t : List Int} {A8 : Option Addr} {W W1 : World} (h : LV w ga gx ca cx x t A8 W) (hb : Below W.heap.size W W1) : LV w ga gx ca cx x t A8 W1 :=
  ⟨h.ls.call hb, (hb.block gx (blk_lt h.hX)).trans h.hX, k39.K_below hb h.kx, Kd.C_below h.h8 hb⟩
set_option maxHeartbeats 16000000 in
set_option maxRecDepth 100000 in
theorem law_wide (x : S30) (ca : List Value) (A : Option Addr) (c : Nat) (t : List Int) (w : World) (hK : k30.K w x ca) (hok : OkP x) (hr : Kd.C (Kd.int .i64) w A t.length t) (hc : t.length ≤ c) :
    Calls Try.prog 5 #[.agg ca.toArray, .slice A t.length c] w fun e w' => e = .returned (.bool true) ∧ Below w.heap.size w w' := by
  have LA := Aside0.mk (show ca.length = 19 from k30.K_len hK)
  have T0 := Aside0.mk (Below.refl w.heap.size w)
  by_cases hl : t.length ≤ 1048576
  rotate_left
  · have d0 : decide ((1048576 : Int) < (t.length : Int)) = true := by simp; omega
    clear hl hK hr hok
    go_enter Try.func5, Try.ntmps5
    go_wp2_with ((with_reducible refine gate_dst (N := 2) rfl ?_); refine box_ 30 (.tmp 0) rfl rfl ca.toArray rfl ?_; intro ga hga w1 hb1 hB1; have B1 := Aside0.mk (below_step T0.out hB1); have X1 := Aside0.mk hb1; clear hb1 hB1 hga T0)
    go_ret
    exact ⟨rfl, B1.out⟩
  have d0 : decide ((1048576 : Int) < (t.length : Int)) = false := by simp; omega
  have KA := Aside0.mk (show k30.K w x ca.toArray.toList from hK)
  have HL := Aside0.mk hl
  have HC := Aside0.mk hr
  have b1 := szF_le x 1048576 (by omega)
  have SX := Aside0.mk (small_sz _ x (Nat.le_refl _) 1048576 (by omega) (by omega))
  have FX := Aside0.mk (few_sz _ x (Nat.le_refl _) 1048576 (by omega))
  have C1 := Aside0.mk (fun (w' : World) (hK : k30.K w' x ca.toArray.toList) => szPlan_c x ca.toArray 1048576 w' hK hok (by omega) (by omega))
  have TI := Aside0.mk (fun (W : World) (hb : Below w.heap.size w W) => toIntS_c A c t W hl (Kd.C_below hr hb) hc)
  obtain ⟨r1, hr1⟩ : ∃ r, r = szF x 1048576 := ⟨_, rfl⟩
  rw [← hr1] at b1 SX FX C1
  clear hr1 hK hok hr hl
  by_cases hn : r1 < 0
  · have f0 : decide (r1 < 0) = true := decide_eq_true hn
    clear SX FX b1 hn
    go_enter Try.func5, Try.ntmps5
    go_wp2_with (first
      | ((with_reducible refine gate_dst (N := 2) rfl ?_); refine box_ 30 (.tmp 0) rfl rfl ca.toArray rfl ?_; intro ga hga w1 hb1 hB1; have E := Aside0.mk (show LU w ga ca w1 from ⟨hb1, below_step T0.out hB1⟩); clear hb1 hB1 hga T0)
      | ((with_reducible refine gate_dst (N := 13) rfl ?_); refine loadVar_ 30 (.tmp 2) rfl rfl ga ?hx ca _ Try.underlying30 ?hi _ E.out.hA ?_; (case hx => first | rfl | (go_simp; done) | (go_simp; rfl)); (case hi => rw [LA.out]; kernel_rfl))
      | (go_at_call 6; refine (C1.out _ (k30.K_below E.out.bel KA.out)).mono ?_; rintro e w3 ⟨rfl, hB⟩; have E2 := Aside0.mk (E.out.call hB); clear E C1 hB; have E := E2; clear E2))
    go_ret
    exact ⟨rfl, E.out.bel⟩
  have f0 : decide (r1 < 0) = false := decide_eq_false hn
  have sx := Aside0.mk (SX.out (by omega))
  have hbig := Aside0.mk (show sz39 (conv x) ≤ 1099511627776 by have h1 := FX.out (by omega); have h2 := sz_conv _ x (Nat.le_refl _); omega)
  have TX := Aside0.mk (fun (w' : World) hK => toPlan_c x ca.toArray w' hK sx.out)
  obtain ⟨V, hV⟩ : ∃ V, V = sW (conv x) t := ⟨_, rfl⟩
  have TS := Aside0.mk (fun (W : World) cx B cb hK hr hc => hV ▸ specPlanWide_c (conv x) cx B cb t W hK (small_conv sx.out) hbig.out hr hc HL.out)
  have TW := Aside0.mk (fun (W : World) cx B cb hK hr hc => (wide_law (conv x) t).trans hV.symm ▸ implPlanWide_c (conv x) cx B cb t W hK (small_conv sx.out) hr hc HL.out)
  have TX1 := TX
  have TI1 := TI
  clear SX FX b1 hn hV
  go_enter Try.func5, Try.ntmps5
  go_wp2_with (first
    | ((with_reducible refine gate_dst (N := 2) rfl ?_); refine box_ 30 (.tmp 0) rfl rfl ca.toArray rfl ?_; intro ga hga w1 hb1 hB1; have E := Aside0.mk (show LU w ga ca w1 from ⟨hb1, below_step T0.out hB1⟩); clear hb1 hB1 hga T0)
    | ((with_reducible refine gate_dst (N := 13) rfl ?_); refine loadVar_ 30 (.tmp 2) rfl rfl ga ?hx ca _ Try.underlying30 ?hi _ E.out.hA ?_; (case hx => first | rfl | (go_simp; done) | (go_simp; rfl)); (case hi => rw [LA.out]; kernel_rfl))
    | (go_at_call 6; refine (C1.out _ (k30.K_below E.out.bel KA.out)).mono ?_; rintro e w3 ⟨rfl, hB⟩; have E2 := Aside0.mk (E.out.call hB); clear E C1 hB; have E := E2; clear E2)
    | ((with_reducible refine gate_dst (N := 18) rfl ?_); refine loadVar_ 30 (.tmp 2) rfl rfl ga ?hx ca _ Try.underlying30 ?hi _ E.out.hA ?_; (case hx => first | rfl | (go_simp; done) | (go_simp; rfl)); (case hi => rw [LA.out]; kernel_rfl))
    | ((with_reducible refine gate_dst (N := 23) rfl ?_); refine loadVar_ 30 (.tmp 2) rfl rfl ga ?hx ca _ Try.underlying30 ?hi _ E.out.hA ?_; (case hx => first | rfl | (go_simp; done) | (go_simp; rfl)); (case hi => rw [LA.out]; kernel_rfl))
    | (go_at_call 8; refine (TX1.out _ (k30.K_below E.out.bel KA.out)).mono ?_; rintro e wb1 ⟨c1, rfl, hK3, hB⟩; have E2 := Aside0.mk (E.out.call hB); have K1 := Aside0.mk (show k39.K wb1 (conv x) c1.toArray.toList from hK3); clear E hB hK3 TX1; have E := E2; clear E2)
    | (go_at_call 15; refine (TI1.out _ E.out.bel).mono ?_; rintro e wb2 ⟨v, rfl, hR, hB⟩; obtain ⟨A1, cc1, rfl, hc1, hr1⟩ := Kd.R_reads hR; have E2 := Aside0.mk (E.out.call hB); have K2 := Aside0.mk (k39.K_below hB K1.out); have HR1 := Aside0.mk hr1; have HC1 := Aside0.mk hc1; clear E K1 hB hR hr1 hc1 TI1; have E := E2; clear E2)
    | (go_at_call 13; refine (TS.out _ _ _ _ K2.out HR1.out HC1.out).mono ?_; rintro e wb3 ⟨rfl, hB⟩; have E2 := Aside0.mk (E.out.call hB); clear E K2 HR1 HC1 TS hB; have E := E2; clear E2)
    | (go_at_call 8; refine (TX.out _ (k30.K_below E.out.bel KA.out)).mono ?_; rintro e wb4 ⟨c3, rfl, hK3, hB⟩; have E2 := Aside0.mk (E.out.call hB); have KX := Aside0.mk (show k39.K wb4 (conv x) c3.toArray.toList from hK3); have LX := Aside0.mk (show c3.length = 19 from k39.K_len hK3); have OX := Aside0.mk (show ∀ q ∈ c3, q.oneCell' = true from k39.K_one hK3); clear E hB hK3; have E := E2; clear E2)
    | ((with_reducible refine gate_dst (N := 7) rfl ?_); refine alloc_ 39 rfl rfl zero39 _ _ info39 ?_; intro gx hg wa1 hb hB; have BA1 := Aside0.mk hB; have YA1 := Aside0.mk hb; have GA1 := Aside0.mk hg; clear hb hB hg)
    | ((with_reducible refine gate_ (.store 39 (.tmp 7) (.tmp 24)) rfl ?_); refine storeAll_ 39 (.tmp 7) (.tmp 24) rfl rfl rfl gx ?hp c3 ?hx2 ?ht OX.out zero39 _ YA1.out ?hf ?_; (case hp => first | rfl | (go_simp; done) | (go_simp; rfl)); (case hx2 => first | rfl | (go_simp; done) | (go_simp; rfl)); (case ht => rw [LX.out]; kernel_rfl); (case hf => rw [LX.out]; rfl); intro wc1 hb hg; have hB := BA1.out.grown hg BA1.out.size (fun k e => by injection e with e; rw [← e]; exact Nat.le_of_eq GA1.out.symm); have E2 := Aside0.mk (E.out.call hB); have KX2 := Aside0.mk (k39.K_below hB KX.out); have XF := Aside0.mk hb; clear E KX BA1 YA1 GA1 hb hg hB; have E := E2; have KX := KX2; clear E2 KX2)
    | (go_at_call 15; refine (TI.out _ E.out.bel).mono ?_; rintro e wb5 ⟨v, rfl, hR, hB⟩; obtain ⟨A8, c8, rfl, hc8, hr8⟩ := Kd.R_reads hR; have HC8 := Aside0.mk hc8; have F := Aside0.mk (show LV w ga gx ca c3 (conv x) t A8 wb5 from ⟨E.out.call hB, (hB.block gx (blk_lt XF.out)).trans XF.out, k39.K_below hB KX.out, hr8⟩); clear E XF KX hB hR hr8 hc8)
    | ((with_reducible refine gate_dst (N := 27) rfl ?_); refine loadVar_ 39 (.tmp 7) rfl rfl gx ?hx c3 _ Try.underlying39 ?hi _ F.out.hX ?_; (case hx => first | rfl | (go_simp; done) | (go_simp; rfl)); (case hi => rw [LX.out]; kernel_rfl))
    | (go_at_call 12; refine (TW.out _ _ _ _ F.out.kx F.out.h8 HC8.out).mono ?_; rintro e wb6 ⟨rfl, hB⟩; have F2 := Aside0.mk (F.out.call hB); clear F TW hB; have F := F2; clear F2))
  refine wp_region_held_drew (S := fun W => LV w ga gx ca c3 (conv x) t A8 W) (by kernel_rfl) (F.out.call (Below.refl _ _).drew) (fun hHeld => ?_)
  clear F
  refine wpAnyH_take (i := 0) (oi := _) (v := _) rfl (by kernel_rfl) (by kernel_rfl) (by kernel_rfl) (fun _ _ _ h => h) (yieldsIf_load_mid (by rfl) 39 (.tmp 7) rfl gx 0 rfl c3 _ (fun W h => range_ h.hX) Try.underlying39 rfl ?hi) hHeld ?_
  case hi => rw [LX.out]; kernel_rfl
  change wpAnyH _ _ _ _ _ _ _ (Act.put _ (some 33) _) _
  simp only [Act.put, List.setIfInBounds_toArray, List.set_cons_zero, List.set_cons_succ]
  refine wpAnyH_take (i := 1) (oi := _) (v := _) rfl (by kernel_rfl) (by kernel_rfl) (by kernel_rfl) (fun _ _ _ h => h) (yieldsIf_load_mid (by rfl) 30 (.tmp 2) rfl ga 0 rfl ca _ (fun W h => range_ h.ls.hA) Try.underlying30 rfl ?hi) hHeld ?_
  case hi => rw [LA.out]; kernel_rfl
  change wpAnyH _ _ _ _ _ _ _ (Act.put _ (some 34) _) _
  simp only [Act.put, List.setIfInBounds_toArray, List.set_cons_zero, List.set_cons_succ]
  refine wpAnyH_ready (rs := [2]) (by kernel_rfl) (by simp) ?_
  refine AllReadyH.cons rfl (fun K hK => ?_) AllReadyH.nil
  refine goes_ (N := some 35) Try.func8 (by kernel_rfl) rfl #[.agg ca.toArray] (by rfl) rfl rfl (by simp only [List.map_toArray, List.map_cons, List.map_nil]; rfl) ?_
  refine (TX.out _ (k30.K_below hHeld.ls.bel KA.out)).mono ?_
  rintro e we ⟨c5, rfl, hK5, hB⟩
  refine ⟨_, rfl, ?_⟩
  refine hK.out _ _ (hHeld.call hB) (fun hHeld => ?_)
  clear hK K
  simp only [Act.put, List.setIfInBounds_toArray, List.set_cons_zero, List.set_cons_succ]
  have K5 := Aside0.mk (show k39.K we (conv x) c5.toArray.toList from hK5)
  clear hB hK5
  refine wpAnyH_ready (rs := [3]) (by kernel_rfl) (by simp) ?_
  refine AllReadyH.cons rfl (fun K hK => ?_) AllReadyH.nil
  refine goes_ (N := some 36) Try.func10 (by kernel_rfl) rfl #[.agg c3.toArray, .agg c5.toArray] (by rfl) rfl rfl (by simp only [List.map_toArray, List.map_cons, List.map_nil]; rfl) ?_
  refine (eqPlan_c (conv x) (conv x) c3.toArray c5.toArray _ hHeld.kx K5.out (small_conv sx.out)).mono ?_
  rintro e wf ⟨rfl, hB⟩; rw [same_self]
  refine ⟨_, rfl, ?_⟩
  refine hK.out _ _ (hHeld.call hB) (fun hHeld => ?_)
  clear hK K
  simp only [Act.put, List.setIfInBounds_toArray, List.set_cons_zero, List.set_cons_succ]
  clear K5 hB
  refine wpAnyH_take (i := 4) (oi := _) (v := _) rfl (by kernel_rfl) (by kernel_rfl) (by kernel_rfl) (fun _ _ _ h => h) (Or.inl ⟨by rfl, fun W _ => by go_simp; with_reducible rfl⟩) hHeld ?_
  change wpAnyH _ _ _ _ _ _ _ (Act.put _ (some 37) _) _
  simp only [Act.put, List.setIfInBounds_toArray, List.set_cons_zero, List.set_cons_succ]
  refine wpAnyH_done (by kernel_rfl) ?_ _
  have F := Aside0.mk hHeld
  clear hHeld
  have EQ := Aside0.mk (fun (W : World) B d h8 hc8 hr hc => (decide_eq_true (rfl : t = t)) ▸ eqIntS_c A8 c8 t B d t W HL.out h8 hc8 hr hc)
  go_wp2_with (first
    | (go_at_call 15; refine (TI.out _ F.out.ls.bel).mono ?_; rintro e wg ⟨v, rfl, hR, hB⟩; obtain ⟨A9, c9, rfl, hc9, hr9⟩ := Kd.R_reads hR; have F2 := Aside0.mk (F.out.call hB); have HR9 := Aside0.mk hr9; have HC9 := Aside0.mk hc9; clear F hB hR hr9 hc9; have F := F2; clear F2)
    | (go_at_call 16; refine (EQ.out _ _ _ F.out.h8 HC8.out HR9.out HC9.out).mono ?_; rintro e wh ⟨rfl, hB⟩; have F2 := Aside0.mk (F.out.call hB); clear F HR9 hB; have F := F2; clear F2))
  go_ret
  exact ⟨rfl, F.out.ls.bel⟩
end Pl

end Go.Proofs.Ytlpgnkndjmfcjaa.PFnExactPlanWide
