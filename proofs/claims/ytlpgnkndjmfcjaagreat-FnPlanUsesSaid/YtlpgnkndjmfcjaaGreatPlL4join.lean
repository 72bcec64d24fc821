/- The given specification's l4Wide at every plan. The given specification's PlanWide at every plan. What impl.PlanWide and spec.PlanWide return is one number, in plain Lean. The program's writable at every plan. The program's PlanMany at every plan. What can be written, and what is counted and used of it: the program's and the given specification's are one, in plain Lean. -/
import Derived.Test.YtlpgnkndjmfcjaaGreatPlL4wide
namespace Go.Proofs.YtlpgnkndjmfcjaaGreat.PFnPlanUses
open Go.RowKit Go.Proofs.YtlpgnkndjmfcjaaGreatW.PrintWords Go.Proofs.YtlpgnkndjmfcjaaGreatW.PrintLast Go.Proofs.YtlpgnkndjmfcjaaGreatW.PrintMore
attribute [local go_sem] max2_int min2_int max_two min_two max_three min_three max_four min_four   -- for this text's walks alone
set_option linter.unusedVariables false
set_option linter.unusedSimpArgs false
namespace Pl
theorem sw_step (N : Nat) (ih : ∀ m, m ≤ N → SwP m) : SwP (N + 1) := by
  intro x cs A c t d w hn hK hsm hr hc hl hd
  cases d with
  | zero => exact l4Wide_a x cs A c t 0 w hK hsm hr hc hl hd
  | succ d =>
    have hd' : d ≤ 1000 := by omega
    by_cases hk : kidsN x.f0 = x.f9.length
    · cases hcl : cleanB x with
      | false => exact l4Wide_c0 x cs A c t d w hK hsm hr hc hl hd' hk hcl
      | true =>
        rcases kidsN_in hk with ⟨e, hlen⟩ | ⟨e, hlen⟩ | ⟨e, hlen⟩ | ⟨e, hlen⟩ | ⟨e, hlen⟩ | ⟨e, hlen⟩ | ⟨e, hlen⟩
        · by_cases h1 : x.f1 < 0
          · exact l4Wide_tabA N ih x cs A c t d w hK hsm hr hc hl hd' hn e hlen hcl h1
          · by_cases h2 : x.f1 < (t.length : Int)
            · exact l4Wide_tabC N ih x cs A c t d w hK hsm hr hc hl hd' hn e hlen hcl (by omega) h2
            · exact l4Wide_tabB N ih x cs A c t d w hK hsm hr hc hl hd' hn e hlen hcl (by omega) (by omega)
        · exact l4Wide_where N ih x cs A c t d w hK hsm hr hc hl hd' hn e hlen hcl
        · exact l4Wide_map N ih x cs A c t d w hK hsm hr hc hl hd' hn e hlen hcl
        · exact l4Wide_join N ih x cs A c t d w hK hsm hr hc hl hd' hn e hlen hcl
        · exact l4Wide_both N ih x cs A c t d w hK hsm hr hc hl hd' hn e hlen hcl
        · exact l4Wide_once N ih x cs A c t d w hK hsm hr hc hl hd' hn e hlen hcl
        · exact l4Wide_group N ih x cs A c t d w hK hsm hr hc hl hd' hn e hlen hcl
    · exact l4Wide_b x cs A c t d w hK hsm hr hc hl hd' hk
theorem sw_all (N : Nat) : SwP N := by
  induction N using Nat.strongRecOn with
  | _ N ih =>
    cases N with
    | zero => intro x cs A c t d w hn; have := sz39_kids x; omega
    | succ N => exact sw_step N (fun m hm => ih m (by omega))
/-- **spec.l4Wide** -/
theorem l4Wide_c (x : S39) (cs : List Value) (A : Option Addr) (c : Nat) (t : List Int) (d : Nat) (w : World) (hK : k39.K w x cs) (hsm : Small39 x) (hr : Kd.C (Kd.int .i64) w A t.length t) (hc : t.length ≤ c) (hl : t.length ≤ 3) (hd : d ≤ 1000) :
    Calls Tryz.prog 63 #[.agg cs.toArray, .slice A t.length c, .int .i64 d] w fun e w' => e = .returned (.int .i64 (sWide t x d)) ∧ Below w.heap.size w w' :=
  sw_all _ x cs A c t d w (Nat.le_refl _) hK hsm hr hc hl hd
end Pl
namespace Pl
/-- spec.PlanWide -/
def sW (x : S39) (t : List Int) : Int := if 3 < t.length ∨ 10 < manyF x 6 then -1 else sWide t x 6
set_option maxHeartbeats 8000000 in
set_option maxRecDepth 100000 in
/-- **spec.PlanWide** -/
theorem specPlanWide_c (x : S39) (cs : List Value) (A : Option Addr) (c : Nat) (t : List Int) (w : World) (hK : k39.K w x cs) (hsm : Small39 x) (hbig : sz39 x ≤ 1099511627776) (hr : Kd.C (Kd.int .i64) w A t.length t) (hc : t.length ≤ c) (hl : t.length ≤ 1048576) :
    Calls Tryz.prog 56 #[.agg cs.toArray, .slice A t.length c] w fun e w' => e = .returned (.int .i64 (sW x t)) ∧ Below w.heap.size w w' := by
  have LC := Aside0.mk (show cs.length = 19 from k39.K_len hK)
  by_cases h3 : t.length ≤ 3
  rotate_left
  · have VV := Aside0.mk (show sW x t = -1 by unfold sW; rw [if_pos (.inl (by omega))])
    have d3 : decide ((3 : Int) < (t.length : Int)) = true := by simp; omega
    clear h3 hK hsm hr hbig
    go_enter Tryz.func56, Tryz.ntmps56
    go_wp2_with ((with_reducible refine gate_dst (N := 2) rfl ?_); refine box_ 39 (.tmp 0) rfl rfl cs.toArray rfl ?_; intro gb hg w1 hb hB; have X1 := Aside0.mk hb; have B1 := Aside0.mk hB; clear hb hB hg)
    go_ret
    exact ⟨by rw [VV.out]; rfl, B1.out⟩
  have SZ := Aside0.mk (fun (W : World) (hb : Below w.heap.size w W) => l4Many_c x cs 6 W hbig (by decide) (k39.K_below hb hK))
  have WO := Aside0.mk (fun (W : World) (hb : Below w.heap.size w W) => l4Wide_c x cs A c t 6 W (k39.K_below hb hK) hsm (Kd.C_below hr hb) hc h3 (by decide))
  have N1 := Aside0.mk (fun (h : 10 < manyF x 6) => show sW x t = -1 by unfold sW; rw [if_pos (.inr h)])
  have Y1 := Aside0.mk (fun (h : ¬ 10 < manyF x 6) => show sW x t = sWide t x 6 by unfold sW; rw [if_neg (by omega)])
  obtain ⟨z, hz⟩ : ∃ z, z = manyF x 6 := ⟨_, rfl⟩
  rw [← hz] at SZ N1 Y1
  have d3 : decide ((3 : Int) < (t.length : Int)) = false := by simp; omega
  clear h3 hK hsm hr hbig hz
  go_enter Tryz.func56, Tryz.ntmps56
  by_cases h10 : 10 < z
  · have VV := Aside0.mk (N1.out h10)
    have d10 : decide ((10 : Int) < (z : Int)) = true := by simp; omega
    clear h10 N1 Y1
    go_wp2_with (first
      | ((with_reducible refine gate_dst (N := 2) rfl ?_); refine box_ 39 (.tmp 0) rfl rfl cs.toArray rfl ?_; intro gb hg w1 hb hB; have X1 := Aside0.mk hb; have B1 := Aside0.mk hB; clear hb hB hg)
      | ((with_reducible refine gate_dst (N := 9) rfl ?_); refine loadW_ 39 (.tmp 2) rfl ?hw ⟨gb, 0, none⟩ ?hx cs _ Tryz.underlying39 ?hi (sub_ X1.out [] cs [] (by simp)) ?_; (case hw => first | rfl | (simp [Region.wanted, yielded]; done)); (case hx => first | rfl | (go_simp; done) | (go_simp; rfl)); (case hi => rw [LC.out]; kernel_rfl))
      | (go_at_call 19; refine (SZ.out _ B1.out).mono ?_; rintro e w2 ⟨rfl, hB⟩; have X2 := Aside0.mk ((hB.block _ (blk_lt X1.out)).trans X1.out); have B2 := Aside0.mk (below_step B1.out hB); clear hB))
    go_ret
    exact ⟨by rw [VV.out]; rfl, B2.out⟩
  · have VV := Aside0.mk (Y1.out h10)
    have d10 : decide ((10 : Int) < (z : Int)) = false := by simp; omega
    clear h10 N1 Y1
    go_wp2_with (first
      | ((with_reducible refine gate_dst (N := 2) rfl ?_); refine box_ 39 (.tmp 0) rfl rfl cs.toArray rfl ?_; intro gb hg w1 hb hB; have X1 := Aside0.mk hb; have B1 := Aside0.mk hB; clear hb hB hg)
      | ((with_reducible refine gate_dst (N := 9) rfl ?_); refine loadW_ 39 (.tmp 2) rfl ?hw ⟨gb, 0, none⟩ ?hx cs _ Tryz.underlying39 ?hi (sub_ X1.out [] cs [] (by simp)) ?_; (case hw => first | rfl | (simp [Region.wanted, yielded]; done)); (case hx => first | rfl | (go_simp; done) | (go_simp; rfl)); (case hi => rw [LC.out]; kernel_rfl))
      | (go_at_call 19; refine (SZ.out _ B1.out).mono ?_; rintro e w2 ⟨rfl, hB⟩; have X2 := Aside0.mk ((hB.block _ (blk_lt X1.out)).trans X1.out); have B2 := Aside0.mk (below_step B1.out hB); clear hB)
      | ((with_reducible refine gate_dst (N := 13) rfl ?_); refine loadVar_ 39 (.tmp 2) rfl rfl gb ?hx cs _ Tryz.underlying39 ?hi _ X2.out ?_; (case hx => first | rfl | (go_simp; done) | (go_simp; rfl)); (case hi => rw [LC.out]; kernel_rfl))
      | (go_at_call 63; refine (WO.out _ B2.out).mono ?_; rintro e w3 ⟨rfl, hB⟩; have B3 := Aside0.mk (below_step B2.out hB); clear hB))
    go_ret
    exact ⟨by rw [VV.out]; rfl, B3.out⟩
end Pl
namespace Pl
theorem gW_if (ok : Bool) (v : Int) : gW (ifW ok v) = finB ok v := by
  unfold gW ifW finB
  cases ok
  · simp
  · simp
theorem gW_fin (v : Int) : gW v = finB true v := by rw [← gW_if]; rfl
theorem finB_is (ok : Bool) (v : Int) : finB ok v = -1 ∨ 1 ≤ finB ok v := by
  unfold finB; split
  · omega
  · exact .inl rfl
theorem raw_fin (x : S39) (t ws : List Int) (h : ¬ x.f0 = 1) : gW (rawW x ws) = finB (okS x t ws) (wS x t ws) := by
  unfold rawW okS wS
  rw [if_neg h, if_neg h, if_neg h]
  by_cases h2 : x.f0 = 2
  · simp only [h2, if_true]; exact gW_if _ _
  rw [if_neg h2, if_neg h2, if_neg h2]
  by_cases h3 : x.f0 = 3
  · simp only [h3, if_true]; exact gW_if _ _
  rw [if_neg h3, if_neg h3, if_neg h3]
  by_cases h4 : x.f0 = 4
  · simp only [h4, if_true]; exact gW_if _ _
  rw [if_neg h4, if_neg h4, if_neg h4]
  by_cases h5 : x.f0 = 5
  · simp only [h5, if_true]; exact gW_if _ _
  rw [if_neg h5, if_neg h5, if_neg h5]
  by_cases h6 : x.f0 = 6
  · simp only [h6, if_true]; exact gW_fin _
  rw [if_neg h6, if_neg h6, if_neg h6, gW_if]
  congr 1
  cases keysB x.f6 (rd ws 0) <;> cases decide (0 ≤ x.f7) <;> cases decide (x.f7 ≤ 3) <;> rfl
theorem raw_tab (x : S39) (t ws : List Int) (h : x.f0 = 1) : gW (rawW x t) = finB (okS x t ws) (wS x t ws) := by
  unfold rawW okS wS
  rw [if_pos h, if_pos h, if_pos h]
  unfold tableW
  by_cases hc : 0 ≤ x.f1 ∧ x.f1 < t.length
  · rw [if_pos hc, decide_eq_true hc]; exact gW_fin _
  · rw [if_neg hc, decide_eq_false hc]; rfl
/-- Where a plan goes no deeper than that, both count alike. -/
theorem wide_same (t : List Int) : ∀ (m : Nat) (x : S39), sz39 x ≤ m → ∀ d, hgt x ≤ d → wideF gW t x = sWide t x d ∧ (sWide t x d = -1 ∨ 1 ≤ sWide t x d) := by
  intro m
  induction m with
  | zero => intro x h; have := sz39_kids x; omega
  | succ m ih =>
    intro x hm d hd
    have hk := sz39_kids x
    rw [hgt_eq] at hd
    have go : ∀ (ks : List S39), szs39 ks ≤ m → ∀ d, hgts ks ≤ d → wideFs gW t ks = sWides t ks d := by
      intro ks
      induction ks with
      | nil => intro _ d _; rfl
      | cons k ks ihk =>
        intro hs d hd
        simp only [szs39] at hs
        simp only [hgts] at hd
        obtain ⟨e1, e2⟩ := ih k (by omega) d (by omega)
        rw [wideFs, sWides, e1, ihk (by omega) d (by omega)]
        by_cases hv : sWide t k d = -1
        · rw [if_pos hv, if_pos (by omega)]
        · rw [if_neg hv, if_neg (by omega)]
    obtain ⟨d, rfl⟩ : ∃ d', d = d' + 1 := ⟨d - 1, by omega⟩
    have hgo := go x.f9 (by omega) d (by omega)
    have sc := shaped_clean x
    by_cases hsh : shapedB x = true
    · rw [hsh] at sc
      have sc2 : kidsN x.f0 = x.f9.length ∧ cleanB x = true := by simpa using sc.symm
      by_cases h1 : x.f0 = 1
      · have h9 : x.f9 = [] := by
          have h := sc2.1; rw [h1] at h
          have : (x.f9.length : Int) = 0 := h.symm
          exact List.eq_nil_of_length_eq_zero (by omega)
        have hs : sWides t x.f9 d = some [] := by rw [h9]; rfl
        rw [sWide_some sc2.1 sc2.2 hs]
        refine ⟨?_, finB_is _ _⟩
        by_cases h0 : t.length = 0
        · rw [wideF_tab0 hsh h1 h0, finB_no]
          left; unfold okS; rw [if_pos h1, h0]; exact decide_eq_false (by omega)
        · rw [wideF_tab hsh h1 h0]; exact raw_tab x t [] h1
      · cases hs : sWides t x.f9 d with
        | none => rw [wideF_none h1 (hgo.trans hs), sWide_none hs]; exact ⟨rfl, .inl rfl⟩
        | some ws => rw [wideF_some hsh h1 (hgo.trans hs), sWide_some sc2.1 sc2.2 hs]; exact ⟨raw_fin x t ws h1, finB_is _ _⟩
    · have hsf : shapedB x = false := by simpa using hsh
      rw [hsf] at sc
      have sc2 : kidsN x.f0 ≠ x.f9.length ∨ cleanB x = false := by
        by_cases h : kidsN x.f0 = x.f9.length
        · right; simpa [h] using sc.symm
        · exact .inl h
      rw [wideF_no hsf, sWide_no (.inr sc2)]
      exact ⟨rfl, .inl rfl⟩
/-- What goes deeper has no width. -/
theorem wide_deep (t : List Int) : ∀ (m : Nat) (x : S39), sz39 x ≤ m → ∀ d, d < hgt x → sWide t x d = -1 := by
  intro m
  induction m with
  | zero => intro x h; have := sz39_kids x; omega
  | succ m ih =>
    intro x hm d hd
    have hk := sz39_kids x
    rw [hgt_eq] at hd
    have go : ∀ (ks : List S39), szs39 ks ≤ m → ∀ d, d < hgts ks → sWides t ks d = none := by
      intro ks
      induction ks with
      | nil => intro _ d h; simp only [hgts] at h; omega
      | cons k ks ihk =>
        intro hs d hd
        simp only [szs39] at hs
        simp only [hgts] at hd
        rw [sWides]
        by_cases hv : sWide t k d < 1
        · rw [if_pos hv]
        · rw [if_neg hv]
          by_cases h : d < hgt k
          · have := ih k (by omega) d h; omega
          · rw [ihk (by omega) d (by omega)]; rfl
    cases d with
    | zero => exact sWide_no (.inl rfl)
    | succ d => exact sWide_none (go x.f9 (by omega) d (by omega))
/-- **The plain law of FnExactPlanWide** -/
theorem wide_law (x : S39) (t : List Int) : iWide x t = sW x t := by
  unfold iWide sW
  by_cases h3 : 3 < t.length
  · rw [if_neg (by omega), if_pos (.inl h3)]
  by_cases hs : sizeB x = true
  · have h := (size_full x).1 hs
    have hm := manyF_le _ x (Nat.le_refl _) 6
    rw [if_pos ⟨by omega, hs⟩, if_neg (by omega)]
    exact (wide_same t _ x (Nat.le_refl _) 6 h.1).1
  · have h : ¬ (hgt x ≤ 6 ∧ sz39 x ≤ 10) := fun h => hs ((size_full x).2 h)
    rw [if_neg (fun h => hs h.2)]
    by_cases h6 : hgt x ≤ 6
    · have hm := many_full _ x (Nat.le_refl _) 6 (by omega)
      rw [if_pos (.inr (by omega))]
    · by_cases hq : 3 < t.length ∨ 10 < manyF x 6
      · rw [if_pos hq]
      · rw [if_neg hq, wide_deep t _ x (Nat.le_refl _) 6 (by omega)]
end Pl
namespace Pl
/-- what writable counts a part as -/
def gM (v : Int) : Int := ifW (v != -1) 6
theorem gM_c (v : Int) (W : World) : Calls Tryz.prog 40 #[.int .i64 v] W fun e w' => e = .returned (.int .i64 (gM v)) ∧ Below W.heap.size W w' := by
  have C := Aside0.mk (fun W => wideIf_c (v != -1) 6 W)
  go_enter Tryz.func40, Tryz.ntmps40
  go_wp2_with (go_at_call 37; refine (C.out _).mono ?_; rintro e w2 ⟨rfl, hB⟩; have B2 := Aside0.mk hB; clear hB)
  go_ret
  exact ⟨rfl, B2.out⟩
/-- impl.writable -/
noncomputable def fitB (x : S39) : Bool := sizeB x && (wideF gM [6, 6, 6] x != -1)
set_option maxHeartbeats 8000000 in
set_option maxRecDepth 100000 in
/-- **impl.writable** -/
theorem writable_c (x : S39) (cs : List Value) (w : World) (hK : k39.K w x cs) (hsm : Small39 x) :
    Calls Tryz.prog 24 #[.agg cs.toArray] w fun e w' => e = .returned (.bool (fitB x)) ∧ Below w.heap.size w w' := by
  have LC := Aside0.mk (show cs.length = 19 from k39.K_len hK)
  have SZ := Aside0.mk (fun (W : World) (hb : Below w.heap.size w W) => sizeOk_c x cs W (k39.K_below hb hK))
  have WO := Aside0.mk (fun (W : World) (A : Option Addr) (c : Nat) (hb : Below w.heap.size w W) (hr : Kd.C (Kd.int .i64) W A 3 [6, 6, 6]) (hc : 3 ≤ c) => wideOf_c 40 gM (enters_v Tryz.func40 (by kernel_rfl) rfl) gM_c x cs A c [6, 6, 6] W (k39.K_below hb hK) hsm hr hc (by decide))
  have VV := Aside0.mk (show fitB x = (sizeB x && (wideF gM [6, 6, 6] x != -1)) from rfl)
  obtain ⟨z, hz⟩ : ∃ z, z = sizeB x := ⟨_, rfl⟩
  obtain ⟨r, hr⟩ : ∃ r, r = wideF gM [6, 6, 6] x := ⟨_, rfl⟩
  rw [← hz] at SZ VV
  rw [← hr] at VV
  rw [← hr] at WO
  clear hK hsm hz hr
  cases z
  · go_enter Tryz.func24, Tryz.ntmps24
    go_wp2_with (first
      | ((with_reducible refine gate_dst (N := 1) rfl ?_); refine box_ 39 (.tmp 0) rfl rfl cs.toArray rfl ?_; intro gb hg w1 hb hB; have X1 := Aside0.mk hb; have B1 := Aside0.mk hB; clear hb hB hg)
      | ((with_reducible refine gate_dst (N := 4) rfl ?_); refine Kd.R_lit (Kd.int .i64) _ 3 ?hg (N := 4) ?hd (xs := ([6, 6, 6] : List Int)) (inner := [.int .i64 6, .int .i64 6, .int .i64 6]) (ok := fun _ => True) (okp := fun _ => True) ?hr ?hp (fun _ hk => hk) trivial (Below.refl _ _) (Nat.le_refl _) (by simp) ?_; (case hd => rfl); (case hg => rfl); (case hr => first | (go_simp; done) | (go_simp; rfl)); (case hp => exact (Reps.one (show Kd.M (Kd.int .i64) _ _ _ 6 [.int .i64 6] from rfl) (Reps.one (show Kd.M (Kd.int .i64) _ _ _ 6 [.int .i64 6] from rfl) (Reps.one (show Kd.M (Kd.int .i64) _ _ _ 6 [.int .i64 6] from rfl) (Reps.none _ _))))); intro v0 w2 ho hb hg_ hnew_; have X2 := Aside0.mk ((hb.block _ (blk_lt X1.out)).trans X1.out); have B2 := Aside0.mk (below_step B1.out hb); clear ho hb hg_ hnew_)
      | ((with_reducible refine gate_dst (N := 5) rfl ?_); refine loadVar_ 39 (.tmp 1) rfl rfl gb ?hx cs _ Tryz.underlying39 ?hi _ X2.out ?_; (case hx => first | rfl | (go_simp; done) | (go_simp; rfl)); (case hi => rw [LC.out]; kernel_rfl))
      | (go_at_call 34; refine (SZ.out _ B2.out).mono ?_; rintro e w3 ⟨rfl, hB⟩; have B3 := Aside0.mk (below_step B2.out hB); clear hB))
    go_ret
    exact ⟨by rw [VV.out]; rfl, B3.out⟩
  · go_enter Tryz.func24, Tryz.ntmps24
    go_wp2_with (first
      | ((with_reducible refine gate_dst (N := 1) rfl ?_); refine box_ 39 (.tmp 0) rfl rfl cs.toArray rfl ?_; intro gb hg w1 hb hB; have X1 := Aside0.mk hb; have B1 := Aside0.mk hB; clear hb hB hg)
      | ((with_reducible refine gate_dst (N := 4) rfl ?_); refine Kd.R_lit (Kd.int .i64) _ 3 ?hg (N := 4) ?hd (xs := ([6, 6, 6] : List Int)) (inner := [.int .i64 6, .int .i64 6, .int .i64 6]) (ok := fun _ => True) (okp := fun _ => True) ?hr ?hp (fun _ hk => hk) trivial (Below.refl _ _) (Nat.le_refl _) (by simp) ?_; (case hd => rfl); (case hg => rfl); (case hr => first | (go_simp; done) | (go_simp; rfl)); (case hp => exact (Reps.one (show Kd.M (Kd.int .i64) _ _ _ 6 [.int .i64 6] from rfl) (Reps.one (show Kd.M (Kd.int .i64) _ _ _ 6 [.int .i64 6] from rfl) (Reps.one (show Kd.M (Kd.int .i64) _ _ _ 6 [.int .i64 6] from rfl) (Reps.none _ _))))); intro v0 w2 ho hb hg_ hnew_; obtain ⟨A4, c4, rfl, hc4, hr4⟩ := Kd.R_reads ho; have HC4 := Aside0.mk hc4; have HR4 := Aside0.mk hr4; have X2 := Aside0.mk ((hb.block _ (blk_lt X1.out)).trans X1.out); have B2 := Aside0.mk (below_step B1.out hb); clear ho hb hg_ hnew_ hc4 hr4)
      | ((with_reducible refine gate_dst (N := 5) rfl ?_); refine loadVar_ 39 (.tmp 1) rfl rfl gb ?hx cs _ Tryz.underlying39 ?hi _ X2.out ?_; (case hx => first | rfl | (go_simp; done) | (go_simp; rfl)); (case hi => rw [LC.out]; kernel_rfl))
      | (go_at_call 34; refine (SZ.out _ B2.out).mono ?_; rintro e w3 ⟨rfl, hB⟩; have X3 := Aside0.mk ((hB.block _ (blk_lt X2.out)).trans X2.out); have B3 := Aside0.mk (below_step B2.out hB); have HR5 := Aside0.mk (Kd.C_below HR4.out hB); clear hB)
      | ((with_reducible refine gate_dst (N := 8) rfl ?_); refine loadW_ 39 (.tmp 1) rfl ?hw ⟨gb, 0, none⟩ ?hx cs _ Tryz.underlying39 ?hi (sub_ X3.out [] cs [] (by simp)) ?_; (case hw => first | rfl | (simp [Region.wanted, yielded]; done)); (case hx => first | rfl | (go_simp; done) | (go_simp; rfl)); (case hi => rw [LC.out]; kernel_rfl))
      | (go_at_call 35; refine (WO.out _ _ _ B3.out HR5.out HC4.out).mono ?_; rintro e w4 ⟨rfl, hB⟩; have B4 := Aside0.mk (below_step B3.out hB); clear hB))
    go_ret
    exact ⟨by rw [VV.out]; rfl, B4.out⟩
end Pl
section
attribute [local go_sem] Oper.semAt_some
namespace Pl
/-- impl.PlanMany -/
noncomputable def iMany (x : S39) : Nat := if fitB x = true then (goV x 0 0).1.length else 0
/-- PlanMany's box: how many have come. -/
structure MaW (w : World) (bm : Nat) (n : Nat) (W : World) : Prop where
  hm : W.heap[bm]? = some (.cells #[.int .i64 n] 3 (0, 0))
  bel : Below w.heap.size w W
theorem MaW.below {w : World} {bm n m : Nat} {A B : World} (h : MaW w bm n A) (hb : Below m A B) (h2 : bm < m) (h3 : w.heap.size ≤ m) : MaW w bm n B :=
  ⟨(hb.block _ h2).trans h.hm, h.bel.trans (hb.mono h3)⟩
theorem MaW.set {w : World} {bm n m : Nat} {A B : World} (h : MaW w bm n A) (hg : A.grownBy B (some bm)) (hb : B.heap[bm]? = some (.cells #[.int .i64 m] 3 (0, 0))) (h1 : w.heap.size ≤ bm) : MaW w bm m B :=
  ⟨hb, h.bel.grown hg h.bel.size (fun k e => by cases e; exact h1)⟩
theorem prefix_len {α : Type} {a b : List α} (h : a <+: b) : a.length ≤ b.length := by obtain ⟨c, rfl⟩ := h; simp
set_option maxHeartbeats 4000000 in
set_option maxRecDepth 100000 in
/-- **impl.PlanMany** -/
theorem implPlanMany_c (x : S39) (cs : List Value) (w : World) (hK : k39.K w x cs) (hsm : Small39 x) :
    Calls Tryz.prog 9 #[.agg cs.toArray] w fun e w' => e = .returned (.int .i64 (iMany x)) ∧ Below w.heap.size w w' := by
  have LC := Aside0.mk (show cs.length = 19 from k39.K_len hK)
  have HK := Aside0.mk hK
  have CA := Aside0.mk (all_c cs)
  have CW := Aside0.mk (fun (W : World) (hb : Below w.heap.size w W) => writable_c x cs W (k39.K_below hb hK) hsm)
  obtain ⟨z, hz⟩ : ∃ z, z = fitB x := ⟨_, rfl⟩
  rw [← hz] at CW
  cases z with
  | false =>
    have VV := Aside0.mk (show iMany x = 0 by unfold iMany; rw [← hz]; rfl)
    clear hK hz hsm
    go_enter Tryz.func9, Tryz.ntmps9
    go_wp2_with (first
      | ((with_reducible refine gate_dst (N := 1) rfl ?_); refine box_ 39 (.tmp 0) rfl rfl cs.toArray rfl ?_; intro bp hg w1 hbx hB; have X1 := Aside0.mk hbx; have B1 := Aside0.mk hB; clear hbx hB hg)
      | ((with_reducible refine gate_dst (N := 4) rfl ?_); refine loadVar_ 39 (.tmp 1) rfl rfl bp ?hx cs _ Tryz.underlying39 ?hi _ X1.out ?_; (case hx => first | rfl | (go_simp; done) | (go_simp; rfl)); (case hi => rw [LC.out]; kernel_rfl))
      | (go_at_call 24; refine (CW.out _ B1.out).mono ?_; rintro e w2 ⟨rfl, hB⟩; have B2 := Aside0.mk (below_step B1.out hB); clear hB))
    go_ret
    exact ⟨by rw [VV.out]; rfl, B2.out⟩
  | true =>
    have VV := Aside0.mk (show iMany x = (goV x 0 0).1.length by unfold iMany; rw [← hz]; rfl)
    have L10 := Aside0.mk (show (goV x 0 0).1.length ≤ 10 by
      have h : sizeB x = true := by
        have h1 := hz; unfold fitB at h1
        exact (Bool.and_eq_true _ _ ▸ h1.symm).1
      exact (okV_le 0 _ ((sizeB_iff x).1 h)).1)
    clear hK hz hsm
    refine callsIn_wide (n := 0).1 ?_
    refine callsIn_of_wp_marks Tryz.func9 rfl trivial ?_ rfl
    simp only [Tryz.ntmps9, List.size_toArray, List.length_cons, List.length_nil, Nat.reduceAdd, Nat.reduceSub, Array.replicate_succ, Array.replicate_zero, List.push_toArray, List.append_toArray, List.nil_append, List.cons_append]
    refine wpIn_wide.2 ?_
    go_wp2_with (first
      | ((with_reducible refine gate_dst (N := 1) rfl ?_); refine box_ 39 (.tmp 0) rfl rfl cs.toArray rfl ?_; intro bp hg w1 hbx hB; have X1 := Aside0.mk hbx; have B1 := Aside0.mk hB; clear hbx hB hg)
      | ((with_reducible refine gate_dst (N := 4) rfl ?_); refine loadVar_ 39 (.tmp 1) rfl rfl bp ?hx cs _ Tryz.underlying39 ?hi _ X1.out ?_; (case hx => first | rfl | (go_simp; done) | (go_simp; rfl)); (case hi => rw [LC.out]; kernel_rfl))
      | (go_at_call 24; refine (CW.out _ B1.out).mono ?_; rintro e w2 ⟨rfl, hB⟩; have B2 := Aside0.mk (below_step B1.out hB); have X2 := Aside0.mk ((hB.block _ (blk_lt X1.out)).trans X1.out); clear hB B1 X1)
      | ((with_reducible refine gate_dst (N := 3) rfl ?_); refine alloc1_ 3 rfl rfl (.int .i64 0) rfl 1 8 (by kernel_rfl) ?_; intro bm hg w3 hb hB; have X3 := Aside0.mk ((hB.block _ (blk_lt X2.out)).trans X2.out); have S3 := Aside0.mk (show MaW w bm 0 w3 from ⟨hb, below_step B2.out hB⟩); have GM := Aside0.mk (show w.heap.size ≤ bm by rw [hg]; exact B2.out.size); have NX := Aside0.mk (show bp ≠ bm by rw [hg]; exact Nat.ne_of_lt (blk_lt X2.out)); clear hg hb hB X2 B2)
      | ((with_reducible refine gate_ (.store 3 (.tmp 3) (.const (.int .i64 0))) rfl ?_); refine store1_ 3 (.tmp 3) (.const (.int .i64 0)) rfl rfl rfl bm rfl (.int .i64 0) rfl rfl rfl (by kernel_rfl) _ _ S3.out.hm ?_; intro w4 hb hg; have S4 := Aside0.mk (show MaW w bm 0 w4 from ⟨hb, S3.out.bel.grown hg S3.out.bel.size (fun k e => by cases e; exact GM.out)⟩); have X4 := Aside0.mk ((hg.block _ (blk_lt X3.out) (by intro e; injection e with e; exact NX.out e)).trans X3.out); clear hb hg X3 S3)
      | ((with_reducible refine gate_dst (N := 7) rfl ?_); refine loadVar_ 39 (.tmp 1) rfl rfl bp ?hx cs _ Tryz.underlying39 ?hi _ X4.out ?_; (case hx => first | rfl | (go_simp; done) | (go_simp; rfl)); (case hi => rw [LC.out]; kernel_rfl))
      | (go_at_call 25; refine (CA.out _).mono ?_; rintro e w5 ⟨bx, rfl, hbx, hB⟩; have X5 := Aside0.mk hbx; have S5 := Aside0.mk (S4.out.below hB (blk_lt S4.out.hm) S4.out.bel.size); clear hbx hB S4 X4))
    refine (wpIn_wide (n := 0)).1 (wpIn_rangeAll (E := VisE w) (V := (goV x 0 0).1) (n₀ := w.heap.size) rfl (enters_v Tryz.func41 (by kernel_rfl) rfl) (all1_gives w x cs HK.out bx w5 X5.out S5.out.bel) S5.out.bel.size (fun v vs h => VisE_size h)
      (fun pre W => MaW w bm pre.length W) (fun c pre W => False)
      (fun s A B hs hb => hs.below hb (blk_lt S5.out.hm) S5.out.bel.size) (fun c s A B hs hb => hs) S5.out ?round ?done ?stop)
    case round =>
      rintro l pre v vs W hsz hS ⟨cs', rfl, hk⟩ hpre
      have LM := Aside0.mk (blk_lt S5.out.hm)
      gi_wp2
      refine ⟨Kp.refl _ _ _, hS, ?_⟩
      rintro W2 hS2 hB2 hz2 -
      obtain ⟨m, hm⟩ : ∃ m, m = pre.length := ⟨_, rfl⟩
      have MH := Aside0.mk hm
      have hm10 : m ≤ 10 := by have h1 := prefix_len hpre; have h2 := L10.out; simp at h1; omega
      rw [← hm] at hS2
      have S2 := Aside0.mk hS2
      have qm : W2.cell? ⟨bm, 0, none⟩ = some (.int .i64 m) := by rw [blk_cell hS2.hm]; rfl
      have WS := Aside0.mk (show w.heap.size ≤ W2.heap.size by have := S5.out.bel.size; omega)
      clear hm hS hk hpre hS2 hB2 hz2 hsz
      gi_wp2_with ((with_reducible refine gateInOp (op := .store 3 (.tmp 3) (.tmp 12)) rfl ?_); refine store1In_ 3 (.tmp 3) (.tmp 12) rfl rfl rfl bm ?hp (.int .i64 ((m : Int) + 1)) ?hx2 rfl rfl (by kernel_rfl) _ _ S2.out.hm ?_; (case hp => first | rfl | (go_simp; done) | (go_simp; rfl)); (case hx2 => first | rfl | (go_simp; done) | (go_simp; rfl)); intro W3 hb hg; have S3 := Aside0.mk (S2.out.set (m := m + 1) hg hb GM.out); have K3 := Aside0.mk (Kp.grown (M := w5.heap.size) hg GM.out WS.out LM.out); clear hb hg qm S2)
      exact ⟨K3.out, by show MaW w bm (pre ++ [v]).length _; rw [show (pre ++ [v]).length = m + 1 by simp [MH.out]]; exact S3.out⟩
    case done =>
      rintro D W hD hS hK
      have KD := Aside0.mk hK
      have B4 := Aside0.mk hS.bel
      have qm : W.cell? ⟨bm, 0, none⟩ = some (.int .i64 ((goV x 0 0).1.length : Nat)) := by rw [blk_cell hS.hm]; rfl
      obtain ⟨m, hm⟩ : ∃ m, m = (goV x 0 0).1.length := ⟨_, rfl⟩
      rw [← hm] at qm VV
      have GD := Aside0.mk (show w.heap.size ≤ D by have := S5.out.bel.size; omega)
      clear hS hK hm
      go_wp2
      refine ⟨by simp, .inl ⟨_, _, rfl, run_takeDeferred KD.out, ?_⟩⟩
      have hb5 : Below w.heap.size W (W.putObj D (.deferred none)) := below_putObj _ _ GD.out
      refine ⟨.int .i64 m, ?res, ?_, B4.out.trans hb5⟩
      case res => exact results_tmp (fn := Tryz.f9) (t := 2) rfl _ _ _
      rw [VV.out]
    case stop =>
      rintro D c pre W hD hpre hF hK
      exact hF.elim
end Pl

end
namespace Pl
/-! ### What can be written: impl's and spec's are one -/
/-- what l4Form asks of a part itself -/
def fOk (x : S39) : Bool :=
  if x.f0 = 1 then decide (0 ≤ x.f1) && decide (x.f1 < 3)
  else if x.f0 = 2 then testB' x.f2 6
  else if x.f0 = 3 then cellsB x.f3 6
  else if x.f0 = 4 then colB x.f4 6 && colB x.f5 6
  else if x.f0 = 7 then keysB x.f6 6 && decide (0 ≤ x.f7) && decide (x.f7 ≤ 3) && colB x.f8 6
  else true
mutual
/-- l4Form -/
def sForm : S39 → Nat → Bool
  | ⟨a, b, ts, cells, c, d, keys, e, f, ks⟩, deep =>
    if deep = 0 ∨ kidsN a ≠ ks.length ∨ cleanB ⟨a, b, ts, cells, c, d, keys, e, f, ks⟩ = false then false
    else fOk ⟨a, b, ts, cells, c, d, keys, e, f, ks⟩ && sForms ks (deep - 1)
def sForms : List S39 → Nat → Bool
  | [], _ => true
  | k :: ks, deep => sForm k deep && sForms ks deep
end
theorem sForm_eq (x : S39) (d : Nat) : sForm x d = if d = 0 ∨ kidsN x.f0 ≠ x.f9.length ∨ cleanB x = false then false else fOk x && sForms x.f9 (d - 1) := by cases x; rfl
theorem sForm_no {x : S39} {d : Nat} (h : d = 0 ∨ kidsN x.f0 ≠ x.f9.length ∨ cleanB x = false) : sForm x d = false := by rw [sForm_eq, if_pos h]
theorem sForm_yes {x : S39} {d : Nat} (h1 : kidsN x.f0 = x.f9.length) (hc : cleanB x = true) : sForm x (d + 1) = (fOk x && sForms x.f9 d) := by
  rw [sForm_eq, if_neg (by simp [h1, hc]), Nat.add_sub_cancel]
theorem sForms_drop (ks : List S39) (d i : Nat) (h : i < ks.length) : sForms (ks.drop i) d = (sForm ks[i] d && sForms (ks.drop (i + 1)) d) := by
  rw [List.drop_eq_getElem_cons h, sForms]
theorem sForms_end (ks : List S39) (d i : Nat) (h : ks.length ≤ i) : sForms (ks.drop i) d = true := by
  rw [List.drop_eq_nil_of_le h, sForms]
/-- l4Fit -/
def sFit (x : S39) : Bool := sForm x 6 && decide (manyF x 6 ≤ 10)
/-- spec.PlanMany -/
def sMany (x : S39) : Nat := if sFit x = true then manyF x 6 else 0
theorem gM_if (ok : Bool) (v : Int) (h : v ≠ -1) : gM (ifW ok v) = ifW ok 6 := by
  unfold gM ifW
  cases ok
  · simp
  · simp [h]
theorem rd1 : rd [6] 0 = 6 := by decide
theorem rd20 : rd [6, 6] 0 = 6 := by decide
theorem rd21 : rd [6, 6] 1 = 6 := by decide
theorem raw_ok {x : S39} (hn : ¬ x.f0 = 1) (hk : kidsN x.f0 = x.f9.length) : gM (rawW x (List.replicate x.f9.length 6)) = ifW (fOk x) 6 := by
  rcases kidsN_in hk with ⟨e, hlen⟩ | ⟨e, hlen⟩ | ⟨e, hlen⟩ | ⟨e, hlen⟩ | ⟨e, hlen⟩ | ⟨e, hlen⟩ | ⟨e, hlen⟩
  · exact absurd e hn
  · rw [hlen]; unfold rawW fOk; rw [e]; exact gM_if _ _ (by decide)
  · rw [hlen]; unfold rawW fOk; rw [e]; exact gM_if _ _ (by omega)
  · rw [hlen]; unfold rawW fOk; rw [e]
    show gM (ifW (colB x.f4 6 && colB x.f5 6) (wrap64 12)) = ifW (colB x.f4 6 && colB x.f5 6) 6
    rw [show wrap64 12 = 12 by unfold wrap64; omega]
    exact gM_if _ _ (by decide)
  · rw [hlen]; unfold rawW fOk; rw [e]; rfl
  · rw [hlen]; unfold rawW fOk; rw [e]; rfl
  · rw [hlen]; unfold rawW fOk; rw [e]
    refine (gM_if _ _ (by omega)).trans ?_
    show ifW (decide (0 ≤ x.f7) && decide (x.f7 ≤ 3) && keysB x.f6 6 && colB x.f8 6) 6 = ifW (keysB x.f6 6 && decide (0 ≤ x.f7) && decide (x.f7 ≤ 3) && colB x.f8 6) 6
    cases keysB x.f6 6 <;> cases decide (0 ≤ x.f7) <;> cases decide (x.f7 ≤ 3) <;> rfl
theorem raw_ok1 {x : S39} (h1 : x.f0 = 1) : gM (rawW x [6, 6, 6]) = ifW (fOk x) 6 := by
  unfold rawW fOk tableW
  rw [if_pos h1, if_pos h1]
  by_cases hc : 0 ≤ x.f1 ∧ x.f1 < 3
  · rw [if_pos (by simpa using hc), decide_eq_true hc.1, decide_eq_true hc.2]
    have h : x.f1 = 0 ∨ x.f1 = 1 ∨ x.f1 = 2 := by omega
    rcases h with e | e | e <;> rw [e] <;> decide
  · rw [if_neg (by simpa using hc)]
    have : (decide (0 ≤ x.f1) && decide (x.f1 < 3)) = false := by
      by_cases h0 : 0 ≤ x.f1
      · rw [decide_eq_false (show ¬ x.f1 < 3 by omega), Bool.and_false]
      · rw [decide_eq_false h0, Bool.false_and]
    rw [this]; rfl
/-- Where a plan goes no deeper than that, both find the same of it. -/
theorem form_same : ∀ (m : Nat) (x : S39), sz39 x ≤ m → ∀ d, hgt x ≤ d → wideF gM [6, 6, 6] x = ifW (sForm x d) 6 := by
  intro m
  induction m with
  | zero => intro x h; have := sz39_kids x; omega
  | succ m ih =>
    intro x hm d hd
    have hk := sz39_kids x
    rw [hgt_eq] at hd
    have go : ∀ (ks : List S39), szs39 ks ≤ m → ∀ d, hgts ks ≤ d → wideFs gM [6, 6, 6] ks = if sForms ks d = true then some (List.replicate ks.length 6) else none := by
      intro ks
      induction ks with
      | nil => intro _ d _; rfl
      | cons k ks ihk =>
        intro hs d hd
        simp only [szs39] at hs
        simp only [hgts] at hd
        rw [wideFs, sForms, ih k (by omega) d (by omega), ihk (by omega) d (by omega)]
        cases sForm k d
        · rfl
        · cases sForms ks d
          · rfl
          · rfl
    obtain ⟨d, rfl⟩ : ∃ d', d = d' + 1 := ⟨d - 1, by omega⟩
    have hgo := go x.f9 (by omega) d (by omega)
    have sc := shaped_clean x
    by_cases hsh : shapedB x = true
    · rw [hsh] at sc
      have sc2 : kidsN x.f0 = x.f9.length ∧ cleanB x = true := by simpa using sc.symm
      rw [sForm_yes sc2.1 sc2.2]
      by_cases h1 : x.f0 = 1
      · have h9 : x.f9 = [] := by
          have h := sc2.1; rw [h1] at h
          have : (x.f9.length : Int) = 0 := h.symm
          exact List.eq_nil_of_length_eq_zero (by omega)
        rw [wideF_tab hsh h1 (by decide), raw_ok1 h1, h9]
        show _ = ifW (fOk x && true) 6
        rw [Bool.and_true]
      · cases hs : sForms x.f9 d with
        | false =>
          rw [hs] at hgo
          rw [wideF_none h1 (hgo.trans rfl), Bool.and_false]; rfl
        | true =>
          rw [hs] at hgo
          rw [wideF_some hsh h1 (hgo.trans rfl), Bool.and_true]
          exact raw_ok h1 sc2.1
    · have hsf : shapedB x = false := by simpa using hsh
      rw [hsf] at sc
      have sc2 : kidsN x.f0 ≠ x.f9.length ∨ cleanB x = false := by
        by_cases h : kidsN x.f0 = x.f9.length
        · right; simpa [h] using sc.symm
        · exact .inl h
      rw [wideF_no hsf, sForm_no (.inr sc2)]; rfl
/-- What goes deeper has no form. -/
theorem form_deep : ∀ (m : Nat) (x : S39), sz39 x ≤ m → ∀ d, d < hgt x → sForm x d = false := by
  intro m
  induction m with
  | zero => intro x h; have := sz39_kids x; omega
  | succ m ih =>
    intro x hm d hd
    have hk := sz39_kids x
    rw [hgt_eq] at hd
    have go : ∀ (ks : List S39), szs39 ks ≤ m → ∀ d, d < hgts ks → sForms ks d = false := by
      intro ks
      induction ks with
      | nil => intro _ d h; simp only [hgts] at h; omega
      | cons k ks ihk =>
        intro hs d hd
        simp only [szs39] at hs
        simp only [hgts] at hd
        rw [sForms]
        by_cases h : d < hgt k
        · rw [ih k (by omega) d h, Bool.false_and]
        · rw [ihk (by omega) d (by omega), Bool.and_false]
    cases d with
    | zero => exact sForm_no (.inl rfl)
    | succ d =>
      rw [sForm_eq]
      split
      · rfl
      · rw [Nat.add_sub_cancel, go x.f9 (by omega) d (by omega), Bool.and_false]
theorem ifW_ne (b : Bool) : (ifW b 6 != -1) = b := by cases b <;> rfl
theorem fit_law (x : S39) : fitB x = sFit x := by
  unfold fitB sFit
  by_cases h6 : hgt x ≤ 6
  · have e := form_same _ x (Nat.le_refl _) 6 h6
    have hm := many_full _ x (Nat.le_refl _) 6 (by omega)
    rw [e, ifW_ne, hm]
    have hs := size_full x
    by_cases h10 : sz39 x ≤ 10
    · rw [hs.2 ⟨h6, h10⟩, decide_eq_true h10, Bool.true_and, Bool.and_true]
    · rw [decide_eq_false h10, Bool.and_false]
      have : sizeB x = false := by cases h : sizeB x with | false => rfl | true => exact absurd (hs.1 h).2 h10
      rw [this, Bool.false_and]
  · rw [form_deep _ x (Nat.le_refl _) 6 (by omega), Bool.false_and]
    have : sizeB x = false := by cases h : sizeB x with | false => rfl | true => exact absurd ((size_full x).1 h).1 h6
    rw [this, Bool.false_and]
theorem fit_size {x : S39} (h : fitB x = true) : sizeB x = true := by
  unfold fitB at h
  cases hs : sizeB x with
  | true => rfl
  | false => rw [hs, Bool.false_and] at h; cases h
/-- **The plain law of FnExactPlanMany** -/
theorem many_law (x : S39) : iMany x = sMany x := by
  unfold iMany sMany
  rw [fit_law]
  by_cases h : sFit x = true
  · rw [if_pos h, if_pos h]
    have hs := fit_size ((fit_law x).trans h)
    have hf := (size_full x).1 hs
    rw [many_full _ x (Nat.le_refl _) 6 (by omega)]
    exact (goV_full _ x (Nat.le_refl _) 0 0).2 hs
  · rw [if_neg h, if_neg h]
/-! ### Which tables a plan uses -/
/-- is table n -/
def isT (n : Int) (x : S39) : Bool := decide (x.f0 = 1) && decide (x.f1 = n)
/-- impl.PlanUses -/
noncomputable def iUses (x : S39) (n : Int) : Bool := fitB x && (goV x 0 0).1.any (fun v => isT n v.2)
mutual
/-- l4Uses -/
def usesF (n : Int) : S39 → Bool
  | ⟨a, b, _, _, _, _, _, _, _, ks⟩ => if a = 1 then decide (b = n) else usesFs n ks
def usesFs (n : Int) : List S39 → Bool
  | [] => false
  | k :: ks => usesF n k || usesFs n ks
end
theorem usesF_eq (n : Int) (x : S39) : usesF n x = if x.f0 = 1 then decide (x.f1 = n) else usesFs n x.f9 := by cases x; rfl
theorem usesFs_drop (n : Int) (ks : List S39) (i : Nat) (h : i < ks.length) : usesFs n (ks.drop i) = (usesF n ks[i] || usesFs n (ks.drop (i + 1))) := by
  rw [List.drop_eq_getElem_cons h, usesFs]
theorem usesFs_end (n : Int) (ks : List S39) (i : Nat) (h : ks.length ≤ i) : usesFs n (ks.drop i) = false := by
  rw [List.drop_eq_nil_of_le h, usesFs]
/-- spec.PlanUses -/
def sUses (x : S39) (n : Int) : Bool := sFit x && usesF n x
theorem any_same (q : Int) : ∀ (m : Nat) (x : S39), sz39 x ≤ m → ∀ deep n d, (goV x deep n).2 = true → sForm x d = true → (goV x deep n).1.any (fun v => isT q v.2) = usesF q x := by
  intro m
  induction m with
  | zero => intro x h; have := sz39_kids x; omega
  | succ m ih =>
    intro x hm deep n d hg hf
    have hk := sz39_kids x
    have go : ∀ (ks : List S39), szs39 ks ≤ m → ∀ deep n d, (goVs ks deep n).2 = true → sForms ks d = true → (goVs ks deep n).1.any (fun v => isT q v.2) = usesFs q ks := by
      intro ks
      induction ks with
      | nil => intro _ deep n d _ _; rfl
      | cons k ks ihk =>
        intro hs deep n d hg hf
        simp only [szs39] at hs
        rw [sForms, Bool.and_eq_true] at hf
        by_cases hc : (goV k deep n).2 = true
        · rw [goVs_true hc] at hg ⊢
          rw [List.any_append, ih k (by omega) deep n d hc hf.1, ihk (by omega) _ _ d hg hf.2, usesFs]
        · rw [goVs_false (by simpa using hc)] at hg; cases hg
    rw [sForm_eq] at hf
    by_cases hb : d = 0 ∨ kidsN x.f0 ≠ x.f9.length ∨ cleanB x = false
    · rw [if_pos hb] at hf; cases hf
    rw [if_neg hb, Bool.and_eq_true] at hf
    by_cases hc : n + 1 > 10 ∨ deep ≥ 6
    · rw [goV_stop hc] at hg; cases hg
    rw [goV_go hc] at hg ⊢
    rw [List.any_cons, go x.f9 (by omega) _ _ (d - 1) hg hf.2, usesF_eq]
    unfold isT
    by_cases h1 : x.f0 = 1
    · have h9 : x.f9 = [] := by
        have h : kidsN x.f0 = x.f9.length := by by_cases h : kidsN x.f0 = x.f9.length; exact h; exact absurd (.inr (.inl h)) hb
        rw [h1] at h
        have : (x.f9.length : Int) = 0 := h.symm
        exact List.eq_nil_of_length_eq_zero (by omega)
      rw [if_pos h1, h9, decide_eq_true h1, Bool.true_and]
      exact Bool.or_false _
    · rw [if_neg h1, decide_eq_false h1, Bool.false_and, Bool.false_or]
/-- **The plain law of FnExactPlanUses** -/
theorem uses_law (x : S39) (n : Int) : iUses x n = sUses x n := by
  unfold iUses sUses
  rw [fit_law]
  by_cases h : sFit x = true
  · have hs := fit_size ((fit_law x).trans h)
    have hf : sForm x 6 = true := by unfold sFit at h; exact (Bool.and_eq_true _ _ ▸ h).1
    rw [any_same n _ x (Nat.le_refl _) 0 0 6 hs hf]
  · have : sFit x = false := by simpa using h
    rw [this, Bool.false_and, Bool.false_and]
end Pl

end Go.Proofs.YtlpgnkndjmfcjaaGreat.PFnPlanUses
