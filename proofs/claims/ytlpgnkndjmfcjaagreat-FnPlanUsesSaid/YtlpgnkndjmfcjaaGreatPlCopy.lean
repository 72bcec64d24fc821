/- The given specification's l4Copy makes the same plan in new memory. What a draw of a plan gives, and what l4Plan's walk keeps. A second plan in its box, and rows of one plan and of two. A plan in a variable of the call's own, its rows apart. -/
import Derived.Test.YtlpgnkndjmfcjaaGreatPlDraw3
namespace Go.Proofs.YtlpgnkndjmfcjaaGreat.PFnPlanUses
open Go.RowKit Go.Proofs.YtlpgnkndjmfcjaaGreatW.PrintWords Go.Proofs.YtlpgnkndjmfcjaaGreatW.PrintLast Go.Proofs.YtlpgnkndjmfcjaaGreatW.PrintMore
attribute [local go_sem] max2_int min2_int max_two min_two max_three min_three max_four min_four   -- for this text's walks alone
set_option linter.unusedVariables false
set_option linter.unusedSimpArgs false
namespace Pl
theorem R_put {α : Type} {d : Kd α} {e base g t : Nat} {ok : Nat → Prop} {W W1 : World} {v : Value} {xs : List α} {cs : List Value} (h : d.R e W base ok v xs) (hg : W.grownBy W1 (some g)) (hb : W.heap[g]? = some (.cells cs.toArray t (0, 0))) (ht : ∀ q, q ∈ e :: d.E → q ≠ t) : d.R e W1 base ok v xs :=
  Kd.R_mono (Kd.R_grown (Kd.R_types h hb ht) hg (fun k hk e => by injection e with e; exact hk.2 e)) (fun _ h => h.1)
def CpP (N : Nat) : Prop := ∀ (x : S39) (cs : List Value) (w : World), sz39 x ≤ N → k39.K w x cs → Small39 x →
  Calls Tryz.prog 62 #[.agg cs.toArray] w fun e w' => ∃ cs' : List Value, e = .returned (.agg cs'.toArray) ∧ k39.M w' w.heap.size (fun _ => True) x cs' ∧ Below w.heap.size w w'
set_option maxHeartbeats 16000000 in
set_option maxRecDepth 100000 in
theorem cp_step (N : Nat) (ih : ∀ m, m ≤ N → CpP m) : CpP (N + 1) := by
  intro x cs w hn hK hsm
  have LC := Aside0.mk (show cs.length = 19 from k39.K_len hK)
  have OC := Aside0.mk (show ∀ q ∈ cs, q.oneCell' = true from k39.K_one hK)
  obtain ⟨A12, c12, A15, c15, A18, c18, hcs, l12, g12, l15, g15, l18, g18⟩ := k39_open hK
  have HCS := Aside0.mk (show cs = (planV x (.slice A12 x.f3.length c12) (.slice A15 x.f6.length c15) (.slice A18 x.f9.length c18)) from hcs)
  have E12 := Aside0.mk (show cs[12]? = some (.slice A12 x.f3.length c12) by rw [hcs]; rfl)
  have E15 := Aside0.mk (show cs[15]? = some (.slice A15 x.f6.length c15) by rw [hcs]; rfl)
  have E18 := Aside0.mk (show cs[18]? = some (.slice A18 x.f9.length c18) by rw [hcs]; rfl)
  have so := hsm.out
  have S12 := Aside0.mk so.1
  have S15 := Aside0.mk so.2.1
  have S18 := Aside0.mk so.2.2.1
  have SM := Aside0.mk so.2.2.2
  have G12 := Aside0.mk g12
  have G15 := Aside0.mk g15
  have G18 := Aside0.mk g18
  have SK := Aside0.mk (show szs39 x.f9 ≤ N by have := sz39_kids x; omega)
  have IH := Aside0.mk ih
  clear hcs l12 g12 l15 g15 l18 g18 hK hn ih so hsm
  go_enter Tryz.func62, Tryz.ntmps62
  go_wp2_with (first
    | ((with_reducible refine gate_dst (N := 1) rfl ?_); refine box_ 39 (.tmp 0) rfl rfl cs.toArray rfl ?_; intro gb hg w1 hb hB; have X1 := Aside0.mk hb; have B1 := Aside0.mk hB; have G1 := Aside0.mk (show w.heap.size ≤ gb by rw [hg]; exact Nat.le_refl _); clear hb hB hg)
    | ((with_reducible refine gate_dst (N := 2) rfl ?_); refine alloc_ 39 rfl rfl zero39 _ _ info39 ?_; intro gr hg w2 hb hB; have Y2 := Aside0.mk hb; have X2 := Aside0.mk ((hB.block _ (blk_lt X1.out)).trans X1.out); have B2 := Aside0.mk (below_step B1.out hB); have L2 := Aside0.mk (show gb < gr by rw [hg]; exact blk_lt X1.out); clear hb hB hg)
    | ((with_reducible refine gate_dst (N := 5) rfl ?_); refine loadVar_ 39 (.tmp 1) rfl rfl gb ?hx cs _ Tryz.underlying39 ?hi _ X2.out ?_; (case hx => first | rfl | (go_simp; done) | (go_simp; rfl)); (case hi => rw [LC.out]; kernel_rfl))
    | ((with_reducible refine gate_dst (N := 3) rfl ?_); refine alloc_ 39 rfl rfl zero39 _ _ info39 ?_; intro go hg w3 hb hB; have CSx := Aside0.mk (show CS w gb gr go cs zero39 w3 from ⟨(hB.block _ (blk_lt X2.out)).trans X2.out, hb, (hB.block _ (blk_lt Y2.out)).trans Y2.out, below_step B2.out hB, G1.out, L2.out, by rw [hg]; exact blk_lt Y2.out⟩); clear hb hB hg X1 B1 Y2 X2 B2 G1 L2)
    | ((with_reducible refine gate_ (.store 39 (.tmp 3) (.tmp 5)) rfl ?_); refine storeAll_ 39 (.tmp 3) (.tmp 5) rfl rfl rfl go ?hp cs ?hx2 ?ht OC.out zero39 _ CSx.out.ho ?hf ?_; (case hp => first | rfl | (go_simp; done) | (go_simp; rfl)); (case hx2 => first | rfl | (go_simp; done) | (go_simp; rfl)); (case ht => rw [LC.out]; kernel_rfl); (case hf => rw [LC.out]; rfl); intro wq hb hg; have CSx_ := Aside0.mk ((CSx.out.put hg (HCS.out ▸ hb) : CS w gb gr go cs (planV x (.slice A12 x.f3.length c12) (.slice A15 x.f6.length c15) (.slice A18 x.f9.length c18)) wq)); clear CSx; have CSx := CSx_; clear CSx_; have q12 := CSx.out.cb E12.out; have q15 := CSx.out.cb E15.out; clear hb hg)
    | ((with_reducible refine gate_dst (N := 6) rfl ?_); refine Kd.R_lit k33 w.heap.size 33 ?hg (N := 6) ?hd (xs := []) (inner := []) (ok := fun k => go < k) (okp := fun _ => False) ?hr (Reps.none _ _) (fun _ h => h.elim) (blk_lt CSx.out.ho) CSx.out.bel CSx.out.bel.size (by simp) ?_; (case hd => rfl); (case hg => rfl); (case hr => first | (go_simp; done) | (go_simp; rfl)); intro v6 wq ho hB hg hnew; have LV6 := Aside0.mk ho; have CSx_ := Aside0.mk (CSx.out.row hg (fun k e => by cases e)); clear CSx; have CSx := CSx_; clear CSx_; clear q12 q15; have q12 := CSx.out.cb E12.out; have q15 := CSx.out.cb E15.out; clear ho hB hg hnew)
    | (at_builtin; refine Kd.R_append_rows k33 (w0 := w) w.heap.size rfl (.tmp 6) (.tmp 8) 36 33 (.agg #[.int .i64 0, .int .i64 0, .int .i64 0, .int .i64 0]) 32 rfl Tryz.underlying36 info33 rfl (by decide) (by omega) v6 [] x.f3 _ _ _ (fun k => go < k) (fun _ => False) rfl rfl ?aO ?aR (fun _ _ h => h) (fun _ h => h.elim) ?aF ?aB ?aS ?aL ?_; (case aO => exact LV6.out); (case aR => exact Kd.C_below G12.out CSx.out.bel); (case aF => exact fun k hk => Nat.lt_of_lt_of_le (blk_lt CSx.out.ho) hk); (case aB => exact CSx.out.bel); (case aS => exact CSx.out.bel.size); (case aL => have := S12.out; simp; omega); intro vn wq ho hB hg hat; rw [List.nil_append] at ho; obtain ⟨A9, d9, rfl⟩ := Kd.R_slice ho; have R9 := Aside0.mk ho; have CSx_ := Aside0.mk (CSx.out.row hg (fun k e => R_own_gt LV6.out k e)); clear CSx; have CSx := CSx_; clear CSx_; clear q12 q15; have q12 := CSx.out.cb E12.out; have q15 := CSx.out.cb E15.out; clear LV6 ho hB hg hat)
    | ((with_reducible refine gate_ (.store 36 (.tmp 10) (.tmp 9)) rfl ?_); refine store_ 36 (.tmp 10) (.tmp 9) rfl rfl rfl go 12 ?hp (.slice A9 x.f3.length d9) ?hx [.slice A9 x.f3.length d9] ?hu ?ht ?h1 (planV x (.slice A12 x.f3.length c12) (.slice A15 x.f6.length c15) (.slice A18 x.f9.length c18)) _ CSx.out.ho ?hf ?_; (case hp => first | rfl | (go_simp; done) | (go_simp; rfl)); (case hx => first | rfl | (go_simp; done) | (go_simp; rfl)); (case hu => rfl); (case ht => kernel_rfl); (case h1 => simp [Value.oneCell']); (case hf => simp [planV]); intro wq hb hg; have R9_ := Aside0.mk (R_stor R9.out hg (Nat.le_refl _)); clear R9; have R9 := R9_; clear R9_; have CSx_ := Aside0.mk ((CSx.out.put hg hb : CS w gb gr go cs (planV x (.slice A9 x.f3.length d9) (.slice A15 x.f6.length c15) (.slice A18 x.f9.length c18)) wq)); clear CSx; have CSx := CSx_; clear CSx_; clear q12 q15; have q12 := CSx.out.cb E12.out; have q15 := CSx.out.cb E15.out; clear hb hg)
    | ((with_reducible refine gate_dst (N := 11) rfl ?_); obtain ⟨n9, hn9⟩ : ∃ n, n = wq.heap.size := ⟨_, rfl⟩; refine Kd.R_lit (Kd.int .i64) w.heap.size 3 ?hg (N := 11) ?hd (xs := []) (inner := []) (ok := fun k => go < k) (okp := fun _ => False) ?hr (Reps.none _ _) (fun _ h => h.elim) (blk_lt CSx.out.ho) CSx.out.bel CSx.out.bel.size (by simp) ?_; (case hd => rfl); (case hg => rfl); (case hr => first | (go_simp; done) | (go_simp; rfl)); intro v11 wq ho hB hg hnew; have LV11 := Aside0.mk ho; have CSx_ := Aside0.mk (CSx.out.row hg (fun k e => by cases e)); clear CSx; have CSx := CSx_; clear CSx_; have R9_ := Aside0.mk (show Kd.R k33 33 wq w.heap.size (fun k => k < n9) (.slice A9 x.f3.length d9) x.f3 from Kd.R_grown (Kd.R_mono (Kd.R_bound R9.out) (fun k hk => by rw [hn9]; exact hk.2.2.1)) hg (fun k _ e => by cases e)); clear R9; have R9 := R9_; clear R9_; have N11 := Aside0.mk (show ∀ k, v11.ownBlock = some k → n9 ≤ k from fun k hk => by obtain ⟨b, e, h⟩ := hnew; rw [e] at hk; injection hk with hk; omega); clear hn9; clear q12 q15; have q12 := CSx.out.cb E12.out; have q15 := CSx.out.cb E15.out; clear ho hB hg hnew)
    | (at_builtin; refine Kd.R_append_rows (Kd.int .i64) (w0 := w) w.heap.size rfl (.tmp 11) (.tmp 13) 27 3 (.int .i64 0) 8 rfl Tryz.underlying27 info3 rfl (by decide) (by omega) v11 [] x.f6 _ _ _ (fun k => go < k) (fun _ => False) rfl rfl ?aO ?aR (fun _ _ h => h) (fun _ h => h.elim) ?aF ?aB ?aS ?aL ?_; (case aO => exact LV11.out); (case aR => exact Kd.C_below G15.out CSx.out.bel); (case aF => exact fun k hk => Nat.lt_of_lt_of_le (blk_lt CSx.out.ho) hk); (case aB => exact CSx.out.bel); (case aS => exact CSx.out.bel.size); (case aL => have := S15.out; simp; omega); intro vn wq ho hB hg hat; rw [List.nil_append] at ho; obtain ⟨A14, d14, rfl⟩ := Kd.R_slice ho; have R14 := Aside0.mk ho; have CSx_ := Aside0.mk (CSx.out.row hg (fun k e => R_own_gt LV11.out k e)); clear CSx; have CSx := CSx_; clear CSx_; have R9_ := Aside0.mk (Kd.R_grown R9.out hg (fun k hk e => by have := N11.out k e.symm; omega)); clear R9; have R9 := R9_; clear R9_; clear N11; clear q12 q15; have q12 := CSx.out.cb E12.out; have q15 := CSx.out.cb E15.out; clear LV11 ho hB hg hat)
    | ((with_reducible refine gate_ (.store 27 (.tmp 15) (.tmp 14)) rfl ?_); refine store_ 27 (.tmp 15) (.tmp 14) rfl rfl rfl go 15 ?hp (.slice A14 x.f6.length d14) ?hx [.slice A14 x.f6.length d14] ?hu ?ht ?h1 (planV x (.slice A9 x.f3.length d9) (.slice A15 x.f6.length c15) (.slice A18 x.f9.length c18)) _ CSx.out.ho ?hf ?_; (case hp => first | rfl | (go_simp; done) | (go_simp; rfl)); (case hx => first | rfl | (go_simp; done) | (go_simp; rfl)); (case hu => rfl); (case ht => kernel_rfl); (case h1 => simp [Value.oneCell']); (case hf => simp [planV]); intro wq hb hg; have R9_ := Aside0.mk (R_put R9.out hg CSx.out.ho (by decide)); have R14_ := Aside0.mk (R_stor R14.out hg (Nat.le_refl _)); clear R9 R14; have R9 := R9_; have R14 := R14_; clear R9_ R14_; have CSx_ := Aside0.mk ((CSx.out.put hg hb : CS w gb gr go cs (planV x (.slice A9 x.f3.length d9) (.slice A14 x.f6.length d14) (.slice A18 x.f9.length c18)) wq)); clear CSx; have CSx := CSx_; clear CSx_; clear q12 q15; have q12 := CSx.out.cb E12.out; have q15 := CSx.out.cb E15.out; clear hb hg)
    | ((with_reducible refine gate_ (.store 37 (.tmp 16) (.const (.slice none 0 0))) rfl ?_); refine store_ 37 (.tmp 16) (.const (.slice none 0 0)) rfl rfl rfl go 18 ?hp (.slice none 0 0) ?hx [.slice none 0 0] ?hu ?ht ?h1 (planV x (.slice A9 x.f3.length d9) (.slice A14 x.f6.length d14) (.slice A18 x.f9.length c18)) _ CSx.out.ho ?hf ?_; (case hp => first | rfl | (go_simp; done) | (go_simp; rfl)); (case hx => first | rfl | (go_simp; done) | (go_simp; rfl)); (case hu => rfl); (case ht => kernel_rfl); (case h1 => simp [Value.oneCell']); (case hf => simp [planV]); intro wq hb hg; have R9_ := Aside0.mk (R_put R9.out hg CSx.out.ho (by decide)); have R14_ := Aside0.mk (R_stor R14.out hg (Nat.le_refl _)); clear R9 R14; have R9 := R9_; have R14 := R14_; clear R9_ R14_; have CSx_ := Aside0.mk ((CSx.out.put hg hb : CS w gb gr go cs (planV x (.slice A9 x.f3.length d9) (.slice A14 x.f6.length d14) (.slice none 0 0)) wq)); clear CSx; have CSx := CSx_; clear CSx_; clear q12 q15; have q12 := CSx.out.cb E12.out; have q15 := CSx.out.cb E15.out; clear hb hg))
  obtain ⟨n0, hn0⟩ : ∃ n, n = wq.heap.size := ⟨_, rfl⟩
  have N0 := Aside0.mk (show go < n0 by rw [hn0]; exact blk_lt CSx.out.ho)
  have NW := Aside0.mk (show n0 ≤ wq.heap.size by rw [hn0]; exact Nat.le_refl _)
  have R9_ := Aside0.mk (show Kd.R k33 33 wq w.heap.size (fun k => k < n0) (.slice A9 x.f3.length d9) x.f3 from Kd.R_mono (Kd.R_bound R9.out) (fun k hk => by rw [hn0]; exact hk.2.2.1))
  have R14_ := Aside0.mk (show Kd.R (Kd.int .i64) 3 wq w.heap.size (fun k => k < n0) (.slice A14 x.f6.length d14) x.f6 from Kd.R_mono (Kd.R_bound R14.out) (fun k hk => by rw [hn0]; exact hk.2.2.1))
  have R18_ := Aside0.mk (show Kd.R k39 39 wq w.heap.size (fun k => n0 ≤ k) (.slice none 0 0) (x.f9.take 0) from Kd.R_nil _ _ _ _ _)
  clear q12 q15 hn0 R9 R14
  go_loopw [4] (fun v4 wr => ∃ (i : Nat) (v18 : Value), v4 = .int .i64 i ∧ i ≤ x.f9.length ∧ Aside0 (CS w gb gr go cs (planV x (.slice A9 x.f3.length d9) (.slice A14 x.f6.length d14) v18) wr) ∧ Aside0 (Kd.R k33 33 wr w.heap.size (fun k => k < n0) (.slice A9 x.f3.length d9) x.f3) ∧ Aside0 (Kd.R (Kd.int .i64) 3 wr w.heap.size (fun k => k < n0) (.slice A14 x.f6.length d14) x.f6) ∧ Aside0 (Kd.R k39 39 wr w.heap.size (fun k => n0 ≤ k) v18 (x.f9.take i)) ∧ Aside0 (n0 ≤ wr.heap.size)) (fun v4 _ => x.f9.length - (intOf v4).toNat)
  case atStart => exact ⟨0, .slice none 0 0, rfl, Nat.zero_le _, CSx, R9_, R14_, R18_, NW⟩
  case round =>
    clear CSx R9_ R14_ R18_ NW
    obtain ⟨i, v18, rfl, hi, CSx, R9, R14, R18, NW⟩ := hrel
    have q18 := CSx.out.cb E18.out
    have hlen : x.f9.length ≤ 1048576 := S18.out
    by_cases hlt : i < x.f9.length
    · obtain ⟨ad, c0, e18, hcl, hK0, hcell⟩ := elem_ G18.out i hlt
      obtain rfl := e18
      have hsz := szs39_get hlt
      have LD := Aside0.mk (show c0.length = 19 from hcl)
      have HE := Aside0.mk hcell
      have CA := Aside0.mk (fun (W : World) (hb : Below w.heap.size w W) => IH.out (sz39 x.f9[i]) (by have := SK.out; omega) x.f9[i] c0 W (Nat.le_refl _) (k39.K_below hb hK0) (SM.out _ (List.getElem_mem hlt)))
      have HLT := Aside0.mk hlt
      obtain ⟨nr, hnr⟩ : ∃ n, n = wr.drew.heap.size := ⟨_, rfl⟩
      have NN := Aside0.mk (show n0 ≤ nr by rw [hnr]; exact NW.out)
      have O18 := Aside0.mk (show ∀ k, v18.ownBlock = some k → k < nr from fun k hk => by rw [hnr]; exact (R_own_lt R18.out k hk : k < wr.heap.size))
      clear hK0 hcell hcl hsz NW
      go_wp2
      refine start_ (n := 12) (S := fun W => CS w gb gr go cs (planV x (.slice A9 x.f3.length d9) (.slice A14 x.f6.length d14) v18) W ∧ W.cell? ⟨go, 18, none⟩ = some v18 ∧ W.cell? ⟨gb, 18, none⟩ = some (.slice (some ad) x.f9.length c18)) (ds := [11]) (zm 12 0) (by kernel_rfl) rfl rfl ⟨CSx.out.drew, CSx.out.drew.co rfl, CSx.out.drew.cb E18.out⟩ (fun hHeld => ?_)
      refine zpk 0 24 12 1 ?_
      refine ztk 1 25 12 3 ?_
      refine zpk 2 26 12 7 ?_
      refine ztk 3 27 12 15 ?_
      refine zpk 4 28 12 31 ?_
      refine zpk 5 29 12 63 ?_
      refine take_ (i := 6) (N := some 30) (v := _) (a' := ?_) (zm 12 127) rfl rfl (by kernel_rfl) (fun _ _ _ h => h) (yieldsIf_loadA (by rfl) 39 (.tmp 29) rfl (ad.add (i * 19)) (by first | rfl | (go_simp; done) | (go_simp; rfl)) c0 _ (fun W h j v hj => zhs h.1.bel (HE.out j v hj)) Tryz.underlying39 (by rw [LD.out]; kernel_rfl)) hHeld ?_ ?_
      rotate_left
      · simp only [Act.put, List.setIfInBounds_toArray, List.set_cons_zero, List.set_cons_succ]
        rfl
      refine one_ (i := 7) (N := some 31) (zm 12 255) rfl rfl (by kernel_rfl) (by decide) (fun K hK => ?_)
      refine goes_ Tryz.func62 (by kernel_rfl) rfl #[.agg c0.toArray] (by rfl) rfl rfl (by simp only [List.map_toArray, List.map_cons, List.map_nil]; rfl) ?_
      refine (CA.out _ hHeld.1.bel).mono ?_
      rintro e we ⟨c1, rfl, hM, hB⟩
      refine ⟨_, rfl, ?_⟩
      have C7 := hHeld.1.call hB
      have U9 := Kd.R_below (Kd.R_below R9.out (below_drew (Below.refl _ _))) hB
      have U14 := Kd.R_below (Kd.R_below R14.out (below_drew (Below.refl _ _))) hB
      have U18 := Kd.R_below (Kd.R_below R18.out (below_drew (Below.refl _ _))) hB
      refine hK.out _ _ ⟨C7, C7.co rfl, C7.cb E18.out⟩ (fun hHeld => ?_)
      clear hK K
      refine norm_ (a' := ?_) ?_ ?_
      rotate_left
      · show Act.put _ (some 31) _ = _
        simp only [Act.put, List.setIfInBounds_toArray, List.set_cons_zero, List.set_cons_succ, i64_w, i32_w]
        rfl
      have hl1 : c1.length = 19 := k39.K_len (k39.K_of_M hM)
      refine one_ (i := 8) (N := some 32) (zm 12 511) rfl rfl (by kernel_rfl) (by decide) (fun K hK => ?_)
      refine event_step (by rfl) (exec_lit1 37 39 (.tmp 31) rfl Tryz.underlying37 _ 19 200 info39 (by decide) (by decide) c1 hl1 (by rfl)) ?_
      have C8 := C7.call (below_alloc (Below.refl _ _) (.cells c1.toArray 39))
      refine hK.out _ _ ⟨C8, C8.co rfl, C8.cb E18.out⟩ (fun hHeld => ?_)
      clear hK K
      refine norm_ (a' := ?_) ?_ ?_
      rotate_left
      · show Act.put _ (some 32) _ = _
        simp only [Act.put, List.setIfInBounds_toArray, List.set_cons_zero, List.set_cons_succ, i64_w, i32_w]
        rfl
      refine one_ (i := 9) (N := some 33) (zm 12 1023) rfl rfl (by kernel_rfl) (by decide) (fun K hK => ?_)
      refine Kd.R_append_step k39 (w0 := w) w.heap.size (by rfl) (.tmp 25) (.tmp 32) 37 39 _ _ rfl Tryz.underlying37 info39 rfl (by decide) (by decide) v18 (x.f9.take i) x.f9[i] c1 (fun k => n0 ≤ k) (fun k => nr ≤ k) (by rfl) (by rfl) (k39.M_lower (Nat.le_trans CSx.out.bel.size (Nat.le_refl _)) (k39.M_mono (fun k hk => by rw [hnr]; exact hk.2.1) (k39.M_bound hM))) (fun k hk => ⟨Nat.le_trans NN.out hk, fun e => by have := O18.out k e.symm; omega⟩) (fun k hk => by have := NN.out; have h1 : nr ≤ we.heap.size := (by rw [hnr]; exact hB.size); exact Nat.le_trans NN.out (Nat.le_trans h1 hk)) U18 C7.bel C7.bel.size (by have := S18.out; simp; omega) ?_
      intro v1 w9 ho hB9 hg9 hat
      have C9 := C7.row hg9 (fun k e => Nat.lt_of_lt_of_le N0.out (U18.1 k e))
      have U9 := Kd.R_grown U9 hg9 (fun k hk e => by have := U18.1 k e.symm; omega)
      have U14 := Kd.R_grown U14 hg9 (fun k hk e => by have := U18.1 k e.symm; omega)
      obtain ⟨A33, d33, rfl⟩ := Kd.R_slice ho
      refine hK.out _ _ ⟨C9, C9.co rfl, C9.cb E18.out⟩ (fun hHeld => ?_)
      clear hK K
      refine norm_ (a' := ?_) ?_ ?_
      rotate_left
      · show Act.put _ (some 33) _ = _
        simp only [Act.put, List.setIfInBounds_toArray, List.set_cons_zero, List.set_cons_succ, i64_w, i32_w]
        rfl
      refine zpk 10 34 12 2047 ?_
      refine last_ (i := 11) (N := none) (zm 12 4095) rfl rfl (by kernel_rfl) (by decide) (fun K hK => ?_)
      refine store_step 37 (.tmp 34) (.tmp 33) rfl rfl (by rfl) go 18 (by rfl) (.slice A33 (x.f9.take i ++ [x.f9[i]]).length d33) (by rfl) [.slice A33 (x.f9.take i ++ [x.f9[i]]).length d33] rfl (by kernel_rfl) (by simp [Value.oneCell']) (planV x (.slice A9 x.f3.length d9) (.slice A14 x.f6.length d14) v18) _ C9.ho (by simp [planV]) ?_
      intro w11 hb hg
      have R9n := Aside0.mk (R_put U9 hg C9.ho (by decide))
      have R14n := Aside0.mk (R_put U14 hg C9.ho (by decide))
      have R18n := Aside0.mk (show Kd.R k39 39 w11 w.heap.size (fun k => n0 ≤ k) (.slice A33 (x.f9.take i ++ [x.f9[i]]).length d33) (x.f9.take (i + 1)) from by rw [List.take_succ_eq_append_getElem HLT.out]; exact Kd.R_grown ho hg (fun k hk e => by injection e with e; have := N0.out; omega))
      have CSn := Aside0.mk (show CS w gb gr go cs (planV x (.slice A9 x.f3.length d9) (.slice A14 x.f6.length d14) (.slice A33 (x.f9.take i ++ [x.f9[i]]).length d33)) w11 from C9.put hg hb)
      have NNn := Aside0.mk (show n0 ≤ w11.heap.size from Nat.le_trans NN.out (Nat.le_trans (by rw [hnr]; exact hB.size) (Nat.le_trans hg9.size hg.size)))
      refine hK.out _ _ ?_
      refine done_ (by kernel_rfl) ?_
      clear hHeld hK K hb hg hat hB9 hg9 ho U9 U14 U18 C7 C8 C9 hM hB hl1 CSx R9 R14 R18 q18 hnr
      go_wp2
      go_roundw
      case rel => exact ⟨i + 1, _, by go_num, by have := HLT.out; omega, CSn, R9n, R14n, R18n, NNn⟩
      case measure => have := HLT.out; simp [intOf]; omega
    · have HX := Aside0.mk (show Kd.R k39 39 wr w.heap.size (fun k => n0 ≤ k) v18 x.f9 by have h := R18.out; rw [List.take_of_length_le (by omega)] at h; exact h)
      obtain ⟨A35, d35, rfl⟩ := Kd.R_slice HX.out
      clear R18
      go_wp2_with (first
        | ((with_reducible refine gate_dst (N := 35) rfl ?_); refine loadVar_ 39 (.tmp 3) rfl rfl go ?hx (planV x (.slice A9 x.f3.length d9) (.slice A14 x.f6.length d14) (.slice A35 x.f9.length d35)) _ Tryz.underlying39 ?hi _ CSx.out.ho ?_; (case hx => first | rfl | (go_simp; done) | (go_simp; rfl)); (case hi => kernel_rfl))
        | ((with_reducible refine gate_ (.store 39 (.tmp 2) (.tmp 35)) rfl ?_); refine storeAll_ 39 (.tmp 2) (.tmp 35) rfl rfl rfl gr ?hp (planV x (.slice A9 x.f3.length d9) (.slice A14 x.f6.length d14) (.slice A35 x.f9.length d35)) ?hx2 ?ht ?h1 zero39 _ CSx.out.hr ?hf ?_; (case hp => first | rfl | (go_simp; done) | (go_simp; rfl)); (case hx2 => first | rfl | (go_simp; done) | (go_simp; rfl)); (case ht => kernel_rfl); (case h1 => simp [planV, Value.oneCell']); (case hf => rfl); intro wz hb hg; have XZ := Aside0.mk hb; have HG := Aside0.mk hg; clear hb hg))
      refine bodyPost_ret (results_cell_row rfl _ _ gr _ _ _ _ rfl XZ.out Tryz.underlying39 rfl (by kernel_rfl)) rfl ⟨_, rfl, ?_, CSx.out.bel.grown HG.out CSx.out.bel.size (fun k e => by injection e with e; have := CSx.out.ge; have := CSx.out.lb; omega)⟩
      exact k39_mkM _ _ _ x (Kd.R_mono (R_put R9.out HG.out CSx.out.hr (by decide)) (fun _ _ => trivial)) (Kd.R_mono (R_put R14.out HG.out CSx.out.hr (by decide)) (fun _ _ => trivial)) (Kd.R_mono (Kd.R_grown HX.out HG.out (fun k hk e => by injection e with e; have := N0.out; have := CSx.out.lr; omega)) (fun _ _ => trivial))
theorem cp_all (N : Nat) : CpP N := by
  induction N using Nat.strongRecOn with
  | _ N ih =>
    cases N with
    | zero => intro x cs w hn; have := sz39_kids x; omega
    | succ N => exact cp_step N (fun m hm => ih m (by omega))
/-- **spec.l4Copy**: the plan in new memory. -/
theorem l4Copy_c (x : S39) (cs : List Value) (w : World) (hK : k39.K w x cs) (hsm : Small39 x) :
    Calls Tryz.prog 62 #[.agg cs.toArray] w fun e w' => ∃ cs' : List Value, e = .returned (.agg cs'.toArray) ∧ k39.M w' w.heap.size (fun _ => True) x cs' ∧ Below w.heap.size w w' := cp_all _ x cs w (Nat.le_refl _) hK hsm
end Pl
namespace Pl
/-! ### What a draw of a plan gives -/
/-- blocks from lo on, below hi -/
def Iv (lo hi : Nat) : Nat → Prop := fun k => lo ≤ k ∧ k < hi
/-- A plan in new memory, its cells' and its keys' rows apart from all that lies under it. -/
def OwnP (W : World) (base : Nat) (x : S39) (cs : List Value) : Prop :=
  ∃ v12 v15 v18, cs = planV x v12 v15 v18 ∧ Kd.R k33 33 W base (fun _ => True) v12 x.f3 ∧ Kd.R (Kd.int .i64) 3 W base (fun _ => True) v15 x.f6 ∧
    Kd.R k39 39 W base (fun k => some k ≠ v12.ownBlock ∧ some k ≠ v15.ownBlock) v18 x.f9
theorem OwnP.M {W : World} {base : Nat} {x : S39} {cs : List Value} (h : OwnP W base x cs) : k39.M W base (Iv base W.heap.size) x cs := by
  obtain ⟨v12, v15, v18, rfl, h12, h15, h18⟩ := h
  have h := k39_mkM W base (fun _ => True) x h12 h15 (Kd.R_mono h18 (fun _ _ => trivial))
  exact k39.M_mono (fun k hk => ⟨hk.2.1, hk.2.2.1⟩) (k39.M_bound h)
theorem OwnP.len {W : World} {base : Nat} {x : S39} {cs : List Value} (h : OwnP W base x cs) : cs.length = 19 := by
  obtain ⟨v12, v15, v18, rfl, h12, h15, h18⟩ := h; rfl
theorem OwnP.step {W W1 : World} {base : Nat} {x : S39} {cs : List Value} (h : OwnP W base x cs) (hm : ∀ k, base ≤ k → k < W.heap.size → W1.heap[k]? = W.heap[k]?) : OwnP W1 base x cs := by
  obtain ⟨v12, v15, v18, e, h12, h15, h18⟩ := h
  have t : ∀ {α : Type} {d : Kd α} {e : Nat} {ok : Nat → Prop} {v : Value} {xs : List α}, d.R e W base ok v xs → d.R e W1 base ok v xs := fun hr =>
    Kd.R_mono (Kd.R_step (Kd.R_bound hr) (fun k hk hlt => hm k hk.2.1 hlt)) (fun k hk => hk.1)
  exact ⟨v12, v15, v18, e, t h12, t h15, t h18⟩
theorem OwnP.keep {W W1 : World} {base g : Nat} {x : S39} {cs : List Value} (h : OwnP W base x cs) (hk : KeepBut W W1 g none) (hg : g < base) : OwnP W1 base x cs :=
  h.step (fun k h1 h2 => hk.2 k h2 (by omega) (by simp))
theorem OwnP.below {W W1 : World} {base : Nat} {x : S39} {cs : List Value} (h : OwnP W base x cs) (hb : Below W.heap.size W W1) : OwnP W1 base x cs := h.step (fun k _ h2 => hb.block k h2)
theorem OwnP.lower {W : World} {base base' : Nat} {x : S39} {cs : List Value} (h : OwnP W base x cs) (hb : base' ≤ base) : OwnP W base' x cs := by
  obtain ⟨v12, v15, v18, e, h12, h15, h18⟩ := h
  exact ⟨v12, v15, v18, e, Kd.R_lower h12 hb, Kd.R_lower h15 hb, Kd.R_lower h18 hb⟩
theorem OwnP.one {W : World} {base : Nat} {x : S39} {cs : List Value} (h : OwnP W base x cs) : ∀ q ∈ cs, q.oneCell' = true := k39.K_one (k39.K_of_M h.M)
/-- .. in blocks from lo on, below hi. -/
def OwnI (W : World) (base lo hi : Nat) (x : S39) (cs : List Value) : Prop :=
  ∃ v12 v15 v18, cs = planV x v12 v15 v18 ∧ Kd.R k33 33 W base (Iv lo hi) v12 x.f3 ∧ Kd.R (Kd.int .i64) 3 W base (Iv lo hi) v15 x.f6 ∧
    Kd.R k39 39 W base (fun k => Iv lo hi k ∧ some k ≠ v12.ownBlock ∧ some k ≠ v15.ownBlock) v18 x.f9
theorem OwnP.I {W : World} {base : Nat} {x : S39} {cs : List Value} (h : OwnP W base x cs) : OwnI W base base W.heap.size x cs := by
  obtain ⟨v12, v15, v18, e, h12, h15, h18⟩ := h
  exact ⟨v12, v15, v18, e, Kd.R_mono (Kd.R_bound h12) (fun k hk => ⟨hk.2.1, hk.2.2.1⟩), Kd.R_mono (Kd.R_bound h15) (fun k hk => ⟨hk.2.1, hk.2.2.1⟩), Kd.R_mono (Kd.R_bound h18) (fun k hk => ⟨⟨hk.2.1, hk.2.2.1⟩, hk.1⟩)⟩
theorem OwnI.P {W : World} {base lo hi : Nat} {x : S39} {cs : List Value} (h : OwnI W base lo hi x cs) : OwnP W base x cs := by
  obtain ⟨v12, v15, v18, e, h12, h15, h18⟩ := h
  exact ⟨v12, v15, v18, e, Kd.R_mono h12 (fun _ _ => trivial), Kd.R_mono h15 (fun _ _ => trivial), Kd.R_mono h18 (fun k hk => hk.2)⟩
theorem OwnI.M {W : World} {base lo hi : Nat} {x : S39} {cs : List Value} (h : OwnI W base lo hi x cs) : k39.M W base (Iv lo hi) x cs := by
  obtain ⟨v12, v15, v18, rfl, h12, h15, h18⟩ := h
  exact k39_mkM W base (Iv lo hi) x h12 h15 (Kd.R_mono h18 (fun _ hk => hk.1))
theorem OwnI.step {W W1 : World} {base lo hi : Nat} {x : S39} {cs : List Value} (h : OwnI W base lo hi x cs) (hm : ∀ k, lo ≤ k → k < hi → k < W.heap.size → W1.heap[k]? = W.heap[k]?) : OwnI W1 base lo hi x cs := by
  obtain ⟨v12, v15, v18, e, h12, h15, h18⟩ := h
  exact ⟨v12, v15, v18, e, Kd.R_step h12 (fun k hk hlt => hm k hk.1 hk.2 hlt), Kd.R_step h15 (fun k hk hlt => hm k hk.1 hk.2 hlt), Kd.R_step h18 (fun k hk hlt => hm k hk.1.1 hk.1.2 hlt)⟩
theorem OwnI.keep {W W1 : World} {base lo hi g : Nat} {x : S39} {cs : List Value} (h : OwnI W base lo hi x cs) (hk : KeepBut W W1 g none) (hg : g < lo) : OwnI W1 base lo hi x cs :=
  h.step (fun k h1 _ h2 => hk.2 k h2 (by omega) (by simp))
theorem OwnI.below {W W1 : World} {base lo hi : Nat} {x : S39} {cs : List Value} (h : OwnI W base lo hi x cs) (hb : Below W.heap.size W W1) : OwnI W1 base lo hi x cs := h.step (fun k _ _ h2 => hb.block k h2)
theorem OwnI.row {W W1 : World} {base lo hi : Nat} {x : S39} {cs : List Value} {row : Option Nat} (h : OwnI W base lo hi x cs) (hg : W.grownBy W1 row) (hr : ∀ k, row = some k → k < lo ∨ hi ≤ k) : OwnI W1 base lo hi x cs :=
  h.step (fun k h1 h2 h3 => hg.block k h3 (fun e => by have := hr k e.symm; omega))
theorem OwnI.lower {W : World} {base base' lo hi : Nat} {x : S39} {cs : List Value} (h : OwnI W base lo hi x cs) (hb : base' ≤ base) : OwnI W base' lo hi x cs := by
  obtain ⟨v12, v15, v18, e, h12, h15, h18⟩ := h
  exact ⟨v12, v15, v18, e, Kd.R_lower h12 hb, Kd.R_lower h15 hb, Kd.R_lower h18 hb⟩
/-- l4Plan's walk: its result's box, the first plan under it in its box. -/
structure LP (w : World) (g gr b6 : Nat) (xa : S39) (csa : List Value) (lo hi : Nat) (W : World) : Prop where
  hr : W.heap[gr]? = some (.cells zero39.toArray 39 (0, 0))
  ha : W.heap[b6]? = some (.cells csa.toArray 39 (0, 0))
  oa : OwnI W w.heap.size lo hi xa csa
  kb : KeepBut w W g none
  hg : g < w.heap.size
  h1 : w.heap.size ≤ gr
  h2 : gr < lo
  h3 : hi ≤ b6
  h4 : lo ≤ hi
theorem LP.below {w : World} {g gr b6 : Nat} {xa : S39} {csa : List Value} {lo hi : Nat} {W W1 : World} (h : LP w g gr b6 xa csa lo hi W) (hb : Below W.heap.size W W1) : LP w g gr b6 xa csa lo hi W1 :=
  ⟨(hb.block _ (blk_lt h.hr)).trans h.hr, (hb.block _ (blk_lt h.ha)).trans h.ha, h.oa.below hb, KeepBut.tr h.kb (KeepBut.below_ hb g), h.hg, h.h1, h.h2, h.h3, h.h4⟩
theorem LP.ma {w : World} {g gr b6 : Nat} {xa : S39} {csa : List Value} {lo hi : Nat} {W : World} (h : LP w g gr b6 xa csa lo hi W) : k39.M W w.heap.size (Iv lo hi) xa csa := h.oa.M
theorem LP.drew {w : World} {g gr b6 : Nat} {xa : S39} {csa : List Value} {lo hi : Nat} {W : World} (h : LP w g gr b6 xa csa lo hi W) : LP w g gr b6 xa csa lo hi W.drew := h.below (below_drew (Below.refl _ _))
theorem LP.keep {w : World} {g gr b6 : Nat} {xa : S39} {csa : List Value} {lo hi : Nat} {W W1 : World} (h : LP w g gr b6 xa csa lo hi W) (hk : KeepBut W W1 g none) : LP w g gr b6 xa csa lo hi W1 := by
  have h1 := h.h1; have h2 := h.h2; have h3 := h.h3; have h4 := h.h4; have hg := h.hg
  exact ⟨KeepBut.blk hk h.hr (by omega), KeepBut.blk hk h.ha (by omega), h.oa.keep hk (by omega), KeepBut.tr h.kb hk, hg, h1, h2, h3, h4⟩
theorem LP.row {w : World} {g gr b6 : Nat} {xa : S39} {csa : List Value} {lo hi : Nat} {W W1 : World} {row : Option Nat} (h : LP w g gr b6 xa csa lo hi W) (hg : W.grownBy W1 row) (hr : ∀ k, row = some k → b6 < k) : LP w g gr b6 xa csa lo hi W1 := by
  have h1 := h.h1; have h2 := h.h2; have h3 := h.h3; have h4 := h.h4; have hg' := h.hg
  exact ⟨(hg.block _ (blk_lt h.hr) (fun e => by have := hr _ e.symm; omega)).trans h.hr, (hg.block _ (blk_lt h.ha) (fun e => by have := hr _ e.symm; omega)).trans h.ha,
    h.oa.row hg (fun k e => by have := hr _ e; omega), ⟨Nat.le_trans h.kb.1 hg.size, fun i hi hne hn => (hg.block i (Nat.lt_of_lt_of_le hi h.kb.1) (fun e => by have := hr _ e.symm; omega)).trans (h.kb.2 i hi hne hn)⟩, hg', h1, h2, h3, h4⟩
/-- The rows of the plan that is returned stand when its box is stored. -/
theorem KeepBut.put {w W W1 : World} {g q : Nat} (h : KeepBut w W g none) (hg : W.grownBy W1 (some q)) (hq : w.heap.size ≤ q) : KeepBut w W1 g none := KeepBut.new_ h hg hq
theorem R_iv {α : Type} {d : Kd α} {e base : Nat} {ok : Nat → Prop} {W W1 : World} {v : Value} {xs : List α} {q : Nat} (h : d.R e W base ok v xs) (hg : W.grownBy W1 (some q)) (hq : ∀ k, ok k → k ≠ q) : d.R e W1 base ok v xs :=
  Kd.R_grown h hg (fun k hk e => by injection e with e; exact hq k hk e)
section
variable {P : Program}
theorem results_cell_tmp {fn : Func} {p t : Tmp} {ty : TypeId} (h : fn.results = #[.cell p ty, .tmp t]) (tmps : Array Value) (w : World) (g : Nat) (t' : TypeId) (cs : Array Value) (fr : Nat × Nat) (d : TypeDesc)
    (hp : tmps.getD p undef = .pointer (some ⟨g, 0, none⟩)) (hg : w.heap[g]? = some (.cells cs t' fr))
    (hu : P.underlying ty = some d) (hd : (match d with | .struct _ | .array _ _ => true | _ => false) = true) (hi : (P.info? ty).map (·.size) = some cs.size) :
    (results fn tmps).run P w = .ok (.tuple #[.agg cs, tmps.getD t undef]) w := by
  have hp' : tmps[p]?.getD undef = .pointer (some ⟨g, 0, none⟩) := by simpa using hp
  simp [results, h, hp', asAddr, run_loadVar_row w g t' ty cs fr d hg hu hd hi]
theorem exec_build {o : Oper} {a : Act} (ty : TypeId) (fs : Array (Nat × Operand)) (ho : o.op = .build ty fs) (vs : Array (Nat × Value)) (hvs : (fs.map fun (i, x) => (i, a.eval x)) = vs) (v : Value) (hrun : ∀ W, (Instr.build ty vs).run P W = .ok v W) (W : World) :
    (execOp a.eval o).run P W = .ok (.value v) W := by
  unfold execOp
  simp only [ho]
  rw [hvs]
  simp [Sem.run_bind, Sem.run_pure, Result.andThen_ok, hrun]
end
/-- how many looks a drawn plan takes, and how many parts it has, at most -/
def pk : Nat → Nat
  | 0 => 14
  | d + 1 => 2 * pk d + 14
def sp : Nat → Nat
  | 0 => 1
  | d + 1 => 2 * sp d + 1
theorem pk_pos (d : Nat) : 14 ≤ pk d := by cases d with | zero => exact Nat.le_refl _ | succ d => unfold pk; omega
theorem pk_mono {d e : Nat} (h : d ≤ e) : pk d ≤ pk e := by
  induction e with
  | zero => have : d = 0 := by omega
            subst this; exact Nat.le_refl _
  | succ e ih =>
    by_cases h' : d = e + 1
    · subst h'; exact Nat.le_refl _
    · have := ih (by omega); show pk d ≤ 2 * pk e + 14; omega
theorem sp_mono {d e : Nat} (h : d ≤ e) : sp d ≤ sp e := by
  induction e with
  | zero => have : d = 0 := by omega
            subst this; exact Nat.le_refl _
  | succ e ih =>
    by_cases h' : d = e + 1
    · subst h'; exact Nat.le_refl _
    · have := ih (by omega); show sp d ≤ 2 * sp e + 1; omega
/-- What l4Plan gives. -/
def PlR (w0 : World) (g : Nat) (b : List Int) (c : Nat) (n : Nat) (w : World) (e : Ending) (w' : World) : Prop :=
  (∃ (x : S39) (cs : List Value) (wide : Int), e = .returned (.tuple #[.agg cs.toArray, .int .i64 wide]) ∧ OwnP w' w.heap.size x cs ∧ sz39 x ≤ n ∧ Small39 x ∧ x.f3.length + x.f6.length ≤ 10) ∧ RdW w0 g b c w' ∧ KeepBut w w' g none
def PlP (d : Nat) : Prop := ∀ (w0 : World) (g : Nat) (b : List Int) (c : Nat) (w : World) (D : Int), RdW w0 g b (c + pk d) w → D = (d : Int) + 1 →
  Calls Tryz.prog 55 #[.pointer (some ⟨g, 0, none⟩), .int .i64 D] w (PlR w0 g b c (sp d) w)
end Pl
namespace Pl
theorem OwnP.kids {W : World} {base : Nat} {ok : Nat → Prop} {x : S39} {v18 : Value} (h3 : x.f3 = []) (h6 : x.f6 = []) (h : Kd.R k39 39 W base ok v18 x.f9) : OwnP W base x (planV x (.slice none 0 0) (.slice none 0 0) v18) :=
  ⟨_, _, _, rfl, by rw [h3]; exact Kd.R_nil _ _ _ _ _, by rw [h6]; exact Kd.R_nil _ _ _ _ _, Kd.R_mono h (fun k _ => by simp [Value.ownBlock])⟩
theorem planV_one {x : S39} {A B D : Option Addr} {a b c i j k : Nat} : ∀ q ∈ planV x (.slice A i a) (.slice B j b) (.slice D k c), q.oneCell' = true := by simp [planV, Value.oneCell']
theorem small_kids {x : S39} (h3 : x.f3.length ≤ 1000) (h6 : x.f6.length ≤ 1000) (h9 : x.f9.length ≤ 1000) (hs : ∀ y ∈ x.f9, Small39 y) : Small39 x := Small39.mk x (by omega) (by omega) (by omega) hs
theorem sz_one {x y : S39} (h : x.f9 = [y]) : sz39 x = sz39 y + 1 := by rw [sz39_kids, h]; simp [szs39]; omega
theorem sz_two {x y z : S39} (h : x.f9 = [y, z]) : sz39 x = sz39 y + sz39 z + 1 := by rw [sz39_kids, h]; simp [szs39]; omega
theorem reps_one {α : Type} {R : α → List Value → Prop} {n : Nat} {x : α} {cs : List Value} (hl : cs.length = n) (h : R x cs) : Reps R n [x] cs := by
  simpa using Reps.snoc (Reps.none R n) h hl
theorem reps_two {α : Type} {R : α → List Value → Prop} {n : Nat} {x y : α} {cs ds : List Value} (hl : cs.length = n) (hl' : ds.length = n) (h : R x cs) (h' : R y ds) : Reps R n [x, y] (cs ++ ds) :=
  Reps.snoc (reps_one hl h) h' hl'
/-- .. a second plan in its box. -/
structure LQ (w : World) (g gr b6 : Nat) (xa : S39) (csa : List Value) (lo hi : Nat) (b10 : Nat) (xb : S39) (csb : List Value) (lo2 hi2 : Nat) (W : World) : Prop where
  lp : LP w g gr b6 xa csa lo hi W
  hb : W.heap[b10]? = some (.cells csb.toArray 39 (0, 0))
  mb : k39.M W w.heap.size (Iv lo2 hi2) xb csb
  q1 : b6 < lo2
  q2 : lo2 ≤ hi2
  q3 : hi2 ≤ b10
theorem LQ.below {w : World} {g gr b6 : Nat} {xa : S39} {csa : List Value} {lo hi : Nat} {b10 : Nat} {xb : S39} {csb : List Value} {lo2 hi2 : Nat} {W W1 : World} (h : LQ w g gr b6 xa csa lo hi b10 xb csb lo2 hi2 W) (hb : Below W.heap.size W W1) : LQ w g gr b6 xa csa lo hi b10 xb csb lo2 hi2 W1 :=
  ⟨h.lp.below hb, (hb.block _ (blk_lt h.hb)).trans h.hb, Kd.M_below h.mb hb, h.q1, h.q2, h.q3⟩
theorem LQ.drew {w : World} {g gr b6 : Nat} {xa : S39} {csa : List Value} {lo hi : Nat} {b10 : Nat} {xb : S39} {csb : List Value} {lo2 hi2 : Nat} {W : World} (h : LQ w g gr b6 xa csa lo hi b10 xb csb lo2 hi2 W) : LQ w g gr b6 xa csa lo hi b10 xb csb lo2 hi2 W.drew := h.below (below_drew (Below.refl _ _))
theorem LQ.keep {w : World} {g gr b6 : Nat} {xa : S39} {csa : List Value} {lo hi : Nat} {b10 : Nat} {xb : S39} {csb : List Value} {lo2 hi2 : Nat} {W W1 : World} (h : LQ w g gr b6 xa csa lo hi b10 xb csb lo2 hi2 W) (hk : KeepBut W W1 g none) : LQ w g gr b6 xa csa lo hi b10 xb csb lo2 hi2 W1 := by
  have q1 := h.q1; have q2 := h.q2; have q3 := h.q3; have h1 := h.lp.h1; have h2 := h.lp.h2; have h3 := h.lp.h3; have h4 := h.lp.h4; have hg := h.lp.hg
  exact ⟨h.lp.keep hk, KeepBut.blk hk h.hb (by omega), Kd.M_keep h.mb hk (fun k hk => by have := hk.1; omega), q1, q2, q3⟩
theorem LQ.row {w : World} {g gr b6 : Nat} {xa : S39} {csa : List Value} {lo hi : Nat} {b10 : Nat} {xb : S39} {csb : List Value} {lo2 hi2 : Nat} {W W1 : World} {row : Option Nat} (h : LQ w g gr b6 xa csa lo hi b10 xb csb lo2 hi2 W) (hg : W.grownBy W1 row) (hr : ∀ k, row = some k → b10 < k) : LQ w g gr b6 xa csa lo hi b10 xb csb lo2 hi2 W1 := by
  have q1 := h.q1; have q2 := h.q2; have q3 := h.q3
  exact ⟨h.lp.row hg (fun k e => by have := hr k e; omega), (hg.block _ (blk_lt h.hb) (fun e => by have := hr _ e.symm; omega)).trans h.hb, Kd.M_grown h.mb hg (fun k hk e => by have := hr _ e.symm; have := hk.2; omega), q1, q2, q3⟩
end Pl
namespace Pl
/-! ### A plan in a variable of the call's own, its rows apart -/
/-- A row beside another of another type. -/
theorem R_beside {α β : Type} {d : Kd α} {d' : Kd β} {e e' base base' : Nat} {ok ok' : Nat → Prop} {W : World} {v v' : Value} {xs : List α} {ys : List β} (h : d.R e W base ok v xs) (h' : d'.R e' W base' ok' v' ys) (ht : ∀ q, q ∈ e :: d.E → q ≠ e') : d.R e W base (fun k => ok k ∧ some k ≠ v'.ownBlock) v xs := by
  cases hv : v'.ownBlock with
  | none => exact Kd.R_mono h (fun k hk => ⟨hk, by simp⟩)
  | some g =>
    obtain ⟨inner, ho⟩ := Kd.R_own h'
    obtain ⟨cells, hc⟩ := own_typed ho g hv
    exact Kd.R_mono (Kd.R_types h hc ht) (fun k hk => ⟨hk.1, fun e => hk.2 (by injection e)⟩)
/-- A row that is apart from another stays so when that grows. -/
theorem R_apart {α : Type} {d : Kd α} {e base : Nat} {ok : Nat → Prop} {W W1 : World} {v v1 u : Value} {xs : List α} (h : d.R e W base (fun k => ok k ∧ some k ≠ v.ownBlock) u xs) (hg : W.grownBy W1 v.ownBlock) (hat : v1.ownBlock = v.ownBlock ∨ ∃ b, v1.ownBlock = some b ∧ W.heap.size ≤ b) : d.R e W1 base (fun k => ok k ∧ some k ≠ v1.ownBlock) u xs := by
  refine Kd.R_mono (Kd.R_grown (Kd.R_bound h) hg (fun k hk => hk.1.2)) (fun k hk => ⟨hk.1.1, ?_⟩)
  rcases hat with e | ⟨b, e, hb⟩
  · rw [e]; exact hk.1.2
  · rw [e]; intro he; injection he with he; have := hk.2.2.1; omega
structure PX (B lo bx : Nat) (x : S39) (v12 v15 v18 : Value) (W : World) : Prop where
  hp : W.heap[bx]? = some (.cells (planV x v12 v15 v18).toArray 39 (0, 0))
  r12 : Kd.R k33 33 W B (fun k => lo ≤ k ∧ k ≠ bx) v12 x.f3
  r15 : Kd.R (Kd.int .i64) 3 W B (fun k => lo ≤ k ∧ k ≠ bx) v15 x.f6
  r18 : Kd.R k39 39 W B (fun k => ((lo ≤ k ∧ k ≠ bx) ∧ some k ≠ v12.ownBlock) ∧ some k ≠ v15.ownBlock) v18 x.f9
theorem PX.own {B lo bx : Nat} {x : S39} {v12 v15 v18 : Value} {W : World} (h : PX B lo bx x v12 v15 v18 W) : OwnP W B x (planV x v12 v15 v18) :=
  ⟨_, _, _, rfl, Kd.R_mono h.r12 (fun _ _ => trivial), Kd.R_mono h.r15 (fun _ _ => trivial), Kd.R_mono h.r18 (fun k hk => ⟨hk.1.2, hk.2⟩)⟩
theorem PX.step {B lo bx : Nat} {x : S39} {v12 v15 v18 : Value} {W W1 : World} (h : PX B lo bx x v12 v15 v18 W) (hm : ∀ k, lo ≤ k ∨ k = bx → k < W.heap.size → W1.heap[k]? = W.heap[k]?) : PX B lo bx x v12 v15 v18 W1 :=
  ⟨(hm bx (.inr rfl) (blk_lt h.hp)).trans h.hp, Kd.R_step h.r12 (fun k hk hlt => hm k (.inl hk.1) hlt), Kd.R_step h.r15 (fun k hk hlt => hm k (.inl hk.1) hlt), Kd.R_step h.r18 (fun k hk hlt => hm k (.inl hk.1.1.1) hlt)⟩
theorem PX.below {B lo bx : Nat} {x : S39} {v12 v15 v18 : Value} {W W1 : World} (h : PX B lo bx x v12 v15 v18 W) (hb : Below W.heap.size W W1) : PX B lo bx x v12 v15 v18 W1 := h.step (fun k _ hk => hb.block k hk)
theorem PX.drew {B lo bx : Nat} {x : S39} {v12 v15 v18 : Value} {W : World} (h : PX B lo bx x v12 v15 v18 W) : PX B lo bx x v12 v15 v18 W.drew := h.below (below_drew (Below.refl _ _))
theorem PX.keep {B lo bx g : Nat} {x : S39} {v12 v15 v18 : Value} {W W1 : World} (h : PX B lo bx x v12 v15 v18 W) (hk : KeepBut W W1 g none) (hg : g < lo) (hb : bx ≠ g) : PX B lo bx x v12 v15 v18 W1 :=
  h.step (fun k hk' hlt => hk.2 k hlt (by rcases hk' with h | h <;> omega) (by simp))
theorem PX.grown {B lo bx : Nat} {x : S39} {v12 v15 v18 : Value} {W W1 : World} {q : Nat} (h : PX B lo bx x v12 v15 v18 W) (hg : W.grownBy W1 (some q)) (hq : q < lo) (hb : bx ≠ q) : PX B lo bx x v12 v15 v18 W1 :=
  h.step (fun k hk' hlt => hg.block k hlt (by intro e; injection e with e; rcases hk' with h | h <;> omega))
theorem PX.fresh {B lo bx : Nat} {x : S39} {v12 v15 v18 : Value} {W W1 : World} (h : PX B lo bx x v12 v15 v18 W) (hg : W.grownBy W1 none) : PX B lo bx x v12 v15 v18 W1 :=
  h.step (fun k hk' hlt => hg.block k hlt (by simp))
/-- The cells' row has grown and is stored. -/
theorem PX.set12 {B lo bx : Nat} {x : S39} {v12 v15 v18 v1 : Value} {ys : List S33} {W W1 W2 : World} (h : PX B lo bx x v12 v15 v18 W) (ho : Kd.R k33 33 W1 B (fun k => lo ≤ k ∧ k ≠ bx) v1 ys) (hg : W.grownBy W1 v12.ownBlock) (hat : v1.ownBlock = v12.ownBlock ∨ ∃ b, v1.ownBlock = some b ∧ W.heap.size ≤ b)
    (hs : W1.grownBy W2 (some bx)) (hb : W2.heap[bx]? = some (.cells (planV ⟨x.f0, x.f1, x.f2, ys, x.f4, x.f5, x.f6, x.f7, x.f8, x.f9⟩ v1 v15 v18).toArray 39 (0, 0))) : PX B lo bx ⟨x.f0, x.f1, x.f2, ys, x.f4, x.f5, x.f6, x.f7, x.f8, x.f9⟩ v1 v15 v18 W2 := by
  have n : ∀ k, (lo ≤ k ∧ k ≠ bx) → some k ≠ some bx := fun k hk e => hk.2 (by injection e)
  refine ⟨hb, Kd.R_grown ho hs n, Kd.R_grown (Kd.R_mono (Kd.R_grown (R_beside h.r15 h.r12 (by decide)) hg (fun k hk => hk.2)) (fun k hk => hk.1)) hs n, Kd.R_grown ?_ hs (fun k hk => n k hk.1.1)⟩
  have h1 : Kd.R k39 39 W B (fun k => ((lo ≤ k ∧ k ≠ bx) ∧ some k ≠ v15.ownBlock) ∧ some k ≠ v12.ownBlock) v18 x.f9 := Kd.R_mono h.r18 (fun k hk => ⟨⟨hk.1.1, hk.2⟩, hk.1.2⟩)
  exact Kd.R_mono (R_apart h1 hg hat) (fun k hk => ⟨⟨hk.1.1, hk.2⟩, hk.1.2⟩)
/-- The keys' row has grown and is stored. -/
theorem PX.set15 {B lo bx : Nat} {x : S39} {v12 v15 v18 v1 : Value} {ys : List Int} {W W1 W2 : World} (h : PX B lo bx x v12 v15 v18 W) (ho : Kd.R (Kd.int .i64) 3 W1 B (fun k => lo ≤ k ∧ k ≠ bx) v1 ys) (hg : W.grownBy W1 v15.ownBlock) (hat : v1.ownBlock = v15.ownBlock ∨ ∃ b, v1.ownBlock = some b ∧ W.heap.size ≤ b)
    (hs : W1.grownBy W2 (some bx)) (hb : W2.heap[bx]? = some (.cells (planV ⟨x.f0, x.f1, x.f2, x.f3, x.f4, x.f5, ys, x.f7, x.f8, x.f9⟩ v12 v1 v18).toArray 39 (0, 0))) : PX B lo bx ⟨x.f0, x.f1, x.f2, x.f3, x.f4, x.f5, ys, x.f7, x.f8, x.f9⟩ v12 v1 v18 W2 := by
  have n : ∀ k, (lo ≤ k ∧ k ≠ bx) → some k ≠ some bx := fun k hk e => hk.2 (by injection e)
  exact ⟨hb, Kd.R_grown (Kd.R_mono (Kd.R_grown (R_beside h.r12 h.r15 (by decide)) hg (fun k hk => hk.2)) (fun k hk => hk.1)) hs n, Kd.R_grown ho hs n, Kd.R_grown (R_apart h.r18 hg hat) hs (fun k hk => n k hk.1.1)⟩
/-- A field that is no row is stored. -/
theorem PX.setI {B lo bx : Nat} {x x' : S39} {v12 v15 v18 : Value} {W W2 : World} (h : PX B lo bx x v12 v15 v18 W) (hs : W.grownBy W2 (some bx)) (hb : W2.heap[bx]? = some (.cells (planV x' v12 v15 v18).toArray 39 (0, 0))) (h3 : x'.f3 = x.f3) (h6 : x'.f6 = x.f6) (h9 : x'.f9 = x.f9) : PX B lo bx x' v12 v15 v18 W2 := by
  have n : ∀ k, (lo ≤ k ∧ k ≠ bx) → some k ≠ some bx := fun k hk e => hk.2 (by injection e)
  exact ⟨hb, h3 ▸ Kd.R_grown h.r12 hs n, h6 ▸ Kd.R_grown h.r15 hs n, h9 ▸ Kd.R_grown h.r18 hs (fun k hk => n k hk.1.1)⟩
theorem PX.c12 {B lo bx : Nat} {x : S39} {v12 v15 v18 : Value} {W : World} (h : PX B lo bx x v12 v15 v18 W) : W.cell? ⟨bx, 12, none⟩ = some v12 := by rw [blk_cell h.hp]; rfl
theorem PX.c15 {B lo bx : Nat} {x : S39} {v12 v15 v18 : Value} {W : World} (h : PX B lo bx x v12 v15 v18 W) : W.cell? ⟨bx, 15, none⟩ = some v15 := by rw [blk_cell h.hp]; rfl
/-- The box is not one of the rows. -/
theorem PX.blk12 {B lo bx : Nat} {x : S39} {v12 v15 v18 : Value} {W W1 : World} (h : PX B lo bx x v12 v15 v18 W) (hg : W.grownBy W1 v12.ownBlock) : W1.heap[bx]? = some (.cells (planV x v12 v15 v18).toArray 39 (0, 0)) :=
  (hg.block _ (blk_lt h.hp) (fun e => (h.r12.1 bx e.symm).2 rfl)).trans h.hp
theorem PX.blk15 {B lo bx : Nat} {x : S39} {v12 v15 v18 : Value} {W W1 : World} (h : PX B lo bx x v12 v15 v18 W) (hg : W.grownBy W1 v15.ownBlock) : W1.heap[bx]? = some (.cells (planV x v12 v15 v18).toArray 39 (0, 0)) :=
  (hg.block _ (blk_lt h.hp) (fun e => (h.r15.1 bx e.symm).2 rfl)).trans h.hp
section
variable {P : Program} {ops : Array Oper} {o : Oper} {a : Act} {Q : Exit → Act → World → Prop} {Kc : Act → World → Prop}
/-- A variable is made, in a region that draws its order. -/
theorem alloc_step {W : World} (ty : TypeId) (ho : o.op = .alloc ty) (hw : Region.wanted o (yielded ops a.tmps) = true) (z : List Value) (n b : Nat) (hi : (P.info? ty).map (fun i => (i.zero, i.size, i.bytes)) = some (some (.agg z.toArray), n, b))
    (h : ∀ g, g = W.heap.size → ∀ w1, w1.heap[g]? = some (.cells z.toArray ty (0, 0)) → Below W.heap.size W w1 → W.grownBy w1 none → Kc (a.put o.dst (.pointer (some ⟨g, 0, none⟩))) w1) : if Region.wanted o (yielded ops a.tmps) = true then Oper.wp P o a W Kc Q else Kc (a.put o.dst undef) W := by
  refine event_step hw ?_ (h _ rfl _ (blk_new W _) (below_alloc (Below.refl _ _) _) (World.grownBy_alloc W _ none))
  obtain ⟨i, hi1, hi2⟩ := Option.map_eq_some_iff.1 hi
  simp only [Prod.mk.injEq] at hi2
  obtain ⟨hz, -, -⟩ := hi2
  unfold execOp
  simp only [ho]
  simp [Instr.alloc, zeroValue, typeInfo, hi1, hz, go_sem]
  try rfl
end
section
variable {P : Program} {ops : Array Oper} {Q : Exit → Act → World → Prop} {md : Region.Mode} {S : World → Prop} {ds : List Nat}
/-- The act written out, behind an event. -/
theorem znk {fuel : Nat} {l : Array Bool} {N : Option Tmp} {v : Value} {a a' : Act} {w : World} (h : wpAnyLast P md ops Q S ds fuel l a' w) (ha : a.put N v = a' := by (simp only [Act.put, List.setIfInBounds_toArray, List.set_cons_zero, List.set_cons_succ, i64_w, i32_w]; rfl)) : wpAnyLast P md ops Q S ds fuel l (a.put N v) w := by
  subst ha; exact h
end
theorem min_c (x y : Int) (w : World) : Calls Tryz.prog 61 #[.int .i64 x, .int .i64 y] w fun e w' => e = .returned (.int .i64 (if x < y then x else y)) ∧ Below w.heap.size w w' :=
  (spec_l1Min.calls x y _ w (by unfold spec_l1Min.f; split <;> rfl)).mono fun _ _ ⟨h, hd⟩ => ⟨h, hd.below⟩
end Pl

end Go.Proofs.YtlpgnkndjmfcjaaGreat.PFnPlanUses
