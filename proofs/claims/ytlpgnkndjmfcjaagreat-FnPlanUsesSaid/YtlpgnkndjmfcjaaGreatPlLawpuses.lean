/- The law FnPlanUses returns true for each code, and leaves what lay in the world as it was. -/
import Derived.Test.YtlpgnkndjmfcjaaGreatPlDrawb
namespace Go.Proofs.YtlpgnkndjmfcjaaGreat.PFnPlanUses
open Go.RowKit Go.Proofs.YtlpgnkndjmfcjaaGreatW.PrintWords Go.Proofs.YtlpgnkndjmfcjaaGreatW.PrintLast Go.Proofs.YtlpgnkndjmfcjaaGreatW.PrintMore
attribute [local go_sem] max2_int min2_int max_two min_two max_three min_three max_four min_four   -- for this text's walks alone
set_option linter.unusedVariables false
set_option linter.unusedSimpArgs false
namespace Pl
/-- The law's walk: the plan's box. -/
structure UW (w1 : World) (bx : Nat) (cs : List Value) (W : World) : Prop where
  hX : W.heap[bx]? = some (.cells cs.toArray 39 (0, 0))
  bel : Below w1.heap.size w1 W
  ge : w1.heap.size ≤ bx
theorem UW.call {w1 : World} {bx : Nat} {cs : List Value} {W W1 : World} (h : UW w1 bx cs W) (hb : Below W.heap.size W W1) : UW w1 bx cs W1 :=
  ⟨(hb.block _ (blk_lt h.hX)).trans h.hX, below_step h.bel hb, h.ge⟩
theorem UW.cb {w1 : World} {bx : Nat} {cs : List Value} {W : World} (h : UW w1 bx cs W) {j : Nat} {v : Value} (hv : cs[j]? = some v) : W.cell? ⟨bx, j, none⟩ = some v := by rw [blk_cell h.hX]; simpa using hv
theorem UW.row {w1 : World} {bx : Nat} {cs : List Value} {W W1 : World} {row : Option Nat} (h : UW w1 bx cs W) (hg : W.grownBy W1 row) (hr : ∀ k, row = some k → bx < k) : UW w1 bx cs W1 :=
  ⟨(hg.block _ (blk_lt h.hX) (fun e => by have := hr _ e.symm; omega)).trans h.hX, h.bel.grown hg h.bel.size (fun k e => by have := hr k e; have := h.ge; omega), h.ge⟩
set_option maxHeartbeats 16000000 in
set_option maxRecDepth 100000 in
theorem law_puses (A0 : Option Addr) (m0 : Nat) (l : List Int) (w : World) (hr : Kd.C (Kd.int .u8) w A0 l.length l) (hm : l.length ≤ m0) (hl : ∀ x ∈ l, (Lit.int .u8 x).wf = true) :
    Calls Tryz.prog 5 #[.slice A0 l.length m0] w fun e w' => e = .returned (.bool true) ∧ Below w.heap.size w w' := by
  by_cases hlen : l.length ≤ 1048576
  rotate_left
  · have d0 : decide ((1048576 : Int) < (l.length : Int)) = true := by simp; omega
    clear hlen hr hl
    go_enter Tryz.func5, Tryz.ntmps5
    go_wp2
    go_ret
    exact ⟨rfl, Below.refl _ _⟩
  have d0 : decide ((1048576 : Int) < (l.length : Int)) = false := by simp; omega
  have HR := Aside0.mk hr
  have HM := Aside0.mk hm
  have HL := Aside0.mk hl
  clear hr hm hl hlen
  go_enter Tryz.func5, Tryz.ntmps5
  go_wp2_with (go_at_call 13; refine (drawUses_c A0 m0 l _ HR.out HM.out HL.out).mono ?_; rintro e w1 ⟨x, cs, n, rfl, hK, hz, hs, hB⟩; have KX := Aside0.mk hK; have SZ := Aside0.mk hz; have SM := Aside0.mk hs; have B1 := Aside0.mk hB; have LC := Aside0.mk (show cs.length = 19 from k39.K_len hK); have OC := Aside0.mk (show ∀ q ∈ cs, q.oneCell' = true from k39.K_one hK); clear HR HM HL hK hz hs hB; refine Hid.out ?_)
  refine Lib.hid ?_
  have MI := Aside0.mk (fun (W : World) hK => implPlanMany_c x cs W hK SM.out)
  have UI := Aside0.mk (fun (W : World) hK => implPlanUses_c x n cs W hK SM.out)
  have US := Aside0.mk (fun (W : World) hK => uses_law x n ▸ specPlanUses_c x n cs W hK SM.out (by have := SZ.out; omega))
  by_cases hq : iMany x = 0
  · rw [uses_none hq] at UI US
    rw [hq] at MI
    clear hq d0
    go_wp2_with (first
      | ((with_reducible refine gate_dst (N := 3) rfl ?_); refine alloc_ 39 rfl rfl zero39 _ _ info39 ?_; intro bx hg w2 hb hB; have X2 := Aside0.mk hb; have G1 := Aside0.mk (show w1.heap.size ≤ bx by rw [hg]; exact Nat.le_refl _); have BB := Aside0.mk hB; clear hb hB hg)
      | ((with_reducible refine gate_ (.store 39 (.tmp 3) (.tmp 16)) rfl ?_); refine storeAll_ 39 (.tmp 3) (.tmp 16) rfl rfl rfl bx ?hp cs ?hx2 ?ht OC.out zero39 _ X2.out ?hf ?_; (case hp => first | rfl | (go_simp; done) | (go_simp; rfl)); (case hx2 => first | rfl | (go_simp; done) | (go_simp; rfl)); (case ht => rw [LC.out]; kernel_rfl); (case hf => rw [LC.out]; rfl); intro w3 hb hg; have UX := Aside0.mk (show UW w1 bx cs w3 from ⟨hb, BB.out.grown hg BB.out.size (fun k e => by injection e with e; rw [← e]; exact G1.out), G1.out⟩); clear X2 BB hb hg)
      | ((with_reducible refine gate_dst (N := 18) rfl ?_); refine loadVar_ 39 (.tmp 3) rfl rfl bx ?hx cs _ Tryz.underlying39 ?hi _ UX.out.hX ?_; (case hx => first | rfl | (go_simp; done) | (go_simp; rfl)); (case hi => rw [LC.out]; kernel_rfl))
      | (go_at_call 12; refine (UI.out _ (k39.K_below UX.out.bel KX.out)).mono ?_; rintro e w4 ⟨rfl, hB⟩; have UX_ := Aside0.mk (UX.out.call hB); clear UX; have UX := UX_; clear UX_; clear UI hB)
      | ((with_reducible refine gate_dst (N := 22) rfl ?_); refine loadVar_ 39 (.tmp 3) rfl rfl bx ?hx cs _ Tryz.underlying39 ?hi _ UX.out.hX ?_; (case hx => first | rfl | (go_simp; done) | (go_simp; rfl)); (case hi => rw [LC.out]; kernel_rfl))
      | (go_at_call 11; refine (US.out _ (k39.K_below UX.out.bel KX.out)).mono ?_; rintro e w5 ⟨rfl, hB⟩; have UX_ := Aside0.mk (UX.out.call hB); clear UX; have UX := UX_; clear UX_; clear US hB)
      | ((with_reducible refine gate_dst (N := 26) rfl ?_); refine loadVar_ 39 (.tmp 3) rfl rfl bx ?hx cs _ Tryz.underlying39 ?hi _ UX.out.hX ?_; (case hx => first | rfl | (go_simp; done) | (go_simp; rfl)); (case hi => rw [LC.out]; kernel_rfl))
      | (go_at_call 9; refine (MI.out _ (k39.K_below UX.out.bel KX.out)).mono ?_; rintro e w6 ⟨rfl, hB⟩; have UX_ := Aside0.mk (UX.out.call hB); clear UX; have UX := UX_; clear UX_; clear MI hB))
    go_ret
    exact ⟨rfl, below_step B1.out UX.out.bel⟩
  obtain ⟨A12, c12, A15, c15, A18, c18, hcs, l12, g12, l15, g15, l18, g18⟩ := k39_open KX.out
  have E0 := Aside0.mk (show cs[0]? = some (.int .i64 x.f0) by rw [hcs]; rfl)
  have E1 := Aside0.mk (show cs[1]? = some (.int .i64 x.f1) by rw [hcs]; rfl)
  have E18 := Aside0.mk (show cs[18]? = some (.slice A18 x.f9.length c18) by rw [hcs]; rfl)
  have G18 := Aside0.mk g18
  have HU := Aside0.mk (uses_kids n (many_fit hq))
  have NW := Aside0.mk (fun (m : Nat) => uses_no (x := x) (n := n) (m := m))
  have hl9 : x.f9.length ≤ 100 := by have := sz39_kids x; have := len_szs x.f9; have := SZ.out; omega
  have L9 := Aside0.mk hl9
  obtain ⟨q, hq1⟩ : ∃ q, q = iMany x := ⟨_, rfl⟩
  obtain ⟨u, hu⟩ : ∃ u, u = iUses x n := ⟨_, rfl⟩
  rw [← hq1] at MI
  rw [← hu] at UI US HU NW
  have qn : ((q : Int) == 0) = false := by simp; omega
  have IT := Aside0.mk (show isT n x = ((x.f0 == 1) && (x.f1 == n)) by unfold isT; rw [Bool.eq_iff_iff]; simp)
  obtain ⟨k0, hk0⟩ : ∃ k, k = x.f0 := ⟨_, rfl⟩
  obtain ⟨k1, hk1⟩ : ∃ k, k = x.f1 := ⟨_, rfl⟩
  rw [← hk0] at E0 IT
  rw [← hk1] at E1 IT
  obtain ⟨t0, ht0⟩ : ∃ t, (k0 == 1) = t := ⟨_, rfl⟩
  obtain ⟨t1, ht1⟩ : ∃ t, (k1 == n) = t := ⟨_, rfl⟩
  rw [ht0, ht1] at IT
  clear hcs l12 g12 l15 g15 l18 g18 hq hq1 hu hk0 hk1 d0 hl9
  have ST := Aside0.mk (show ∀ s : Bool, s = isT n x → s = (isT n x || (x.f9.take 0).any (fun k => iUses k n)) from fun s h => by rw [h]; simp)
  cases t0 <;> cases t1
  all_goals
    go_wp2_with (first
      | ((with_reducible refine gate_dst (N := 3) rfl ?_); refine alloc_ 39 rfl rfl zero39 _ _ info39 ?_; intro bx hg w2 hb hB; have X2 := Aside0.mk hb; have G1 := Aside0.mk (show w1.heap.size ≤ bx by rw [hg]; exact Nat.le_refl _); have BB := Aside0.mk hB; clear hb hB hg)
      | ((with_reducible refine gate_ (.store 39 (.tmp 3) (.tmp 16)) rfl ?_); refine storeAll_ 39 (.tmp 3) (.tmp 16) rfl rfl rfl bx ?hp cs ?hx2 ?ht OC.out zero39 _ X2.out ?hf ?_; (case hp => first | rfl | (go_simp; done) | (go_simp; rfl)); (case hx2 => first | rfl | (go_simp; done) | (go_simp; rfl)); (case ht => rw [LC.out]; kernel_rfl); (case hf => rw [LC.out]; rfl); intro w3 hb hg; have UX := Aside0.mk (show UW w1 bx cs w3 from ⟨hb, BB.out.grown hg BB.out.size (fun k e => by injection e with e; rw [← e]; exact G1.out), G1.out⟩); clear X2 BB hb hg)
      | ((with_reducible refine gate_dst (N := 18) rfl ?_); refine loadVar_ 39 (.tmp 3) rfl rfl bx ?hx cs _ Tryz.underlying39 ?hi _ UX.out.hX ?_; (case hx => first | rfl | (go_simp; done) | (go_simp; rfl)); (case hi => rw [LC.out]; kernel_rfl))
      | (go_at_call 12; refine (UI.out _ (k39.K_below UX.out.bel KX.out)).mono ?_; rintro e w4 ⟨rfl, hB⟩; have UX_ := Aside0.mk (UX.out.call hB); clear UX; have UX := UX_; clear UX_; clear UI hB)
      | ((with_reducible refine gate_dst (N := 22) rfl ?_); refine loadVar_ 39 (.tmp 3) rfl rfl bx ?hx cs _ Tryz.underlying39 ?hi _ UX.out.hX ?_; (case hx => first | rfl | (go_simp; done) | (go_simp; rfl)); (case hi => rw [LC.out]; kernel_rfl))
      | (go_at_call 11; refine (US.out _ (k39.K_below UX.out.bel KX.out)).mono ?_; rintro e w5 ⟨rfl, hB⟩; have UX_ := Aside0.mk (UX.out.call hB); clear UX; have UX := UX_; clear UX_; clear US hB)
      | ((with_reducible refine gate_dst (N := 26) rfl ?_); refine loadVar_ 39 (.tmp 3) rfl rfl bx ?hx cs _ Tryz.underlying39 ?hi _ UX.out.hX ?_; (case hx => first | rfl | (go_simp; done) | (go_simp; rfl)); (case hi => rw [LC.out]; kernel_rfl))
      | (go_at_call 9; refine (MI.out _ (k39.K_below UX.out.bel KX.out)).mono ?_; rintro e w6 ⟨rfl, hB⟩; have UX_ := Aside0.mk (UX.out.call hB); clear UX; have UX := UX_; clear UX_; clear MI hB; have q0 := (blk_cell UX.out.hX 0).trans (by simpa using E0.out); have q1 := (blk_cell UX.out.hX 1).trans (by simpa using E1.out)))
    go_loopw [6, 7] (fun v6 v7 wr => ∃ (s : Bool) (i : Nat), v6 = .bool s ∧ v7 = .int .i64 i ∧ i ≤ x.f9.length ∧ Aside0 (s = (isT n x || (x.f9.take i).any (fun k => iUses k n))) ∧ Aside0 (UW w1 bx cs wr)) (fun _ v7 _ => x.f9.length - (intOf v7).toNat)
    case atStart => exact ⟨_, 0, rfl, rfl, Nat.zero_le _, ⟨ST.out _ (by rw [IT.out]; rfl)⟩, UX⟩
    case round =>
      clear UX q0 q1 ST IT E0 E1 qn ht0 ht1
      obtain ⟨s, i, rfl, rfl, hi, HS, UX⟩ := hrel
      have q18 := UX.out.cb E18.out
      have hl9 : x.f9.length ≤ 100 := L9.out
      by_cases hlt : i < x.f9.length
      · obtain ⟨ad, c0, e18, hcl, hK0, hcell⟩ := elem_ G18.out i hlt
        obtain rfl := e18
        have LD := Aside0.mk (show c0.length = 19 from hcl)
        have HE := Aside0.mk hcell
        have CU := Aside0.mk (fun (W : World) (hb : Below w1.heap.size w1 W) => implPlanUses_c x.f9[i] n c0 W (k39.K_below hb hK0) (SM.out.out.2.2.2 _ (List.getElem_mem hlt)))
        have HLT := Aside0.mk hlt
        have TK := Aside0.mk (show (isT n x || (x.f9.take (i + 1)).any (fun k => iUses k n)) = (s || iUses x.f9[i] n) by rw [List.take_succ_eq_append_getElem hlt, List.any_append, HS.out]; simp [Bool.or_assoc])
        obtain ⟨r, hr⟩ : ∃ r, r = iUses x.f9[i] n := ⟨_, rfl⟩
        rw [← hr] at CU TK
        clear hK0 hcell hcl hr HS
        cases s
        · go_wp2_with (first
          | ((with_reducible refine gate_dst (N := 53) rfl ?_); refine loadW_ 39 (.tmp 52) rfl ?hw (ad.add (i * 19)) ?hx c0 _ Tryz.underlying39 ?hi (fun j v h => zhs UX.out.bel (HE.out j v h)) ?_; (case hw => first | rfl | (simp [Region.wanted, yielded]; done)); (case hx => first | rfl | (go_simp; done) | (go_simp; rfl)); (case hi => rw [LD.out]; kernel_rfl))
          | (go_at_call 12; refine (CU.out _ UX.out.bel).mono ?_; rintro e w8 ⟨rfl, hB⟩; clear q18; have UX_ := Aside0.mk (UX.out.call hB); clear UX; have UX := UX_; clear UX_; clear CU hB))
          go_roundw
          case rel => exact ⟨r, i + 1, rfl, by go_num, by have := HLT.out; omega, ⟨by rw [TK.out]; rfl⟩, UX⟩
          case measure => have := HLT.out; simp [intOf]; omega
        · clear CU
          go_wp2
          go_roundw
          case rel => exact ⟨true, i + 1, rfl, by go_num, by have := HLT.out; omega, ⟨by rw [TK.out]; rfl⟩, UX⟩
          case measure => have := HLT.out; simp [intOf]; omega
      · have SU := Aside0.mk (show s = u by rw [HS.out, List.take_of_length_le (by omega)]; exact HU.out)
        obtain rfl := SU.out
        clear SU HS
        go_wp2_with (first
          | ((with_reducible refine gate_dst (N := 57) rfl ?_); refine Kd.R_lit (Kd.int .i64) (w0 := w1) w1.heap.size 3 ?hg (N := 57) ?hd (xs := []) (inner := []) (ok := fun k => bx < k) (okp := fun _ => False) ?hr (Reps.none _ _) (fun _ h => h.elim) (blk_lt UX.out.hX) UX.out.bel UX.out.bel.size (by simp) ?_; (case hd => rfl); (case hg => rfl); (case hr => first | (go_simp; done) | (go_simp; rfl)); intro v57 wl ho hB hg hnew; have R8 := Aside0.mk ho; have U8 := Aside0.mk (UX.out.row hg (fun k e => by cases e)); clear ho hB hg hnew UX))
        clear q18
        go_loopw [8, 9] (fun v8 v9 wr => ∃ (j : Nat), v9 = .int .i64 j ∧ j ≤ 2 ∧ Aside0 (j = 0 ∨ (j : Int) ≤ n) ∧ Aside0 (Kd.R (Kd.int .i64) 3 wr w1.heap.size (fun k => bx < k) v8 (List.replicate j 2)) ∧ Aside0 (UW w1 bx cs wr)) (fun _ v9 _ => 2 - (intOf v9).toNat)
        case atStart => exact ⟨0, rfl, Nat.zero_le _, ⟨.inl rfl⟩, R8, U8⟩
        case round =>
          clear R8 U8
          obtain ⟨j, rfl, hj2, HJ, R8, UX⟩ := hrel
          by_cases hjn : (j : Int) < n
          · by_cases hj : j < 2
            · have t1 : decide ((j : Int) < n) = true := decide_eq_true hjn
              have t2 : decide ((j : Int) < 2) = true := decide_eq_true (by omega)
              go_wp2_with (first
                | (at_builtin; refine Kd.R_append (Kd.int .i64) (w0 := w1) w1.heap.size rfl (.tmp 67) (.tmp 68) 27 3 (.int .i64 0) 8 rfl Tryz.underlying27 info3 rfl (by decide) (by omega) _ (List.replicate j 2) 2 [.int .i64 2] (fun k => bx < k) (fun _ => False) rfl rfl ?aP (fun _ hk => hk.elim) ?aF ?aO ?aB ?aS ?aL ?_; (case aP => exact rfl); (case aB => exact UX.out.bel); (case aF => exact (fun k hk => Nat.lt_of_lt_of_le (blk_lt UX.out.hX) hk)); (case aO => exact R8.out); (case aS => exact UX.out.bel.size); (case aL => simp; omega); intro v8n w9 ho hb hg hat; have R9 := Aside0.mk (show Kd.R (Kd.int .i64) 3 w9 w1.heap.size (fun k => bx < k) v8n (List.replicate (j + 1) 2) by rw [List.replicate_succ']; exact ho); have U9 := Aside0.mk (UX.out.row hg (fun k e => R8.out.1 k e)); clear ho hb hg hat))
              go_roundw
              case rel => exact ⟨j + 1, by go_num, by omega, ⟨.inr (by omega)⟩, R9, U9⟩
              case measure => simp [intOf]; omega
            · have t1 : decide ((j : Int) < n) = true := decide_eq_true hjn
              have t2 : decide ((j : Int) < 2) = false := decide_eq_false (by omega)
              have JJ := Aside0.mk (show (j : Int) = max 0 (min n 2) by omega)
              obtain ⟨t, ht⟩ : ∃ t : List Int, t = List.replicate j 2 := ⟨_, rfl⟩
              have TL := Aside0.mk (show t.length ≤ 1048576 by rw [ht]; simp; omega)
              have NO2 := Aside0.mk (fun h1 h2 h3 => (show iWide x t = -1 by rw [ht]; exact NW.out j h1 h2 h3))
              rw [← ht] at R8
              clear ht NW
              obtain ⟨A8, c8, rfl, hc8, h8⟩ := Kd.R_reads R8.out
              have H8 := Aside0.mk h8
              have C8 := Aside0.mk hc8
              clear h8 hc8 R8
              cases s
              · go_wp2
                go_ret
                exact ⟨rfl, below_step B1.out UX.out.bel⟩
              · by_cases h2 : n > 2
                · have t3 : decide (2 < n) = true := decide_eq_true h2
                  clear NO2 h2
                  go_wp2
                  go_ret
                  exact ⟨rfl, below_step B1.out UX.out.bel⟩
                · have t3 : decide (2 < n) = false := decide_eq_false h2
                  have NO := Aside0.mk (NO2.out rfl (by omega) JJ.out)
                  clear NO2 h2
                  go_wp2_with (first
                    | ((with_reducible refine gate_dst (N := 81) rfl ?_); refine loadW_ 39 (.tmp 3) rfl ?hw ⟨bx, 0, none⟩ ?hx cs _ Tryz.underlying39 ?hi (sub_ UX.out.hX [] cs [] (by simp)) ?_; (case hw => first | rfl | (simp [Region.wanted, yielded]; done)); (case hx => first | rfl | (go_simp; done) | (go_simp; rfl)); (case hi => rw [LC.out]; kernel_rfl))
                    | (go_at_call 14; refine (implPlanWide_c x cs _ _ t _ (k39.K_below UX.out.bel KX.out) SM.out H8.out C8.out TL.out).mono ?_; rintro e w10 ⟨rfl, hB⟩; have BZ := Aside0.mk (UX.out.call hB).bel; rw [NO.out]; clear hB))
                  go_ret
                  exact ⟨rfl, below_step B1.out BZ.out⟩
          · have t1 : decide ((j : Int) < n) = false := decide_eq_false hjn
            have JJ := Aside0.mk (show (j : Int) = max 0 (min n 2) by have := HJ.out; omega)
            obtain ⟨t, ht⟩ : ∃ t : List Int, t = List.replicate j 2 := ⟨_, rfl⟩
            have TL := Aside0.mk (show t.length ≤ 1048576 by rw [ht]; simp; omega)
            have NO2 := Aside0.mk (fun h1 h2 h3 => (show iWide x t = -1 by rw [ht]; exact NW.out j h1 h2 h3))
            rw [← ht] at R8
            clear ht NW
            obtain ⟨A8, c8, rfl, hc8, h8⟩ := Kd.R_reads R8.out
            have H8 := Aside0.mk h8
            have C8 := Aside0.mk hc8
            clear h8 hc8 R8
            cases s
            · go_wp2
              go_ret
              exact ⟨rfl, below_step B1.out UX.out.bel⟩
            · by_cases h2 : n > 2
              · have t3 : decide (2 < n) = true := decide_eq_true h2
                clear NO2 h2
                go_wp2
                go_ret
                exact ⟨rfl, below_step B1.out UX.out.bel⟩
              · have t3 : decide (2 < n) = false := decide_eq_false h2
                have NO := Aside0.mk (NO2.out rfl (by omega) JJ.out)
                clear NO2 h2
                go_wp2_with (first
                  | ((with_reducible refine gate_dst (N := 81) rfl ?_); refine loadW_ 39 (.tmp 3) rfl ?hw ⟨bx, 0, none⟩ ?hx cs _ Tryz.underlying39 ?hi (sub_ UX.out.hX [] cs [] (by simp)) ?_; (case hw => first | rfl | (simp [Region.wanted, yielded]; done)); (case hx => first | rfl | (go_simp; done) | (go_simp; rfl)); (case hi => rw [LC.out]; kernel_rfl))
                  | (go_at_call 14; refine (implPlanWide_c x cs _ _ t _ (k39.K_below UX.out.bel KX.out) SM.out H8.out C8.out TL.out).mono ?_; rintro e w10 ⟨rfl, hB⟩; have BZ := Aside0.mk (UX.out.call hB).bel; rw [NO.out]; clear hB))
                go_ret
                exact ⟨rfl, below_step B1.out BZ.out⟩
theorem law_puses_walk (a0 : Option Addr) (len0 cap0 : Nat) (z0 : List Int) (w : World) (w0 : (a0 = none ∧ len0 = 0 ∧ cap0 = 0 ∧ z0 = []) ∨ ∃ x, a0 = some x ∧ len0 ≤ cap0 ∧ cap0 ≤ maxLen ∧ z0.length = cap0 ∧ (∀ i, i < z0.length → w.cell? (x.add i) = some (.int .u8 (z0.getD i 0))) ∧ ∀ n ∈ z0, (Lit.int .u8 n).wf = true) :
    Calls Tryz.prog 5 #[.slice a0 len0 cap0] w fun e w' => e = .returned (.bool true) ∧ Below w.heap.size w w' := by
  obtain ⟨l0, rfl, hr0, hm0, hw0, hc0⟩ := ReadsInt.ofRowC w0
  exact law_puses _ _ l0 w (Kd.C_of_reads (d := (0 : Int)) (h1 := fun _ => rfl) hr0) hc0 hw0
end Pl

end Go.Proofs.YtlpgnkndjmfcjaaGreat.PFnPlanUses
