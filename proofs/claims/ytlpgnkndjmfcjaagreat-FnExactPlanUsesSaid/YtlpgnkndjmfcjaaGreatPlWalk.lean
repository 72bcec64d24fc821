/- The iterator's walk all$1$1 yields a plan's parts in order, if it does so for the plans under it. The iterator impl.all yields the parts of each plan in order, till it has come to too many or too deep. The program's sizeOk tells whether a plan is neither too deep nor too big. How a map of seven interface values is made and looked up. The program's parts holds a part for each of the seven kinds. -/
import Derived.Test.YtlpgnkndjmfcjaaGreatPlPs2
namespace Go.Proofs.YtlpgnkndjmfcjaaGreat.PFnExactPlanMany
open Go.RowKit Go.Proofs.YtlpgnkndjmfcjaaGreatW.PrintWords Go.Proofs.YtlpgnkndjmfcjaaGreatW.PrintLast Go.Proofs.YtlpgnkndjmfcjaaGreatW.PrintMore
attribute [local go_sem] max2_int min2_int max_two min_two max_three min_three max_four min_four   -- for this text's walks alone
set_option linter.unusedVariables false
set_option linter.unusedSimpArgs false
section
attribute [local go_sem] Oper.semAt_some
namespace Pl
section
variable {P : Program} {Q : Exit → Act → World → Prop} {a : Act} {W : World}
theorem gateRegion {id : Nat} {ops : Array Oper} {d : Bool} (h : (Code.region id ops d).wp P Q a W) : (Code.region id ops d).wp P Q a W := h
end
/-- The iterator's three boxes: the round's function, how many have come, the walk itself. -/
structure StW (w0 : World) (l by_ bm bw : Nat) (n : Nat) (W : World) : Prop where
  hy : W.heap[by_]? = some (.cells #[.func (.yield l) #[] #[]] 73 (0, 0))
  hm : W.heap[bm]? = some (.cells #[.int .i64 n] 3 (0, 0))
  hw : W.heap[bw]? = some (.cells #[.func (.func 42) #[] #[.pointer (some ⟨bm, 0, none⟩), .pointer (some ⟨by_, 0, none⟩), .pointer (some ⟨bw, 0, none⟩)]] 43 (0, 0))
  bel : Below w0.heap.size w0 W
theorem StW.call {w0 : World} {l by_ bm bw n : Nat} {W W1 : World} (h : StW w0 l by_ bm bw n W) (hb : Below W.heap.size W W1) : StW w0 l by_ bm bw n W1 :=
  ⟨(hb.block _ (blk_lt h.hy)).trans h.hy, (hb.block _ (blk_lt h.hm)).trans h.hm, (hb.block _ (blk_lt h.hw)).trans h.hw, below_step h.bel hb⟩
theorem StW.kept {w0 : World} {l by_ bm bw n M : Nat} {W W1 : World} (h : StW w0 l by_ bm bw n W) (hk : Kp w0.heap.size M W W1) (h1 : M ≤ by_) (h2 : M ≤ bm) (h3 : M ≤ bw) : StW w0 l by_ bm bw n W1 :=
  ⟨(hk.own _ h1 (blk_lt h.hy)).trans h.hy, (hk.own _ h2 (blk_lt h.hm)).trans h.hm, (hk.own _ h3 (blk_lt h.hw)).trans h.hw, h.bel.trans hk.bel⟩
theorem StW.set {w0 : World} {l by_ bm bw n m : Nat} {W W1 : World} (h : StW w0 l by_ bm bw n W) (hg : W.grownBy W1 (some bm)) (hb : W1.heap[bm]? = some (.cells #[.int .i64 m] 3 (0, 0))) (h1 : by_ ≠ bm) (h3 : bw ≠ bm) (h2 : w0.heap.size ≤ bm) : StW w0 l by_ bm bw m W1 :=
  ⟨(hg.block _ (blk_lt h.hy) (by simpa using h1)).trans h.hy, hb, (hg.block _ (blk_lt h.hw) (by simpa using h3)).trans h.hw, h.bel.grown hg h.bel.size (fun k e => by cases e; exact h2)⟩
/-- What the walk of a part ends in. -/
def WkR (w0 : World) (l by_ bm bw : Nat) (V : List Vis) (J Jx : List Vis → World → Prop) (pre : List Vis) (r : List Vis × Bool) (e : Ending) (W' : World) : Prop :=
  ∃ b, e = .returned (.bool b) ∧ ((b = r.2 ∧ J (pre ++ r.1) W' ∧ StW w0 l by_ bm bw (pre.length + r.1.length) W') ∨ (b = false ∧ ∃ q, q <+: V ∧ Jx q W'))
def WkP (w0 : World) (l by_ bm bw : Nat) (V : List Vis) (J Jx : List Vis → World → Prop) (N : Nat) : Prop :=
  ∀ (x : S39) (cs : List Value) (deep : Nat) (pre : List Vis) (W : World), sz39 x ≤ N → k39.K w0 x cs → deep ≤ 6 → pre.length ≤ 10 → pre ++ (goV x deep pre.length).1 <+: V → J pre W → StW w0 l by_ bm bw pre.length W →
    Calls Tryz.prog 42 #[.agg cs.toArray, .int .i64 deep, .pointer (some ⟨bm, 0, none⟩), .pointer (some ⟨by_, 0, none⟩), .pointer (some ⟨bw, 0, none⟩)] W (WkR w0 l by_ bm bw V J Jx pre (goV x deep pre.length))
set_option maxHeartbeats 4000000 in
set_option maxRecDepth 100000 in
theorem walk_step (w0 : World) (M l by_ bm bw : Nat) (V : List Vis) (J Jx : List Vis → World → Prop) (hM : w0.heap.size ≤ M) (h1 : M ≤ by_) (h2 : by_ < bm) (h3 : bm < bw)
    (hJ : ∀ s A B, J s A → Below M A B → J s B) (hJx : ∀ s A B, Jx s A → Below M A B → Jx s B)
    (hY : ∀ (pre : List Vis) (x : Vis) (cs : List Value) (W1 : World), J pre W1 → k39.K w0 x.2 cs → pre ++ [x] <+: V → YieldAt Fence.wide 0 Tryz.prog l #[.int .i64 x.1, .agg cs.toArray] W1 fun e W' =>
      (e = .returned (.bool true) ∧ J (pre ++ [x]) W' ∧ Kp w0.heap.size M W1 W') ∨ (e = .returned (.bool false) ∧ Jx (pre ++ [x]) W'))
    (N : Nat) (ih : ∀ m, m ≤ N → WkP w0 l by_ bm bw V J Jx m) : WkP w0 l by_ bm bw V J Jx (N + 1) := by
  intro x cs deep pre W hn hK hd hp hpre hJ0 hSt
  have LC := Aside0.mk (show cs.length = 19 from k39.K_len hK)
  have OC := Aside0.mk (show ∀ q ∈ cs, q.oneCell' = true from k39.K_one hK)
  obtain ⟨n, hn0⟩ : ∃ n, n = pre.length := ⟨_, rfl⟩
  have ST := Aside0.mk hSt
  rw [← hn0] at ST
  have HN0 := Aside0.mk hn0
  have J0 := Aside0.mk hJ0
  have qm : W.cell? ⟨bm, 0, none⟩ = some (.int .i64 n) := by rw [blk_cell ST.out.hm]; rfl
  have hJ' := Aside0.mk hJ
  have HJx := Aside0.mk hJx
  have hY' := Aside0.mk hY
  have hx1 : pre ++ [((deep : Int), x)] <+: V := by
    refine List.IsPrefix.trans ?_ hpre
    by_cases hc : pre.length + 1 > 10 ∨ deep ≥ 6
    · rw [goV_stop hc]; exact List.prefix_refl _
    · rw [goV_go hc]; exact ⟨_, by simp; rfl⟩
  have HX := Aside0.mk hx1
  have WN := Aside0.mk (show wrap64 ((n : Int) + 1) = (n : Int) + 1 by unfold wrap64; omega)
  clear hn0
  have PB := Aside0.mk (show w0.heap.size ≤ W.heap.size from hSt.bel.size)
  have H1 := Aside0.mk h1
  have WM := Aside0.mk (Nat.le_trans h1 (Nat.le_of_lt (blk_lt hSt.hy)))
  have NM := Aside0.mk (blk_lt hSt.hm)
  have D1 := Aside0.mk (show by_ ≠ bm by omega)
  have D2 := Aside0.mk (show bw ≠ bm by omega)
  have D3 := Aside0.mk (show w0.heap.size ≤ bm by omega)
  have D5 := Aside0.mk (show M ≤ bm by omega)
  obtain ⟨A12, c12, A15, c15, A18, c18, hcs, l12, g12, l15, g15, l18, g18⟩ := k39_open hK
  have E18 := Aside0.mk (show cs[18]? = some (.slice A18 x.f9.length c18) by rw [hcs]; rfl)
  have G18 := Aside0.mk g18
  have L18 := Aside0.mk l18
  have HK := Aside0.mk hK
  have HP := Aside0.mk hpre
  have IH := Aside0.mk ih
  have HN := Aside0.mk (show szs39 x.f9 ≤ N by have := sz39_kids x; omega)
  clear hJ hY hSt hJ0 hx1 hJx hcs l12 g12 l15 g15 l18 g18 ih hpre hn
  go_enter Tryz.func42, Tryz.ntmps42
  go_wp2_with (first
    | ((with_reducible refine gate_dst (N := 5) rfl ?_); refine box_ 39 (.tmp 0) rfl rfl cs.toArray rfl ?_; intro g hg w1 hbx hB; have X1 := Aside0.mk hbx; have S1 := Aside0.mk (ST.out.call hB); have J1 := Aside0.mk (hJ'.out _ _ _ J0.out (hB.mono WM.out)); have qm1 := zhs hB qm; have G1 := Aside0.mk (show g ≠ bm by have := NM.out; omega); have GM := Aside0.mk (show M ≤ g by rw [hg]; exact WM.out); clear hbx hB qm hg)
    | ((with_reducible refine gate_ (.store 3 (.tmp 2) (.tmp 11)) rfl ?_); refine store_ 3 (.tmp 2) (.tmp 11) rfl rfl rfl bm 0 ?hp (.int .i64 (wrap64 ((n : Int) + 1))) ?hx2 [.int .i64 (wrap64 ((n : Int) + 1))] rfl ?ht (by simp [Value.oneCell']) [.int .i64 n] _ S1.out.hm (by simp) ?_; (case hp => first | rfl | (go_simp; done) | (go_simp; rfl)); (case hx2 => first | rfl | (go_simp; done) | (go_simp; rfl)); (case ht => kernel_rfl); intro w2 hb2 hg2; rw [WN.out] at hb2; have S2 := Aside0.mk (S1.out.set (m := n + 1) hg2 hb2 D1.out D2.out D3.out); have J2 := Aside0.mk (hJ'.out _ _ _ J1.out ((Below.refl M w1).grown hg2 (Nat.le_trans H1.out (Nat.le_of_lt (blk_lt S1.out.hy))) (fun k e => by cases e; exact D5.out))); have X2 := Aside0.mk ((hg2.block g (blk_lt X1.out) (by intro e; injection e with e; exact G1.out e)).trans X1.out); clear hb2 hg2 qm1 S1 J1 X1; refine Hid.out ?_))
  refine Lib.hid ?_
  iterate 5 go_step
  have qy : w2.cell? ⟨by_, 0, none⟩ = some (.func (.yield l) #[] #[]) := by rw [blk_cell S2.out.hy]; rfl
  obtain ⟨fn, tm, as_, bo, hy, hR⟩ := hY'.out pre ((deep : Int), x) cs w2 J2.out hK HX.out
  have HR := Aside0.mk (hR.mono (R' := fun e W' => (e = .returned (.bool true) ∧ J (pre ++ [((deep : Int), x)]) W' ∧ StW w0 l by_ bm bw (n + 1) W' ∧ W'.cell? ⟨bm, 0, none⟩ = some (.int .i64 ((n : Int) + 1)) ∧ W'.heap[g]? = some (.cells cs.toArray 39 (0, 0))) ∨ (e = .returned (.bool false) ∧ Jx (pre ++ [((deep : Int), x)]) W')) (fun e W' h => h.elim (fun h => by
    obtain ⟨he, hj, hk⟩ := h
    have hS := S2.out.kept hk H1.out (by have := H1.out; omega) (by have := H1.out; omega)
    exact .inl ⟨he, hj, hS, by rw [blk_cell hS.hm]; rfl, (hk.own g GM.out (blk_lt X2.out)).trans X2.out⟩) .inr))
  clear hR
  refine (wpIn_wide (n := 0)).1 ?_
  gi_wp2_with (first
    | ((with_reducible refine gateIn (N := 14) rfl ?_); refine loadIn_ 39 (.tmp 5) rfl rfl ⟨g, 0, none⟩ ?hx cs _ Tryz.underlying39 ?hi (sub_ X2.out [] cs [] (by simp)) ?_; (case hx => first | rfl | (go_simp; done) | (go_simp; rfl)); (case hi => rw [LC.out]; kernel_rfl))
    | ((with_reducible refine And.intro (a := Fence.wide.depth = none) rfl ?_); refine HR.out.mono ?_; rintro e w3 (⟨rfl, hj3, hs3, qm3, x3⟩ | ⟨rfl, hx3⟩)))
  · have q18 := (blk_cell x3 18).trans (by simpa using E18.out)
    have HJ3 := Aside0.mk hj3
    have HS3 := Aside0.mk hs3
    clear hj3 hs3 x3 qm3 hK HR qy hy
    go_wp2
    · go_ret
      have e1 : goV x deep pre.length = ([((deep : Int), x)], false) := goV_stop (by have := HN0.out; omega)
      rw [e1]
      exact ⟨false, rfl, .inl ⟨rfl, HJ3.out, by rw [← HN0.out]; exact HS3.out⟩⟩
    go_loopw [28] (fun v28 wr => ∃ (i : Nat) (acc : List Vis), v28 = .int .i64 i ∧ i ≤ x.f9.length ∧ i ≤ acc.length ∧ n + 1 + acc.length ≤ 10 ∧ Aside0 (J (pre ++ (((deep : Int), x) :: acc)) wr) ∧ Aside0 (StW w0 l by_ bm bw (n + 1 + acc.length) wr) ∧
      Aside0 (goVs x.f9 (deep + 1) (n + 1) = (acc ++ (goVs (x.f9.drop i) (deep + 1) (n + 1 + acc.length)).1, (goVs (x.f9.drop i) (deep + 1) (n + 1 + acc.length)).2))) (fun v28 _ => x.f9.length - (intOf v28).toNat)
    case atStart => exact ⟨0, [], rfl, Nat.zero_le _, Nat.zero_le _, by simp; omega, HJ3, HS3, ⟨rfl⟩⟩
    case round =>
      obtain ⟨i, acc, rfl, hi, hia, hacc, HJ4, HS4, HG⟩ := hrel
      by_cases hlt : i < x.f9.length
      · obtain ⟨ad, c0, e18, hcl, hK0, hcell⟩ := elem_ G18.out i hlt
        obtain rfl := e18
        have hsz := szs39_get hlt
        have LD := Aside0.mk (show c0.length = 19 from hcl)
        have OD := Aside0.mk (show ∀ q ∈ c0, q.oneCell' = true from k39.K_one hK0)
        have HE := Aside0.mk hcell
        obtain ⟨r, hr⟩ : ∃ r, r = goV x.f9[i] (deep + 1) (n + 1 + acc.length) := ⟨_, rfl⟩
        have hcut : ¬ (pre.length + 1 > 10 ∨ deep ≥ 6) := by have := HN0.out; omega
        have RP := Aside0.mk (show 1 ≤ r.1.length by rw [hr]; exact goV_pos _ _ _)
        have RL := Aside0.mk (show r.2 = true → n + 1 + acc.length + r.1.length ≤ 10 by rw [hr]; exact goV_le (sz39 x.f9[i]) x.f9[i] (Nat.le_refl _) (deep + 1) (n + 1 + acc.length))
        have GD := Aside0.mk (HG.out.trans (by rw [goVs_drop hlt, ← hr]))
        have HL := Aside0.mk (show (pre ++ (((deep : Int), x) :: acc)).length = n + 1 + acc.length by have := HN0.out; simp; omega)
        have PX := Aside0.mk (show (pre ++ (((deep : Int), x) :: acc)) ++ r.1 <+: V by
          refine List.IsPrefix.trans ?_ HP.out
          rw [goV_go hcut, ← HN0.out, GD.out]
          by_cases hb : r.2 = true
          · rw [if_pos hb]; exact ⟨(goVs (x.f9.drop (i + 1)) (deep + 1) (n + 1 + acc.length + r.1.length)).1, by simp⟩
          · rw [if_neg hb]; exact ⟨[], by simp⟩)
        have GV := Aside0.mk (goV_go (x := x) hcut)
        have CA := Aside0.mk (fun (W' : World) (hj : J (pre ++ (((deep : Int), x) :: acc)) W') (hs : StW w0 l by_ bm bw (n + 1 + acc.length) W') =>
          IH.out (sz39 x.f9[i]) (by have := HN.out; omega) x.f9[i] c0 (deep + 1) (pre ++ (((deep : Int), x) :: acc)) W' (Nat.le_refl _) hK0 (by omega) (by rw [HL.out]; omega) (by rw [HL.out, ← hr]; exact PX.out) hj (by rw [HL.out]; exact hs))
        rw [HL.out, ← hr] at CA
        clear hK0 hcell hcl hr hsz hcut HG
        go_wp2_with (first
          | ((with_reducible refine gate_dst (N := 31) rfl ?_); refine load_ 39 (.tmp 30) rfl rfl (ad.add (i * 19)) ?hx c0 _ Tryz.underlying39 ?hi (fun j v h => zhs HS4.out.bel (HE.out j v h)) ?_; (case hx => first | rfl | (go_simp; done) | (go_simp; rfl)); (case hi => rw [LD.out]; kernel_rfl))
          | ((with_reducible refine gate_dst (N := 9) rfl ?_); refine alloc_ 39 rfl rfl zero39 _ _ info39 ?_; intro g4 hg4 w4 hb4 hB4; have Y4 := Aside0.mk hb4; have HS5 := Aside0.mk (HS4.out.call hB4); have HJ5 := Aside0.mk (hJ'.out _ _ _ HJ4.out (hB4.mono (Nat.le_trans H1.out (Nat.le_of_lt (blk_lt HS4.out.hy))))); have G4 := Aside0.mk (show wr.heap.size ≤ g4 by rw [hg4]; exact Nat.le_refl _); clear hb4 hB4 hg4)
          | ((with_reducible refine gate_ (.store 39 (.tmp 9) (.tmp 31)) rfl ?_); refine storeAll_ 39 (.tmp 9) (.tmp 31) rfl rfl rfl g4 ?hp c0 ?hx2 ?ht OD.out zero39 _ Y4.out ?hf ?_; (case hp => first | rfl | (go_simp; done) | (go_simp; rfl)); (case hx2 => first | rfl | (go_simp; done) | (go_simp; rfl)); (case ht => rw [LD.out]; kernel_rfl); (case hf => rw [LD.out]; rfl); intro w5 hb5 hg5; have hB5 := (show Below wr.heap.size w4 w5 from (Below.refl wr.heap.size w4).grown hg5 (by have := blk_lt Y4.out; have := G4.out; omega) (fun k e => by cases e; exact G4.out)); have Y5 := Aside0.mk hb5; have HS6 := Aside0.mk (show StW w0 l by_ bm bw (n + 1 + acc.length) w5 from ⟨(hB5.block _ (blk_lt HS4.out.hy)).trans HS5.out.hy, (hB5.block _ (blk_lt HS4.out.hm)).trans HS5.out.hm, (hB5.block _ (blk_lt HS4.out.hw)).trans HS5.out.hw, HS5.out.bel.trans (hB5.mono HS4.out.bel.size)⟩); have HJ6 := Aside0.mk (hJ'.out _ _ _ HJ5.out (hB5.mono (Nat.le_trans H1.out (Nat.le_of_lt (blk_lt HS4.out.hy))))); have qw := (show w5.cell? ⟨bw, 0, none⟩ = some (.func (.func 42) #[] #[.pointer (some ⟨bm, 0, none⟩), .pointer (some ⟨by_, 0, none⟩), .pointer (some ⟨bw, 0, none⟩)]) by rw [blk_cell HS6.out.hw]; rfl); clear hb5 hg5 hB5 HS5 HJ5 Y4)
          | ((with_reducible refine gate_dst (N := 33) rfl ?_); refine loadVar_ 39 (.tmp 9) rfl rfl g4 ?hx c0 _ Tryz.underlying39 ?hi _ Y5.out ?_; (case hx => first | rfl | (go_simp; done) | (go_simp; rfl)); (case hi => rw [LD.out]; kernel_rfl))
          | (go_at_call 42; refine (CA.out _ HJ6.out HS6.out).mono ?_; rintro e w6 ⟨b, rfl, h⟩; have HH := Aside0.mk h; clear h HS4 HS6 HJ4 HJ6 CA qw Y5))
        · go_ret
          have hb : b = false := by simpa using (by assumption : (!b) = true)
          subst hb
          rcases HH.out with ⟨hb, hj, hs⟩ | ⟨_, q, hq, hx⟩
          · refine ⟨false, rfl, .inl ?_⟩
            have e2 : goV x deep pre.length = (((deep : Int), x) :: (acc ++ r.1), false) := by
              rw [GV.out, ← HN0.out, GD.out, if_neg (by rw [← hb]; simp)]
            rw [e2]
            refine ⟨rfl, by simpa using hj, ?_⟩
            have e3 : pre.length + (((deep : Int), x) :: (acc ++ r.1)).length = (pre ++ (((deep : Int), x) :: acc)).length + r.1.length := by simp; omega
            rw [e3]; exact hs
          · exact ⟨false, rfl, .inr ⟨rfl, q, hq, hx⟩⟩
        · go_roundw
          have hb : b = true := by simpa using (by assumption : (!b) = false)
          subst hb
          case rel =>
            rcases HH.out with ⟨hb, hj, hs⟩ | ⟨hb, _⟩
            · have hl := RL.out hb.symm
              have hp1 := RP.out
              refine ⟨i + 1, acc ++ r.1, by go_num, by omega, by simp; omega, by simp; omega, ⟨by simpa using hj⟩, ⟨?_⟩, ⟨?_⟩⟩
              · have e3 : n + 1 + (acc ++ r.1).length = (pre ++ (((deep : Int), x) :: acc)).length + r.1.length := by rw [HL.out]; simp; omega
                rw [e3]; exact hs
              · rw [GD.out, if_pos hb.symm]; simp [Nat.add_assoc]
            · cases hb
          case measure => simp [intOf]; omega
      · have GE := Aside0.mk (HG.out.trans (by rw [goVs_end (by omega)]))
        have GV := Aside0.mk (goV_go (x := x) (show ¬ (pre.length + 1 > 10 ∨ deep ≥ 6) by have := HN0.out; omega))
        go_wp2
        go_ret
        refine ⟨true, rfl, .inl ?_⟩
        have e2 : goV x deep pre.length = (((deep : Int), x) :: acc, true) := by
          rw [GV.out, ← HN0.out, GE.out]; simp
        rw [e2]
        refine ⟨rfl, HJ4.out, ?_⟩
        have e3 : pre.length + (((deep : Int), x) :: acc).length = n + 1 + acc.length := by have := HN0.out; simp; omega
        rw [e3]; exact HS4.out
  · have HJ3 := Aside0.mk hj3
    have HS3 := Aside0.mk hs3
    clear hj3 hs3 x3 qm3 hK HR qy hy
    go_wp2
    go_ret
    have e1 : goV x deep pre.length = ([((deep : Int), x)], false) := goV_stop (by have := HN0.out; omega)
    rw [e1]
    exact ⟨false, rfl, .inl ⟨rfl, HJ3.out, by rw [← HN0.out]; exact HS3.out⟩⟩
  · have HJ3 := Aside0.mk hx3
    clear hx3 hK HR qy hy
    go_wp2
    go_ret
    exact ⟨false, rfl, .inr ⟨rfl, _, HX.out, HJ3.out⟩⟩
end Pl

end
namespace Pl
theorem walk_all (w0 : World) (M l by_ bm bw : Nat) (V : List Vis) (J Jx : List Vis → World → Prop) (hM : w0.heap.size ≤ M) (h1 : M ≤ by_) (h2 : by_ < bm) (h3 : bm < bw)
    (hJ : ∀ s A B, J s A → Below M A B → J s B) (hJx : ∀ s A B, Jx s A → Below M A B → Jx s B)
    (hY : ∀ (pre : List Vis) (x : Vis) (cs : List Value) (W1 : World), J pre W1 → k39.K w0 x.2 cs → pre ++ [x] <+: V → YieldAt Fence.wide 0 Tryz.prog l #[.int .i64 x.1, .agg cs.toArray] W1 fun e W' =>
      (e = .returned (.bool true) ∧ J (pre ++ [x]) W' ∧ Kp w0.heap.size M W1 W') ∨ (e = .returned (.bool false) ∧ Jx (pre ++ [x]) W'))
    (N : Nat) : WkP w0 l by_ bm bw V J Jx N := by
  induction N using Nat.strongRecOn with
  | _ N ih =>
    cases N with
    | zero => intro x cs deep pre W hn; have := sz39_kids x; omega
    | succ N => exact walk_step w0 M l by_ bm bw V J Jx hM h1 h2 h3 hJ hJx hY N (fun m hm => ih m (by omega))
section
variable {P : Program} {ops : Array Oper} {rest : List Oper} {o : Oper} {a : Act} {Q : Exit → Act → World → Prop}
/-- A value of one cell that came in is boxed. -/
theorem box1_ {W : World} (ty : TypeId) (x : Operand) (ho : o.op = .box ty x) (hgd : o.guard = none) (v : Value) (hx : a.eval x = v) (hv : v.cells = #[v])
    (h : ∀ g, g = W.heap.size → ∀ w1, w1.heap[g]? = some (.cells #[v] ty (0, 0)) → Below W.heap.size W w1 → wpList P ops Q rest (a.put o.dst (.pointer (some ⟨g, 0, none⟩))) w1) : wpList P ops Q (o :: rest) a W := by
  refine Kd.event_run hgd ?_ (h _ rfl _ (blk_new W _) (below_alloc (Below.refl _ _) _))
  unfold execOp
  simp only [ho, hx]
  go_simp
  exact congrArg (fun c => W.alloc (.cells c ty)) hv
/-- A variable of one cell is laid. -/
theorem alloc1_ {W : World} (ty : TypeId) (ho : o.op = .alloc ty) (hgd : o.guard = none) (v : Value) (hv : v.cells = #[v]) (n b : Nat) (hi : (P.info? ty).map (fun i => (i.zero, i.size, i.bytes)) = some (some v, n, b))
    (h : ∀ g, g = W.heap.size → ∀ w1, w1.heap[g]? = some (.cells #[v] ty (0, 0)) → Below W.heap.size W w1 → wpList P ops Q rest (a.put o.dst (.pointer (some ⟨g, 0, none⟩))) w1) : wpList P ops Q (o :: rest) a W := by
  refine Kd.event_run hgd ?_ (h _ rfl _ (blk_new W _) (below_alloc (Below.refl _ _) _))
  obtain ⟨i, hi1, hi2⟩ := Option.map_eq_some_iff.1 hi
  simp only [Prod.mk.injEq] at hi2
  obtain ⟨hz, -, -⟩ := hi2
  unfold execOp
  simp only [ho]
  simp [Instr.alloc, zeroValue, typeInfo, hi1, hz, go_sem]
  exact congrArg (fun c => W.alloc (.cells c ty)) hv
/-- A store of one cell into a variable of one cell. -/
theorem store1_ {W : World} (t : TypeId) (p x : Operand) (ho : o.op = .store t p x) (hd : o.dst = none) (hgd : o.guard = none) (g : Nat) (hp : a.eval p = .pointer (some ⟨g, 0, none⟩)) (u : Value) (hx : a.eval x = u) (hu : u.cells = #[u]) (h1 : u.oneCell' = true)
    (ht : (P.info? t).map (·.size) = some 1) (v : Value) (e : TypeId) (hh : W.heap[g]? = some (.cells #[v] e (0, 0)))
    (h : ∀ w1, w1.heap[g]? = some (.cells #[u] e (0, 0)) → W.grownBy w1 (some g) → wpList P ops Q rest a w1) : wpList P ops Q (o :: rest) a W :=
  store_ t p x ho hd hgd g 0 hp u hx [u] (by rw [hu]) ht (by intro q hq; simp at hq; rw [hq]; exact h1) [v] e hh (by simp) (fun w1 hb hg => h w1 (by simpa using hb) hg)
end
section
variable {F : Fence} {n : Nat} {P : Program} {ops : Array Oper} {rest : List Oper} {o : Oper} {a : Act} {Q : Exit → Act → World → Prop}
theorem store1In_ {W : World} (t : TypeId) (p x : Operand) (ho : o.op = .store t p x) (hd : o.dst = none) (hgd : o.guard = none) (g : Nat) (hp : a.eval p = .pointer (some ⟨g, 0, none⟩)) (u : Value) (hx : a.eval x = u) (hu : u.cells = #[u]) (h1 : u.oneCell' = true)
    (ht : (P.info? t).map (·.size) = some 1) (v : Value) (e : TypeId) (hh : W.heap[g]? = some (.cells #[v] e (0, 0)))
    (h : ∀ w1, w1.heap[g]? = some (.cells #[u] e (0, 0)) → W.grownBy w1 (some g) → wpListIn F n P ops Q rest a w1) : wpListIn F n P ops Q (o :: rest) a W := by
  have hrun := run_store_run (P := P) t u [u] (g := g) (o := 0) hh (by rw [hu]) ht (by simp) (by intro q hq; simp at hq; rw [hq]; exact h1)
  obtain ⟨cur', h3, h4, h5⟩ := setCells_row [u] 0 W #[v] hh (by simp)
  obtain ⟨s1, s2, s3, s4⟩ := setCells_same g [u] 0 W
  refine wpListIn_plain hgd fun K hK => ⟨fun f hf => (by simp [Oper.about, ho] at hf), ?_⟩
  rw [Oper.semAt_plain F _ _ (by rw [ho]; intro c e; cases e)]
  unfold execOp
  simp only [ho, hp, hx, Sem.run_bind, Sem.run_pure, Result.andThen_ok, hrun]
  show K (a.put o.dst undef) _
  rw [hd]
  refine hK a _ (h _ ?_ ⟨s1, s2, s3, by rw [s4]; exact Nat.le_refl _, fun k _ hk => setCells_far _ _ k (fun he => hk (by rw [he]))⟩)
  rw [h3]
  congr 2
  apply Array.toList_inj.1
  rw [h5]
  simp
end
/-- The iterator's elements, as yield is handed them. -/
def VisE (w0 : World) (v : Vis) (vs : Array Value) : Prop := ∃ cs : List Value, vs = #[.int .i64 v.1, .agg cs.toArray] ∧ k39.K w0 v.2 cs
set_option maxHeartbeats 4000000 in
set_option maxRecDepth 100000 in
/-- **impl.all's function** hands out a plan's parts, as far as the limits go. -/
theorem all1_gives (w0 : World) (x : S39) (cs : List Value) (hK : k39.K w0 x cs) (bx : Nat) (W0 : World) (hbx : W0.heap[bx]? = some (.cells cs.toArray 39 (0, 0))) (hb0 : Below w0.heap.size w0 W0) :
    GivesAll Tryz.prog 41 #[.pointer (some ⟨bx, 0, none⟩)] (VisE w0) (goV x 0 0).1 w0.heap.size W0 := by
  intro l J Jx W hW hJ hJx hY h0
  have hM : w0.heap.size ≤ W.heap.size := Nat.le_trans hb0.size hW.size
  have LC := Aside0.mk (show cs.length = 19 from k39.K_len hK)
  have WA := Aside0.mk (fun by_ bm bw h1 h2 h3 => walk_all w0 W.heap.size l by_ bm bw (goV x 0 0).1 J Jx hM h1 h2 h3 hJ hJx (fun pre v cs W1 hj hk hp => hY pre v _ W1 hj ⟨cs, rfl, hk⟩ hp) (sz39 x) x cs 0 [])
  have X0 := Aside0.mk ((hW.block _ (blk_lt hbx)).trans hbx)
  have B0 := Aside0.mk (hb0.trans (hW.mono hb0.size))
  have J0 := Aside0.mk h0
  have HJ := Aside0.mk hJ
  have HK := Aside0.mk hK
  clear hY hJx hJ h0 hbx hb0 hW hM hK
  refine callsIn_wide.2 ?_
  show Calls Tryz.prog 41 #[.func (.yield l) #[] #[], .pointer (some ⟨bx, 0, none⟩)] W _
  go_enter Tryz.func41, Tryz.ntmps41
  go_wp2_with (first
    | ((with_reducible refine gate_dst (N := 2) rfl ?_); refine box1_ 73 (.tmp 0) rfl rfl (.func (.yield l) #[] #[]) rfl rfl ?_; intro by_ hg w1 hb hB; have Y1 := Aside0.mk hb; have B1 := Aside0.mk hB; have G1 := Aside0.mk hg; clear hg hb hB)
    | ((with_reducible refine gate_dst (N := 3) rfl ?_); refine alloc1_ 3 rfl rfl (.int .i64 0) rfl 1 8 (by kernel_rfl) ?_; intro bm hg w2 hb hB; have Y2 := Aside0.mk ((hB.block _ (blk_lt Y1.out)).trans Y1.out); have M2 := Aside0.mk hb; have B2 := Aside0.mk (below_step B1.out hB); have G2 := Aside0.mk (show by_ < bm by rw [hg]; exact blk_lt Y1.out); clear hg hb hB Y1 B1)
    | ((with_reducible refine gate_ (.store 3 (.tmp 3) (.const (.int .i64 0))) rfl ?_); refine store1_ 3 (.tmp 3) (.const (.int .i64 0)) rfl rfl rfl bm rfl (.int .i64 0) rfl rfl rfl (by kernel_rfl) _ _ M2.out ?_; intro w3 hb hg; have B3 := Aside0.mk (B2.out.grown hg B2.out.size (fun k e => by cases e; have := G1.out; have := G2.out; omega)); have Y3 := Aside0.mk ((hg.block _ (blk_lt Y2.out) (by intro e; injection e with e; have := G2.out; omega)).trans Y2.out); have M3 := Aside0.mk hb; clear hb hg Y2 M2 B2)
    | ((with_reducible refine gate_dst (N := 4) rfl ?_); refine alloc1_ 43 rfl rfl .nilFunc rfl 1 8 (by kernel_rfl) ?_; intro bw hg w4 hb hB; have Y4 := Aside0.mk ((hB.block _ (blk_lt Y3.out)).trans Y3.out); have M4 := Aside0.mk ((hB.block _ (blk_lt M3.out)).trans M3.out); have W4 := Aside0.mk hb; have B4 := Aside0.mk (below_step B3.out hB); have G4 := Aside0.mk (show bm < bw by rw [hg]; exact blk_lt M3.out); clear hg hb hB Y3 M3 B3)
    | ((with_reducible refine gate_ (.store 43 (.tmp 4) (.tmp 5)) rfl ?_); refine store1_ 43 (.tmp 4) (.tmp 5) rfl rfl rfl bw ?hp (.func (.func 42) #[] #[.pointer (some ⟨bm, 0, none⟩), .pointer (some ⟨by_, 0, none⟩), .pointer (some ⟨bw, 0, none⟩)]) ?hx2 rfl rfl (by kernel_rfl) _ _ W4.out ?_; (case hp => first | rfl | (go_simp; done) | (go_simp; rfl)); (case hx2 => first | rfl | (go_simp; done) | (go_simp; rfl)); intro w5 hb hg; have B5 := Aside0.mk (B4.out.grown hg B4.out.size (fun k e => by cases e; have := G1.out; have := G2.out; have := G4.out; omega)); have Y5 := Aside0.mk ((hg.block _ (blk_lt Y4.out) (by intro e; injection e with e; have := G2.out; have := G4.out; omega)).trans Y4.out); have M5 := Aside0.mk ((hg.block _ (blk_lt M4.out) (by intro e; injection e with e; have := G4.out; omega)).trans M4.out); have W5 := Aside0.mk hb; have qw := (show w5.cell? ⟨bw, 0, none⟩ = some (.func (.func 42) #[] #[.pointer (some ⟨bm, 0, none⟩), .pointer (some ⟨by_, 0, none⟩), .pointer (some ⟨bw, 0, none⟩)]) by rw [blk_cell W5.out]; rfl); clear hb hg Y4 M4 W4 B4)
    | ((with_reducible refine gate_dst (N := 7) rfl ?_); refine loadVar_ 39 (.tmp 1) rfl rfl bx ?hx cs _ Tryz.underlying39 ?hi _ ((B5.out.block _ (blk_lt X0.out)).trans X0.out) ?_; (case hx => first | rfl | (go_simp; done) | (go_simp; rfl)); (case hi => rw [LC.out]; kernel_rfl))
    | (go_at_call 42; refine (WA.out by_ bm bw (by rw [G1.out]; exact Nat.le_refl _) G2.out G4.out w5 (Nat.le_refl _) HK.out (by omega) (by simp) (List.prefix_refl _) (HJ.out _ _ _ J0.out B5.out) ⟨Y5.out, M5.out, W5.out, B0.out.trans (B5.out.mono B0.out.size)⟩).mono ?_; rintro e w6 ⟨b, rfl, h⟩; have HH := Aside0.mk h; clear h qw))
  go_end0
  refine ⟨⟨_, rfl⟩, ?_⟩
  rcases HH.out with ⟨_, hj, _⟩ | ⟨_, q, hq, hx⟩
  · exact .inl (by simpa using hj)
  · exact .inr ⟨q, hq, hx⟩
/-- **impl.all**: its function, over the plan's box. -/
theorem all_c (cs : List Value) (w : World) : Calls Tryz.prog 25 #[.agg cs.toArray] w fun e w' => ∃ bx, e = .returned (.func (.func 41) #[] #[.pointer (some ⟨bx, 0, none⟩)]) ∧ w'.heap[bx]? = some (.cells cs.toArray 39 (0, 0)) ∧ Below w.heap.size w w' := by
  go_enter Tryz.func25, Tryz.ntmps25
  go_wp2_with ((with_reducible refine gate_dst (N := 1) rfl ?_); refine box_ 39 (.tmp 0) rfl rfl cs.toArray rfl ?_; intro g hg w1 hbx hB; have X1 := Aside0.mk hbx; have B1 := Aside0.mk hB; clear hbx hB hg)
  go_ret
  exact ⟨g, rfl, X1.out, B1.out⟩
end Pl
section
attribute [local go_sem] Oper.semAt_some
namespace Pl
/-- None of these goes beyond the limits. -/
def okV : Nat → List Vis → Prop
  | _, [] => True
  | n, v :: vs => n + 1 ≤ 10 ∧ v.1 < 6 ∧ okV (n + 1) vs
theorem okV_append (n : Nat) (a b : List Vis) : okV n (a ++ b) ↔ okV n a ∧ okV (n + a.length) b := by
  induction a generalizing n with
  | nil => simp [okV]
  | cons v vs ih => simp only [List.cons_append, okV, ih, List.length_cons, and_assoc]; rw [show n + 1 + vs.length = n + (vs.length + 1) by omega]
theorem okV_prefix {n : Nat} {a b : List Vis} (h : a <+: b) (hb : okV n b) : okV n a := by
  obtain ⟨c, rfl⟩ := h; exact ((okV_append n a c).1 hb).1
/-- It goes on to the end just if nothing goes beyond the limits. -/
theorem goV_ok : ∀ (m : Nat) (x : S39), sz39 x ≤ m → ∀ deep n, (goV x deep n).2 = true ↔ okV n (goV x deep n).1 := by
  intro m
  induction m with
  | zero => intro x h; have := sz39_kids x; omega
  | succ m ih =>
    intro x hm deep n
    have hk := sz39_kids x
    have go : ∀ (ks : List S39), szs39 ks ≤ m → ∀ deep n, (goVs ks deep n).2 = true ↔ okV n (goVs ks deep n).1 := by
      intro ks
      induction ks with
      | nil => intro _ deep n; simp [goVs, okV]
      | cons k ks ihk =>
        intro hs deep n
        simp only [szs39] at hs
        have h1 := ih k (by omega) deep n
        by_cases hc : (goV k deep n).2 = true
        · rw [goVs_true hc, okV_append]
          exact (ihk (by omega) deep _).trans ⟨fun h => ⟨h1.1 hc, h⟩, fun h => h.2⟩
        · rw [goVs_false (by simpa using hc)]
          exact ⟨fun h => (by cases h), fun h => absurd (h1.2 h) hc⟩
    by_cases hc : n + 1 > 10 ∨ deep ≥ 6
    · rw [goV_stop hc]
      simp only [okV]
      exact ⟨fun h => (by cases h), fun h => (by omega)⟩
    · rw [goV_go hc]
      simp only [okV]
      rw [go x.f9 (by omega)]
      exact ⟨fun h => ⟨by omega, by omega, h⟩, fun h => h.2.2⟩
theorem okV_le (n : Nat) (a : List Vis) (h : okV n a) : a.length ≤ 10 ∧ (a.length = 0 ∨ n + a.length ≤ 10) := by
  induction a generalizing n with
  | nil => simp
  | cons v vs ih => have := ih (n + 1) h.2.2; have := h.1; simp only [List.length_cons]; omega
theorem okV_snoc (pre : List Vis) (v : Vis) : okV 0 (pre ++ [v]) ↔ okV 0 pre ∧ pre.length + 1 ≤ 10 ∧ v.1 < 6 := by
  rw [okV_append]; simp [okV]
/-- sizeOk -/
def sizeB (x : S39) : Bool := (goV x 0 0).2
theorem sizeB_iff (x : S39) : sizeB x = true ↔ okV 0 (goV x 0 0).1 := goV_ok _ x (Nat.le_refl _) 0 0
theorem VisE_size {w0 : World} {v : Vis} {vs : Array Value} (h : VisE w0 v vs) : vs.size = 2 := by obtain ⟨cs, rfl, _⟩ := h; rfl
/-- sizeOk's boxes: its answer, how many have come. -/
structure SzW (w : World) (br bm : Nat) (n : Nat) (W : World) : Prop where
  hr : W.heap[br]? = some (.cells #[.bool false] 4 (0, 0))
  hm : W.heap[bm]? = some (.cells #[.int .i64 n] 3 (0, 0))
  bel : Below w.heap.size w W
theorem SzW.below {w : World} {br bm n m : Nat} {A B : World} (h : SzW w br bm n A) (hb : Below m A B) (h1 : br < m) (h2 : bm < m) (h3 : w.heap.size ≤ m) : SzW w br bm n B :=
  ⟨(hb.block _ h1).trans h.hr, (hb.block _ h2).trans h.hm, h.bel.trans (hb.mono h3)⟩
theorem SzW.set {w : World} {br bm n m : Nat} {A B : World} (h : SzW w br bm n A) (hg : A.grownBy B (some bm)) (hb : B.heap[bm]? = some (.cells #[.int .i64 m] 3 (0, 0))) (h1 : w.heap.size ≤ bm) (h2 : br ≠ bm) : SzW w br bm m B :=
  ⟨(hg.block _ (blk_lt h.hr) (by simpa using h2)).trans h.hr, hb, h.bel.grown hg h.bel.size (fun k e => by cases e; exact h1)⟩
theorem SzW.setR {w : World} {br bm n : Nat} {A B : World} (h : SzW w br bm n A) (hg : A.grownBy B (some br)) (hb : B.heap[br]? = some (.cells #[.bool false] 4 (0, 0))) (h1 : w.heap.size ≤ br) (h2 : br ≠ bm) : SzW w br bm n B :=
  ⟨hb, (hg.block _ (blk_lt h.hm) (by simp; omega)).trans h.hm, h.bel.grown hg h.bel.size (fun k e => by cases e; exact h1)⟩
/-- A result that lies in a cell. -/
theorem results_cell1 {P : Program} {fn : Func} {p : Tmp} {ty : TypeId} (h : fn.results = #[.cell p ty]) {tmps : Array Value} {w : World} {g : Nat} {v : Value} {e : TypeId} {d : TypeDesc} (hp : tmps.getD p undef = .pointer (some ⟨g, 0, none⟩)) (hb : w.heap[g]? = some (.cells #[v] e (0, 0)))
    (hu : P.underlying ty = some d) (hd : (match d with | .struct _ | .array _ _ => true | _ => false) = false) : (results fn tmps).run P w = .ok v w := by
  have hp' : tmps[p]?.getD undef = .pointer (some ⟨g, 0, none⟩) := by simpa using hp
  have hc : w.cell? ⟨g, 0, none⟩ = some v := by rw [blk_cell hb]; rfl
  have hagg : (isAgg ty).run P w = .ok false w := by
    unfold isAgg
    rw [Sem.run_bind, run_underlying hu w]
    cases d <;> simp_all
  simp [results, h, hp', asAddr, loadVar, Sem.run_bind, hagg, hc, go_sem]
set_option maxHeartbeats 4000000 in
set_option maxRecDepth 100000 in
/-- **impl.sizeOk** -/
theorem sizeOk_c (x : S39) (cs : List Value) (w : World) (hK : k39.K w x cs) :
    Calls Tryz.prog 34 #[.agg cs.toArray] w fun e w' => e = .returned (.bool (sizeB x)) ∧ Below w.heap.size w w' := by
  have LC := Aside0.mk (show cs.length = 19 from k39.K_len hK)
  have HK := Aside0.mk hK
  have CA := Aside0.mk (all_c cs)
  clear hK
  refine callsIn_wide (n := 0).1 ?_
  refine callsIn_of_wp_marks Tryz.func34 rfl trivial ?_ rfl
  simp only [Tryz.ntmps34, List.size_toArray, List.length_cons, List.length_nil, Nat.reduceAdd, Nat.reduceSub, Array.replicate_succ, Array.replicate_zero, List.push_toArray, List.append_toArray, List.nil_append, List.cons_append]
  refine wpIn_wide.2 ?_
  go_wp2_with (first
    | ((with_reducible refine gate_dst (N := 1) rfl ?_); refine box_ 39 (.tmp 0) rfl rfl cs.toArray rfl ?_; intro bp hg w1 hbx hB; have X1 := Aside0.mk hbx; have B1 := Aside0.mk hB; clear hbx hB hg)
    | ((with_reducible refine gate_dst (N := 2) rfl ?_); refine alloc1_ 4 rfl rfl (.bool false) rfl 1 1 (by kernel_rfl) ?_; intro br hg w2 hb hB; have X2 := Aside0.mk ((hB.block _ (blk_lt X1.out)).trans X1.out); have R2 := Aside0.mk hb; have B2 := Aside0.mk (below_step B1.out hB); have GR := Aside0.mk (show w.heap.size ≤ br by rw [hg]; exact B1.out.size); clear hg hb hB X1 B1)
    | ((with_reducible refine gate_dst (N := 3) rfl ?_); refine alloc1_ 3 rfl rfl (.int .i64 0) rfl 1 8 (by kernel_rfl) ?_; intro bm hg w3 hb hB; have X3 := Aside0.mk ((hB.block _ (blk_lt X2.out)).trans X2.out); have S3 := Aside0.mk (show SzW w br bm 0 w3 from ⟨(hB.block _ (blk_lt R2.out)).trans R2.out, hb, below_step B2.out hB⟩); have GM := Aside0.mk (show br < bm by rw [hg]; exact blk_lt R2.out); have NX := Aside0.mk (show bp ≠ bm by rw [hg]; exact Nat.ne_of_lt (blk_lt X2.out)); clear hg hb hB X2 R2 B2)
    | ((with_reducible refine gate_ (.store 3 (.tmp 3) (.const (.int .i64 0))) rfl ?_); refine store1_ 3 (.tmp 3) (.const (.int .i64 0)) rfl rfl rfl bm rfl (.int .i64 0) rfl rfl rfl (by kernel_rfl) _ _ S3.out.hm ?_; intro w4 hb hg; have S4 := Aside0.mk (show SzW w br bm 0 w4 from ⟨(hg.block _ (blk_lt S3.out.hr) (by intro e; injection e with e; have := GM.out; omega)).trans S3.out.hr, hb, S3.out.bel.grown hg S3.out.bel.size (fun k e => by cases e; have := GM.out; have := GR.out; omega)⟩); have X4 := Aside0.mk ((hg.block _ (blk_lt X3.out) (by intro e; injection e with e; exact NX.out e)).trans X3.out); clear hb hg X3 S3)
    | ((with_reducible refine gate_dst (N := 5) rfl ?_); refine loadVar_ 39 (.tmp 1) rfl rfl bp ?hx cs _ Tryz.underlying39 ?hi _ X4.out ?_; (case hx => first | rfl | (go_simp; done) | (go_simp; rfl)); (case hi => rw [LC.out]; kernel_rfl))
    | (go_at_call 25; refine (CA.out _).mono ?_; rintro e w5 ⟨bx, rfl, hbx, hB⟩; have X5 := Aside0.mk hbx; have S5 := Aside0.mk (S4.out.below hB (blk_lt S4.out.hr) (blk_lt S4.out.hm) S4.out.bel.size); clear hbx hB S4 X4))
  refine (wpIn_wide (n := 0)).1 (wpIn_rangeAll (E := VisE w) (V := (goV x 0 0).1) (n₀ := w.heap.size) rfl (enters_v Tryz.func41 (by kernel_rfl) rfl) (all1_gives w x cs HK.out bx w5 X5.out S5.out.bel) S5.out.bel.size (fun v vs h => VisE_size h)
    (fun pre W => okV 0 pre ∧ SzW w br bm pre.length W) (fun c pre W => c = .ret ∧ ¬ okV 0 pre ∧ SzW w br bm pre.length W)
    (fun s A B hs hb => ⟨hs.1, hs.2.below hb (blk_lt S5.out.hr) (blk_lt S5.out.hm) S5.out.bel.size⟩) (fun c s A B hs hb => ⟨hs.1, hs.2.1, hs.2.2.below hb (blk_lt S5.out.hr) (blk_lt S5.out.hm) S5.out.bel.size⟩) ⟨trivial, S5.out⟩ ?round ?done ?stop)
  case round =>
    rintro l pre v vs W hsz ⟨hok, hS⟩ ⟨cs', rfl, hk⟩ hpre
    have QB := S5.out.bel.size
    have LR := Aside0.mk (blk_lt S5.out.hr)
    have LM := Aside0.mk (blk_lt S5.out.hm)
    gi_wp2
    refine ⟨Kp.refl _ _ _, ⟨hok, hS⟩, ?_⟩
    rintro W2 ⟨hok2, hS2⟩ hB2 hz2 -
    obtain ⟨m, hm⟩ : ∃ m, m = pre.length := ⟨_, rfl⟩
    have MH := Aside0.mk hm
    have hm10 : m ≤ 10 := by rw [hm]; exact (okV_le 0 pre hok).1
    rw [← hm] at hS2
    have S2 := Aside0.mk hS2
    have OK := Aside0.mk hok
    have qm : W2.cell? ⟨bm, 0, none⟩ = some (.int .i64 m) := by rw [blk_cell hS2.hm]; rfl
    have WS := Aside0.mk (show w.heap.size ≤ W2.heap.size by omega)
    clear hm hok hS hk hpre hok2 hS2 hB2 hz2 hsz QB
    gi_wp2_with (first
      | ((with_reducible refine gateInOp (op := .store 3 (.tmp 3) (.tmp 10)) rfl ?_); refine store1In_ 3 (.tmp 3) (.tmp 10) rfl rfl rfl bm ?hp (.int .i64 ((m : Int) + 1)) ?hx2 rfl rfl (by kernel_rfl) _ _ S2.out.hm ?_; (case hp => first | rfl | (go_simp; done) | (go_simp; rfl)); (case hx2 => first | rfl | (go_simp; done) | (go_simp; rfl)); intro W3 hb hg; have S3 := Aside0.mk (S2.out.set (m := m + 1) hg hb (by have := GR.out; have := GM.out; omega) (by have := GM.out; omega)); have K3 := Aside0.mk (Kp.grown (M := w5.heap.size) hg (by have := GR.out; have := GM.out; omega) WS.out LM.out); have q3 := (show W3.cell? ⟨bm, 0, none⟩ = some (.int .i64 ((m : Int) + 1)) by rw [blk_cell hb]; rfl); clear hb hg qm S2)
      | ((with_reducible refine gateInOp (op := .store 4 (.tmp 2) (.const (.bool false))) rfl ?_); refine store1In_ 4 (.tmp 2) (.const (.bool false)) rfl rfl rfl br ?hp (.bool false) rfl rfl rfl (by kernel_rfl) _ _ S3.out.hr ?_; (case hp => first | rfl | (go_simp; done) | (go_simp; rfl)); intro W4 hb hg; have S4 := Aside0.mk (S3.out.setR hg hb GR.out (by have := GM.out; omega)); have K4 := Aside0.mk (K3.out.trans (Kp.grown (M := w5.heap.size) hg GR.out (Nat.le_trans WS.out K3.out.bel.size) LR.out)); clear hb hg q3 S3 K3))
    · have hn : ¬ okV 0 (pre ++ [v]) := fun h => by have := (okV_snoc pre v).1 h; have := MH.out; omega
      exact ⟨K4.out, rfl, hn, by rw [show (pre ++ [v]).length = m + 1 by simp [MH.out]]; exact S4.out⟩
    · exact ⟨K3.out, (okV_snoc pre v).2 ⟨OK.out, by have := MH.out; omega, by omega⟩, by rw [show (pre ++ [v]).length = m + 1 by simp [MH.out]]; exact S3.out⟩
    · have hn : ¬ okV 0 (pre ++ [v]) := fun h => by have := (okV_snoc pre v).1 h; have := MH.out; omega
      exact ⟨K4.out, rfl, hn, by rw [show (pre ++ [v]).length = m + 1 by simp [MH.out]]; exact S4.out⟩
  case done =>
    rintro D W hD ⟨hok, hS⟩ hK
    have ST := Aside0.mk hS
    have KD := Aside0.mk hK
    have OK := Aside0.mk hok
    clear hok hS hK
    go_wp2_with ((with_reducible refine gate_ (.store 4 (.tmp 2) (.const (.bool true))) rfl ?_); refine store1_ 4 (.tmp 2) (.const (.bool true)) rfl rfl rfl br ?hp (.bool true) rfl rfl rfl (by kernel_rfl) _ _ ST.out.hr ?_; (case hp => first | rfl | (go_simp; done) | (go_simp; rfl)); intro W4 hb hg; have B4 := Aside0.mk (ST.out.bel.grown hg ST.out.bel.size (fun k e => by cases e; exact GR.out)); have R4 := Aside0.mk hb; have D4 := Aside0.mk ((hg.block D (Array.getElem?_eq_some_iff.1 KD.out).1 (by intro e; injection e with e; have := blk_lt S5.out.hr; omega)).trans KD.out); clear hb hg ST)
    refine ⟨by simp, .inl ⟨_, _, rfl, run_takeDeferred D4.out, ?_⟩⟩
    have hb5 : Below w.heap.size W4 (W4.putObj D (.deferred none)) := below_putObj _ _ (by have := S5.out.bel.size; omega)
    refine ⟨.bool true, results_cell1 (p := 2) (ty := 4) rfl rfl ((World.putObj_heap_other (by have := blk_lt S5.out.hr; omega)).trans R4.out) Tryz.underlying4 rfl, ?_, B4.out.trans hb5⟩
    rw [(sizeB_iff x).2 OK.out]
  case stop =>
    rintro D c pre W hD hpre ⟨rfl, hok, hS⟩ hK
    have ST := Aside0.mk hS
    have KD := Aside0.mk hK
    have NO := Aside0.mk (show sizeB x = false by
      by_cases h : sizeB x = true
      · exact absurd (okV_prefix hpre ((sizeB_iff x).1 h)) hok
      · simpa using h)
    clear hok hS hK hpre
    refine wpIn_wide.2 ?_
    go_wp2
    refine ⟨by simp, .inl ⟨_, _, rfl, run_takeDeferred KD.out, ?_⟩⟩
    have hb5 : Below w.heap.size W (W.putObj D (.deferred none)) := below_putObj _ _ (by have := S5.out.bel.size; omega)
    refine ⟨.bool false, results_cell1 (p := 2) (ty := 4) rfl rfl ((World.putObj_heap_other (by have := blk_lt S5.out.hr; omega)).trans ST.out.hr) Tryz.underlying4 rfl, ?_, ST.out.bel.trans hb5⟩
    rw [NO.out]
end Pl

end
namespace Pl
/-! ### The map of the kinds of parts -/
section
variable {P : Program} {ops : Array Oper} {rest : List Oper} {o : Oper} {a : Act} {Q : Exit → Act → World → Prop}
/-- A new map is made. -/
theorem makeMap_ {W : World} (t : TypeId) (ho : o.op = .makeMap t none) (hgd : o.guard = none)
    (h : ∀ b, b = W.heap.size → ∀ w1, w1.heap[b]? = some (.map #[] 0) → Below W.heap.size W w1 → wpList P ops Q rest (a.put o.dst (.map (some b))) w1) : wpList P ops Q (o :: rest) a W := by
  refine Kd.event_run hgd ?_ (h _ rfl _ (blk_new W _) (below_alloc (Below.refl _ _) _))
  unfold execOp
  simp only [ho]
  simp [Instr.makeMap, run_newObj_alloc, go_sem]
theorem findKey_now {es : List MapEntry} {kt : TypeId} {k : Value} {d : TypeDesc} {r : Option (Nat × Value)} {W : World} (hu : P.underlying kt = some d) (hr : Instr.findNow d k es 0 = some r) : (Instr.findKey kt k es).run P W = .ok r W := by
  unfold Instr.findKey
  rw [Sem.run_bind, run_underlying hu W]
  simp [hr]
theorem checkKey_int {e : Bool} {n : Nat} {kt : TypeId} {q : Int} {W : World} (hu : P.underlying kt = some (.int .i64)) : (Instr.checkKey e (n + 1) kt (.int .i64 q)).run P W = .ok () W := by
  unfold Instr.checkKey
  rw [Sem.run_bind, run_underlying hu W]
  rfl
/-- A key that isn't there yet is put into a map. -/
theorem insert_ {W : World} (t : TypeId) (m k x : Operand) (ho : o.op = .insert t m k x) (hd : o.dst = none) (hgd : o.guard = none) (b : Nat) (hm : a.eval m = .map (some b)) (q : Int) (hk : a.eval k = .int .i64 q) (v : Value) (hx : a.eval x = v)
    (kt et : TypeId) (hu : P.underlying t = some (.map kt et)) (hki : P.underlying kt = some (.int .i64)) (es : Array MapEntry) (clock : Nat) (hb : W.heap[b]? = some (.map es clock)) (hn : Instr.findNow (.int .i64) (.int .i64 q) es.toList 0 = some none)
    (h : ∀ w1, w1.heap[b]? = some (.map (es.push { key := .int .i64 q, val := v, born := clock }) (clock + 1)) → W.grownBy w1 (some b) → wpList P ops Q rest a w1) : wpList P ops Q (o :: rest) a W := by
  have hlt : b < W.heap.size := (Array.getElem?_eq_some_iff.1 hb).1
  have hrun : (Instr.mapUpdate t (.map (some b)) (.int .i64 q) v).run P W = .ok () (W.putObj b (.map (es.push { key := .int .i64 q, val := v, born := clock }) (clock + 1))) := by
    have hg : (getObj b).run P W = .ok (.map es clock) W := by simp [getObj, Sem.run, hb]
    have hs : (setObj b (.map (es.push { key := .int .i64 q, val := v, born := clock }) (clock + 1))).run P W = .ok () (W.putObj b (.map (es.push { key := .int .i64 q, val := v, born := clock }) (clock + 1))) := by simp [setObj, Sem.run, hb, World.putObj]
    unfold Instr.mapUpdate
    rw [Sem.run_bind, run_underlying hu W]
    simp only [Result.andThen_ok, Sem.run_bind, hg, checkKey_int hki, findKey_now hki hn, hs]
  refine wpList_plain hgd fun K hK => ?_
  unfold Oper.wp execOp
  simp only [ho, hm, hk, hx, Sem.run_bind, Sem.run_pure, Result.andThen_ok, hrun]
  show K (a.put o.dst undef) _
  rw [hd]
  exact hK a _ (h _ (World.putObj_heap_same hlt) ⟨rfl, rfl, rfl, by simp, fun i _ hi => World.putObj_heap_other (fun e => hi (by rw [e]))⟩)
end
end Pl
namespace Pl
def partsEs : Array MapEntry := #[{ key := .int .i64 1, val := .iface 92 (.agg #[]), born := 0 }, { key := .int .i64 2, val := .iface 93 (.agg #[]), born := 1 }, { key := .int .i64 3, val := .iface 94 (.agg #[]), born := 2 }, { key := .int .i64 4, val := .iface 95 (.agg #[]), born := 3 }, { key := .int .i64 5, val := .iface 96 (.agg #[]), born := 4 }, { key := .int .i64 6, val := .iface 97 (.agg #[]), born := 5 }, { key := .int .i64 7, val := .iface 98 (.agg #[]), born := 6 }]
/-- What the map of the kinds holds for a number. -/
def partV (q : Int) : Option Value :=
  if q = 1 then some (.iface 92 (.agg #[])) else if q = 2 then some (.iface 93 (.agg #[])) else if q = 3 then some (.iface 94 (.agg #[])) else if q = 4 then some (.iface 95 (.agg #[])) else if q = 5 then some (.iface 96 (.agg #[])) else if q = 6 then some (.iface 97 (.agg #[])) else if q = 7 then some (.iface 98 (.agg #[])) else none
theorem parts_find (q : Int) : Instr.findNow (.int .i64) (.int .i64 q) partsEs.toList 0 = some (match partV q with | some v => some ((q - 1).toNat, v) | none => none) := by
  unfold partV
  by_cases h1 : q = 1
  · subst h1; rfl
  by_cases h2 : q = 2
  · subst h2; rfl
  by_cases h3 : q = 3
  · subst h3; rfl
  by_cases h4 : q = 4
  · subst h4; rfl
  by_cases h5 : q = 5
  · subst h5; rfl
  by_cases h6 : q = 6
  · subst h6; rfl
  by_cases h7 : q = 7
  · subst h7; rfl
  rw [if_neg h1, if_neg h2, if_neg h3, if_neg h4, if_neg h5, if_neg h6, if_neg h7]
  have b1 : (q == 1) = false := by simpa using h1
  have b2 : (q == 2) = false := by simpa using h2
  have b3 : (q == 3) = false := by simpa using h3
  have b4 : (q == 4) = false := by simpa using h4
  have b5 : (q == 5) = false := by simpa using h5
  have b6 : (q == 6) = false := by simpa using h6
  have b7 : (q == 7) = false := by simpa using h7
  simp [partsEs, Instr.findNow, Instr.sameNow, b1, b2, b3, b4, b5, b6, b7]
/-- A look into the map of the kinds. -/
theorem parts_look {W : World} {b : Nat} (hb : W.heap[b]? = some (.map partsEs 7)) (q : Int) (ok : Bool) : (Instr.lookup 81 (.map (some b)) (.int .i64 q) ok).run Tryz.prog W = .ok (if ok then .tuple #[(partV q).getD .nilIface, .bool (partV q).isSome] else (partV q).getD .nilIface) W := by
  have hg : (getObj b).run Tryz.prog W = .ok (.map partsEs 7) W := by simp [getObj, Sem.run, hb]
  have hz : (zeroValue 80).run Tryz.prog W = .ok .nilIface W := by have := Tryz.zeroValue80 W; exact this
  unfold Instr.lookup
  rw [Sem.run_bind, run_underlying Tryz.underlying81 W]
  simp only [Result.andThen_ok, Sem.run_bind, Sem.run_pure, hg, checkKey_int Tryz.underlying3, findKey_now Tryz.underlying3 (parts_find q)]
  cases hq : partV q with
  | none => simp only [Sem.run_bind, Sem.run_pure, Result.andThen_ok, hz]; cases ok <;> rfl
  | some v => simp only [Sem.run_bind, Sem.run_pure, Result.andThen_ok]; cases ok <;> rfl
set_option maxHeartbeats 4000000 in
set_option maxRecDepth 100000 in
/-- **impl.parts** -/
theorem parts_c (w : World) : Calls Tryz.prog 48 #[] w fun e w' => ∃ b, e = .returned (.map (some b)) ∧ w'.heap[b]? = some (.map partsEs 7) ∧ Below w.heap.size w w' := by
  go_enter Tryz.func48, Tryz.ntmps48
  go_wp2_with (first
    | ((with_reducible refine gate_dst (N := 1) rfl ?_); refine makeMap_ 81 rfl rfl ?_; intro b hg w1 hb hB; have M0 := Aside0.mk hb; have B0 := Aside0.mk hB; have G := Aside0.mk (show w.heap.size ≤ b by rw [hg]; exact Nat.le_refl _); clear hb hB hg)
    | ((with_reducible refine gate_ (.insert 81 (.tmp 1) (.const (.int .i64 1)) (.tmp 3)) rfl ?_); refine insert_ 81 (.tmp 1) (.const (.int .i64 1)) (.tmp 3) rfl rfl rfl b ?hm 1 rfl (.iface 92 (.agg #[])) ?hx _ _ Tryz.underlying81 Tryz.underlying3 _ _ M0.out rfl ?_; (case hm => first | rfl | (go_simp; done) | (go_simp; rfl)); (case hx => first | rfl | (go_simp; done) | (go_simp; rfl)); intro w2 hb hg; have M1 := Aside0.mk hb; have B1 := Aside0.mk (B0.out.grown hg B0.out.size (fun k e => by cases e; exact G.out)); clear hb hg M0 B0)
    | ((with_reducible refine gate_ (.insert 81 (.tmp 1) (.const (.int .i64 2)) (.tmp 5)) rfl ?_); refine insert_ 81 (.tmp 1) (.const (.int .i64 2)) (.tmp 5) rfl rfl rfl b ?hm 2 rfl (.iface 93 (.agg #[])) ?hx _ _ Tryz.underlying81 Tryz.underlying3 _ _ M1.out rfl ?_; (case hm => first | rfl | (go_simp; done) | (go_simp; rfl)); (case hx => first | rfl | (go_simp; done) | (go_simp; rfl)); intro w3 hb hg; have M2 := Aside0.mk hb; have B2 := Aside0.mk (B1.out.grown hg B1.out.size (fun k e => by cases e; exact G.out)); clear hb hg M1 B1)
    | ((with_reducible refine gate_ (.insert 81 (.tmp 1) (.const (.int .i64 3)) (.tmp 7)) rfl ?_); refine insert_ 81 (.tmp 1) (.const (.int .i64 3)) (.tmp 7) rfl rfl rfl b ?hm 3 rfl (.iface 94 (.agg #[])) ?hx _ _ Tryz.underlying81 Tryz.underlying3 _ _ M2.out rfl ?_; (case hm => first | rfl | (go_simp; done) | (go_simp; rfl)); (case hx => first | rfl | (go_simp; done) | (go_simp; rfl)); intro w4 hb hg; have M3 := Aside0.mk hb; have B3 := Aside0.mk (B2.out.grown hg B2.out.size (fun k e => by cases e; exact G.out)); clear hb hg M2 B2)
    | ((with_reducible refine gate_ (.insert 81 (.tmp 1) (.const (.int .i64 4)) (.tmp 9)) rfl ?_); refine insert_ 81 (.tmp 1) (.const (.int .i64 4)) (.tmp 9) rfl rfl rfl b ?hm 4 rfl (.iface 95 (.agg #[])) ?hx _ _ Tryz.underlying81 Tryz.underlying3 _ _ M3.out rfl ?_; (case hm => first | rfl | (go_simp; done) | (go_simp; rfl)); (case hx => first | rfl | (go_simp; done) | (go_simp; rfl)); intro w5 hb hg; have M4 := Aside0.mk hb; have B4 := Aside0.mk (B3.out.grown hg B3.out.size (fun k e => by cases e; exact G.out)); clear hb hg M3 B3)
    | ((with_reducible refine gate_ (.insert 81 (.tmp 1) (.const (.int .i64 5)) (.tmp 11)) rfl ?_); refine insert_ 81 (.tmp 1) (.const (.int .i64 5)) (.tmp 11) rfl rfl rfl b ?hm 5 rfl (.iface 96 (.agg #[])) ?hx _ _ Tryz.underlying81 Tryz.underlying3 _ _ M4.out rfl ?_; (case hm => first | rfl | (go_simp; done) | (go_simp; rfl)); (case hx => first | rfl | (go_simp; done) | (go_simp; rfl)); intro w6 hb hg; have M5 := Aside0.mk hb; have B5 := Aside0.mk (B4.out.grown hg B4.out.size (fun k e => by cases e; exact G.out)); clear hb hg M4 B4)
    | ((with_reducible refine gate_ (.insert 81 (.tmp 1) (.const (.int .i64 6)) (.tmp 13)) rfl ?_); refine insert_ 81 (.tmp 1) (.const (.int .i64 6)) (.tmp 13) rfl rfl rfl b ?hm 6 rfl (.iface 97 (.agg #[])) ?hx _ _ Tryz.underlying81 Tryz.underlying3 _ _ M5.out rfl ?_; (case hm => first | rfl | (go_simp; done) | (go_simp; rfl)); (case hx => first | rfl | (go_simp; done) | (go_simp; rfl)); intro w7 hb hg; have M6 := Aside0.mk hb; have B6 := Aside0.mk (B5.out.grown hg B5.out.size (fun k e => by cases e; exact G.out)); clear hb hg M5 B5)
    | ((with_reducible refine gate_ (.insert 81 (.tmp 1) (.const (.int .i64 7)) (.tmp 15)) rfl ?_); refine insert_ 81 (.tmp 1) (.const (.int .i64 7)) (.tmp 15) rfl rfl rfl b ?hm 7 rfl (.iface 98 (.agg #[])) ?hx _ _ Tryz.underlying81 Tryz.underlying3 _ _ M6.out rfl ?_; (case hm => first | rfl | (go_simp; done) | (go_simp; rfl)); (case hx => first | rfl | (go_simp; done) | (go_simp; rfl)); intro w8 hb hg; have M7 := Aside0.mk hb; have B7 := Aside0.mk (B6.out.grown hg B6.out.size (fun k e => by cases e; exact G.out)); clear hb hg M6 B6))
  go_ret
  exact ⟨b, rfl, M7.out, B7.out⟩
end Pl

end Go.Proofs.YtlpgnkndjmfcjaaGreat.PFnExactPlanMany
