/- The given specification's l4Uses and PlanUses at every plan. The program's PlanUses at every plan. The law FnExactPlanUses returns true for each plan and table, and leaves what lay in the world as it was. -/
import Derived.Test.YtlpgnkndjmfcjaaGreatPlSpecmany
namespace Go.Proofs.YtlpgnkndjmfcjaaGreat.PFnExactPlanMany
open Go.RowKit Go.Proofs.YtlpgnkndjmfcjaaGreatW.PrintWords Go.Proofs.YtlpgnkndjmfcjaaGreatW.PrintLast Go.Proofs.YtlpgnkndjmfcjaaGreatW.PrintMore
attribute [local go_sem] max2_int min2_int max_two min_two max_three min_three max_four min_four   -- for this text's walks alone
set_option linter.unusedVariables false
set_option linter.unusedSimpArgs false
namespace Pl
def UsP (N : Nat) : Prop := ∀ (x : S39) (cs : List Value) (n : Int) (w : World), sz39 x ≤ N → sz39 x ≤ 1099511627776 → k39.K w x cs →
  Calls Tryz.prog 30 #[.agg cs.toArray, .int .i64 n] w fun e w' => e = .returned (.bool (usesF n x)) ∧ Below w.heap.size w w'
set_option maxHeartbeats 8000000 in
set_option maxRecDepth 100000 in
theorem uses_step (N : Nat) (ih : ∀ m, m ≤ N → UsP m) : UsP (N + 1) := by
  intro x cs n w hn hbig hK
  have LC := Aside0.mk (show cs.length = 19 from k39.K_len hK)
  obtain ⟨A12, c12, A15, c15, A18, c18, hcs, l12, g12, l15, g15, l18, g18⟩ := k39_open hK
  have E0 := Aside0.mk (show cs[0]? = some (.int .i64 x.f0) by rw [hcs]; rfl)
  have E1 := Aside0.mk (show cs[1]? = some (.int .i64 x.f1) by rw [hcs]; rfl)
  have E18 := Aside0.mk (show cs[18]? = some (.slice A18 x.f9.length c18) by rw [hcs]; rfl)
  have G18 := Aside0.mk g18
  have SK := Aside0.mk (show szs39 x.f9 ≤ N by have := sz39_kids x; omega)
  have SB := Aside0.mk (show szs39 x.f9 ≤ 1099511627776 by have := sz39_kids x; omega)
  have hlen : x.f9.length ≤ 1099511627776 := by have := sz39_kids x; have := len_szs x.f9; omega
  have MF := Aside0.mk (usesF_eq n x)
  have IH := Aside0.mk ih
  clear hcs l12 g12 l15 g15 l18 g18 hK hn hbig ih
  by_cases h1 : x.f0 = 1
  · have VV := Aside0.mk (show usesF n x = (x.f1 == n) by rw [MF.out, if_pos h1, Bool.eq_iff_iff]; simp)
    rw [h1] at E0
    clear h1 MF IH G18 SK SB hlen E18
    obtain ⟨k1, hk1⟩ : ∃ k, k = x.f1 := ⟨_, rfl⟩
    rw [← hk1] at E1 VV
    clear hk1
    go_enter Tryz.func30, Tryz.ntmps30
    go_wp2_with ((with_reducible refine gate_dst (N := 2) rfl ?_); refine box_ 39 (.tmp 0) rfl rfl cs.toArray rfl ?_; intro gb hg w1 hb hB; have q0 := (blk_cell hb 0).trans (by simpa using E0.out); have q1 := (blk_cell hb 1).trans (by simpa using E1.out); have B1 := Aside0.mk hB; clear hb hB hg)
    go_ret
    exact ⟨by rw [VV.out]; rfl, B1.out⟩
  · have b1 : (x.f0 == 1) = false := by simpa using h1
    rw [if_neg h1] at MF
    obtain ⟨k0, hk0⟩ : ∃ k, k = x.f0 := ⟨_, rfl⟩
    rw [← hk0] at E0 b1
    clear h1 hk0 E1
    go_enter Tryz.func30, Tryz.ntmps30
    go_wp2_with ((with_reducible refine gate_dst (N := 2) rfl ?_); refine box_ 39 (.tmp 0) rfl rfl cs.toArray rfl ?_; intro gb hg w1 hb hB; have q0 := (blk_cell hb 0).trans (by simpa using E0.out); have q18 := (blk_cell hb 18).trans (by simpa using E18.out); have B1 := Aside0.mk hB; clear hb hB hg)
    go_loopw [5] (fun v5 wr => ∃ (i : Nat), v5 = .int .i64 i ∧ i ≤ x.f9.length ∧ wr.cell? ⟨gb, 18, none⟩ = some (.slice A18 x.f9.length c18) ∧ Aside0 (Below w.heap.size w wr) ∧ Aside0 (usesF n x = usesFs n (x.f9.drop i))) (fun v5 _ => x.f9.length - (intOf v5).toNat)
    case atStart => exact ⟨0, rfl, Nat.zero_le _, q18, B1, ⟨by rw [MF.out]; simp⟩⟩
    case round =>
      obtain ⟨i, rfl, hi, q18', HB, HN⟩ := hrel
      clear q18 q0
      by_cases hlt : i < x.f9.length
      · obtain ⟨ad, c0, e18, hcl, hK0, hcell⟩ := elem_ G18.out i hlt
        obtain rfl := e18
        have hsz := szs39_get hlt
        have LD := Aside0.mk (show c0.length = 19 from hcl)
        have HE := Aside0.mk hcell
        have CA := Aside0.mk (fun (W : World) (hb : Below w.heap.size w W) => IH.out (sz39 x.f9[i]) (by have := SK.out; omega) x.f9[i] c0 n W (Nat.le_refl _) (by have := SB.out; omega) (k39.K_below hb hK0))
        have GD := Aside0.mk (HN.out.trans (usesFs_drop n x.f9 i hlt))
        obtain ⟨r, hr⟩ : ∃ r, r = usesF n x.f9[i] := ⟨_, rfl⟩
        rw [← hr] at CA GD
        clear hK0 hcell hcl hsz HN hr
        cases r
        · go_wp2_with (first
            | ((with_reducible refine gate_dst (N := 24) rfl ?_); refine load_ 39 (.tmp 23) rfl rfl (ad.add (i * 19)) ?hx c0 _ Tryz.underlying39 ?hi (fun j v h => zhs HB.out (HE.out j v h)) ?_; (case hx => first | rfl | (go_simp; done) | (go_simp; rfl)); (case hi => rw [LD.out]; kernel_rfl))
            | (go_at_call 30; refine (CA.out _ HB.out).mono ?_; rintro e w6 ⟨rfl, hB⟩; have HB6 := Aside0.mk (below_step HB.out hB); have p18 := zhs hB q18'; clear hB CA q18'))
          go_roundw
          case rel => exact ⟨i + 1, by go_num, by omega, p18, HB6, ⟨by rw [GD.out, Bool.false_or]⟩⟩
          case measure => simp [intOf]; omega
        · go_wp2_with (first
            | ((with_reducible refine gate_dst (N := 24) rfl ?_); refine load_ 39 (.tmp 23) rfl rfl (ad.add (i * 19)) ?hx c0 _ Tryz.underlying39 ?hi (fun j v h => zhs HB.out (HE.out j v h)) ?_; (case hx => first | rfl | (go_simp; done) | (go_simp; rfl)); (case hi => rw [LD.out]; kernel_rfl))
            | (go_at_call 30; refine (CA.out _ HB.out).mono ?_; rintro e w6 ⟨rfl, hB⟩; have HB6 := Aside0.mk (below_step HB.out hB); clear hB CA q18'))
          go_ret
          exact ⟨by rw [GD.out]; rfl, HB6.out⟩
      · have GE := Aside0.mk (HN.out.trans (usesFs_end n x.f9 i (by omega)))
        go_wp2
        go_ret
        exact ⟨by rw [GE.out]; rfl, HB.out⟩
theorem uses_all (N : Nat) : UsP N := by
  induction N using Nat.strongRecOn with
  | _ N ih =>
    cases N with
    | zero => intro x cs d w hn; have := sz39_kids x; omega
    | succ N => exact uses_step N (fun m hm => ih m (by omega))
/-- **spec.l4Uses** -/
theorem l4Uses_c (x : S39) (cs : List Value) (n : Int) (w : World) (hbig : sz39 x ≤ 1099511627776) (hK : k39.K w x cs) :
    Calls Tryz.prog 30 #[.agg cs.toArray, .int .i64 n] w fun e w' => e = .returned (.bool (usesF n x)) ∧ Below w.heap.size w w' := uses_all _ x cs n w (Nat.le_refl _) hbig hK
set_option maxHeartbeats 8000000 in
set_option maxRecDepth 100000 in
/-- **spec.PlanUses** -/
theorem specPlanUses_c (x : S39) (n : Int) (cs : List Value) (w : World) (hK : k39.K w x cs) (hsm : Small39 x) (hbig : sz39 x ≤ 1099511627776) :
    Calls Tryz.prog 11 #[.agg cs.toArray, .int .i64 n] w fun e w' => e = .returned (.bool (sUses x n)) ∧ Below w.heap.size w w' := by
  have LC := Aside0.mk (show cs.length = 19 from k39.K_len hK)
  have C1 := Aside0.mk (fun (W : World) (hb : Below w.heap.size w W) => l4Fit_c x cs W (k39.K_below hb hK) hsm hbig)
  have C2 := Aside0.mk (fun (W : World) (hb : Below w.heap.size w W) => l4Uses_c x cs n W hbig (k39.K_below hb hK))
  have VV := Aside0.mk (show sUses x n = (sFit x && usesF n x) from rfl)
  obtain ⟨z, hz⟩ : ∃ z, z = sFit x := ⟨_, rfl⟩
  obtain ⟨m, hm⟩ : ∃ m, m = usesF n x := ⟨_, rfl⟩
  rw [← hz, ← hm] at VV
  rw [← hz] at C1
  rw [← hm] at C2
  clear hK hsm hbig hz hm
  cases z
  · have V2 := Aside0.mk (VV.out.trans (Bool.false_and _))
    go_enter Tryz.func11, Tryz.ntmps11
    go_wp2_with (first
      | ((with_reducible refine gate_dst (N := 2) rfl ?_); refine box_ 39 (.tmp 0) rfl rfl cs.toArray rfl ?_; intro gb hg w1 hb hB; have X1 := Aside0.mk hb; have B1 := Aside0.mk hB; clear hb hB hg)
      | ((with_reducible refine gate_dst (N := 5) rfl ?_); refine loadVar_ 39 (.tmp 2) rfl rfl gb ?hx cs _ Tryz.underlying39 ?hi _ X1.out ?_; (case hx => first | rfl | (go_simp; done) | (go_simp; rfl)); (case hi => rw [LC.out]; kernel_rfl))
      | (go_at_call 18; refine (C1.out _ B1.out).mono ?_; rintro e w2 ⟨rfl, hB⟩; have X2 := Aside0.mk ((hB.block _ (blk_lt X1.out)).trans X1.out); have B2 := Aside0.mk (below_step B1.out hB); clear hB))
    go_ret
    exact ⟨by rw [V2.out]; rfl, B2.out⟩
  · have V2 := Aside0.mk (VV.out.trans (Bool.true_and _))
    go_enter Tryz.func11, Tryz.ntmps11
    go_wp2_with (first
      | ((with_reducible refine gate_dst (N := 2) rfl ?_); refine box_ 39 (.tmp 0) rfl rfl cs.toArray rfl ?_; intro gb hg w1 hb hB; have X1 := Aside0.mk hb; have B1 := Aside0.mk hB; clear hb hB hg)
      | ((with_reducible refine gate_dst (N := 5) rfl ?_); refine loadVar_ 39 (.tmp 2) rfl rfl gb ?hx cs _ Tryz.underlying39 ?hi _ X1.out ?_; (case hx => first | rfl | (go_simp; done) | (go_simp; rfl)); (case hi => rw [LC.out]; kernel_rfl))
      | (go_at_call 18; refine (C1.out _ B1.out).mono ?_; rintro e w2 ⟨rfl, hB⟩; have X2 := Aside0.mk ((hB.block _ (blk_lt X1.out)).trans X1.out); have B2 := Aside0.mk (below_step B1.out hB); clear hB)
      | ((with_reducible refine gate_dst (N := 8) rfl ?_); refine loadW_ 39 (.tmp 2) rfl ?hw ⟨gb, 0, none⟩ ?hx cs _ Tryz.underlying39 ?hi (sub_ X2.out [] cs [] (by simp)) ?_; (case hw => first | rfl | (simp [Region.wanted, yielded]; done)); (case hx => first | rfl | (go_simp; done) | (go_simp; rfl)); (case hi => rw [LC.out]; kernel_rfl))
      | (go_at_call 30; refine (C2.out _ B2.out).mono ?_; rintro e w3 ⟨rfl, hB⟩; have X3 := Aside0.mk ((hB.block _ (blk_lt X2.out)).trans X2.out); have B3 := Aside0.mk (below_step B2.out hB); clear hB))
    go_ret
    exact ⟨by rw [V2.out]; rfl, B3.out⟩
end Pl
section
attribute [local go_sem] Oper.semAt_some
namespace Pl
section
variable {F : Fence} {n : Nat} {P : Program} {ops : Array Oper} {rest : List Oper} {o : Oper} {a : Act} {Q : Exit → Act → World → Prop}
theorem allocIn_ {W : World} (ty : TypeId) (ho : o.op = .alloc ty) (hgd : o.guard = none) (z : List Value) (m b : Nat) (hi : (P.info? ty).map (fun i => (i.zero, i.size, i.bytes)) = some (some (.agg z.toArray), m, b))
    (h : ∀ g, g = W.heap.size → ∀ w1, w1.heap[g]? = some (.cells z.toArray ty (0, 0)) → Below W.heap.size W w1 → wpListIn F n P ops Q rest (a.put o.dst (.pointer (some ⟨g, 0, none⟩))) w1) : wpListIn F n P ops Q (o :: rest) a W := by
  refine eventIn hgd (by simp [Oper.about, ho]) (by rw [ho]; intro c e; cases e) ?_ (h _ rfl _ (blk_new W _) (below_alloc (Below.refl _ _) _))
  obtain ⟨i, hi1, hi2⟩ := Option.map_eq_some_iff.1 hi
  simp only [Prod.mk.injEq] at hi2
  obtain ⟨hz, -, -⟩ := hi2
  unfold execOp
  simp only [ho]
  simp [Instr.alloc, zeroValue, typeInfo, hi1, hz, go_sem]
  try rfl
theorem storeAllIn_ {W : World} (t : TypeId) (p x : Operand) (ho : o.op = .store t p x) (hd : o.dst = none) (hgd : o.guard = none) (g : Nat) (hp : a.eval p = .pointer (some ⟨g, 0, none⟩)) (seg : List Value) (hx : a.eval x = .agg seg.toArray)
    (ht : (P.info? t).map (·.size) = some seg.length) (h1 : ∀ q ∈ seg, q.oneCell' = true) (cur : List Value) (e : TypeId) (hh : W.heap[g]? = some (.cells cur.toArray e (0, 0))) (hfit : seg.length = cur.length)
    (h : ∀ w1, w1.heap[g]? = some (.cells seg.toArray e (0, 0)) → W.grownBy w1 (some g) → wpListIn F n P ops Q rest a w1) : wpListIn F n P ops Q (o :: rest) a W := by
  have hrun := run_store_run (P := P) t (.agg seg.toArray) seg (g := g) (o := 0) hh rfl ht (by simp; omega) h1
  obtain ⟨cur', h3, h4, h5⟩ := setCells_row seg 0 W cur.toArray hh (by simp; omega)
  obtain ⟨s1, s2, s3, s4⟩ := setCells_same g seg 0 W
  refine wpListIn_plain hgd fun K hK => ⟨fun f hf => (by simp [Oper.about, ho] at hf), ?_⟩
  rw [Oper.semAt_plain F _ _ (by rw [ho]; intro c e; cases e)]
  unfold execOp
  simp only [ho, hp, hx, Sem.run_bind, Sem.run_pure, Result.andThen_ok, hrun]
  show K (a.put o.dst undef) _
  rw [hd]
  refine hK a _ (h _ ?_ ⟨s1, s2, s3, by rw [s4]; exact Nat.le_refl _, fun k _ hk => setCells_far _ _ k (fun he => hk (by rw [he]))⟩)
  rw [h3]
  congr 2
  apply Array.toList_inj.1
  rw [h5]
  simp [hfit]
end
/-- PlanUses's boxes: its answer, the table. -/
structure UsW (w : World) (br bn : Nat) (n : Int) (W : World) : Prop where
  hr : W.heap[br]? = some (.cells #[.bool false] 4 (0, 0))
  hn : W.heap[bn]? = some (.cells #[.int .i64 n] 3 (0, 0))
  bel : Below w.heap.size w W
theorem UsW.below {w : World} {br bn m : Nat} {n : Int} {A B : World} (h : UsW w br bn n A) (hb : Below m A B) (h1 : br < m) (h2 : bn < m) (h3 : w.heap.size ≤ m) : UsW w br bn n B :=
  ⟨(hb.block _ h1).trans h.hr, (hb.block _ h2).trans h.hn, h.bel.trans (hb.mono h3)⟩
/-- what has come so far is no part that is table n -/
def noneT (n : Int) (l : List Vis) : Bool := l.any (fun v => isT n v.2)
theorem noneT_snoc (n : Int) (l : List Vis) (v : Vis) : noneT n (l ++ [v]) = (noneT n l || isT n v.2) := by unfold noneT; rw [List.any_append]; simp
theorem noneT_prefix {n : Int} {a b : List Vis} (h : a <+: b) (hb : noneT n a = true) : noneT n b = true := by
  obtain ⟨c, rfl⟩ := h; unfold noneT at *; rw [List.any_append, hb, Bool.true_or]
set_option maxHeartbeats 8000000 in
set_option maxRecDepth 100000 in
/-- **impl.PlanUses** -/
theorem implPlanUses_c (x : S39) (n : Int) (cs : List Value) (w : World) (hK : k39.K w x cs) (hsm : Small39 x) :
    Calls Tryz.prog 12 #[.agg cs.toArray, .int .i64 n] w fun e w' => e = .returned (.bool (iUses x n)) ∧ Below w.heap.size w w' := by
  have LC := Aside0.mk (show cs.length = 19 from k39.K_len hK)
  have HK := Aside0.mk hK
  have CA := Aside0.mk (all_c cs)
  have CW := Aside0.mk (fun (W : World) (hb : Below w.heap.size w W) => writable_c x cs W (k39.K_below hb hK) hsm)
  obtain ⟨z, hz⟩ : ∃ z, z = fitB x := ⟨_, rfl⟩
  have VV := Aside0.mk (show iUses x n = (z && noneT n (goV x 0 0).1) by rw [hz]; rfl)
  rw [← hz] at CW
  clear hK hz hsm
  cases z with
  | false =>
    have V2 := Aside0.mk (VV.out.trans (Bool.false_and _))
    go_enter Tryz.func12, Tryz.ntmps12
    go_wp2_with (first
      | ((with_reducible refine gate_dst (N := 2) rfl ?_); refine box_ 39 (.tmp 0) rfl rfl cs.toArray rfl ?_; intro bp hg w1 hbx hB; have X1 := Aside0.mk hbx; have B1 := Aside0.mk hB; clear hbx hB hg)
      | ((with_reducible refine gate_dst (N := 3) rfl ?_); refine box1_ 3 (.tmp 1) rfl rfl (.int .i64 n) rfl rfl ?_; intro bn hg w2 hb hB; have X2 := Aside0.mk ((hB.block _ (blk_lt X1.out)).trans X1.out); have B2 := Aside0.mk (below_step B1.out hB); clear hg hb hB)
      | ((with_reducible refine gate_dst (N := 4) rfl ?_); refine alloc1_ 4 rfl rfl (.bool false) rfl 1 1 (by kernel_rfl) ?_; intro br hg w3 hb hB; have X3 := Aside0.mk ((hB.block _ (blk_lt X2.out)).trans X2.out); have R3 := Aside0.mk hb; have B3 := Aside0.mk (below_step B2.out hB); have GR := Aside0.mk (show w.heap.size ≤ br by rw [hg]; exact B2.out.size); clear hg hb hB)
      | ((with_reducible refine gate_dst (N := 7) rfl ?_); refine loadVar_ 39 (.tmp 2) rfl rfl bp ?hx cs _ Tryz.underlying39 ?hi _ X3.out ?_; (case hx => first | rfl | (go_simp; done) | (go_simp; rfl)); (case hi => rw [LC.out]; kernel_rfl))
      | (go_at_call 24; refine (CW.out _ B3.out).mono ?_; rintro e w4 ⟨rfl, hB⟩; have R4 := Aside0.mk ((hB.block _ (blk_lt R3.out)).trans R3.out); have B4 := Aside0.mk (below_step B3.out hB); clear hB)
      | ((with_reducible refine gate_ (.store 4 (.tmp 4) (.const (.bool false))) rfl ?_); refine store1_ 4 (.tmp 4) (.const (.bool false)) rfl rfl rfl br ?hp (.bool false) rfl rfl rfl (by kernel_rfl) _ _ R4.out ?_; (case hp => first | rfl | (go_simp; done) | (go_simp; rfl)); intro W5 hb hg; have B5 := Aside0.mk (B4.out.grown hg B4.out.size (fun k e => by cases e; exact GR.out)); have R5 := Aside0.mk hb; clear hb hg))
    exact bodyPost_ret (v := .bool false) (results_cell1 (p := 4) (ty := 4) rfl rfl R5.out Tryz.underlying4 rfl) rfl ⟨by rw [V2.out], B5.out⟩
  | true =>
    have V2 := Aside0.mk (VV.out.trans (Bool.true_and _))
    clear VV
    refine callsIn_wide (n := 0).1 ?_
    refine callsIn_of_wp_marks Tryz.func12 rfl trivial ?_ rfl
    simp only [Tryz.ntmps12, List.size_toArray, List.length_cons, List.length_nil, Nat.reduceAdd, Nat.reduceSub, Array.replicate_succ, Array.replicate_zero, List.push_toArray, List.append_toArray, List.nil_append, List.cons_append]
    refine wpIn_wide.2 ?_
    go_wp2_with (first
      | ((with_reducible refine gate_dst (N := 2) rfl ?_); refine box_ 39 (.tmp 0) rfl rfl cs.toArray rfl ?_; intro bp hg w1 hbx hB; have X1 := Aside0.mk hbx; have B1 := Aside0.mk hB; clear hbx hB hg)
      | ((with_reducible refine gate_dst (N := 3) rfl ?_); refine box1_ 3 (.tmp 1) rfl rfl (.int .i64 n) rfl rfl ?_; intro bn hg w2 hb hB; have X2 := Aside0.mk ((hB.block _ (blk_lt X1.out)).trans X1.out); have N2 := Aside0.mk hb; have B2 := Aside0.mk (below_step B1.out hB); clear hg hb hB X1)
      | ((with_reducible refine gate_dst (N := 4) rfl ?_); refine alloc1_ 4 rfl rfl (.bool false) rfl 1 1 (by kernel_rfl) ?_; intro br hg w3 hb hB; have X3 := Aside0.mk ((hB.block _ (blk_lt X2.out)).trans X2.out); have S3 := Aside0.mk (show UsW w br bn n w3 from ⟨hb, (hB.block _ (blk_lt N2.out)).trans N2.out, below_step B2.out hB⟩); have GR := Aside0.mk (show w.heap.size ≤ br by rw [hg]; exact B2.out.size); clear hg hb hB X2 N2 B2 B1)
      | ((with_reducible refine gate_dst (N := 7) rfl ?_); refine loadVar_ 39 (.tmp 2) rfl rfl bp ?hx cs _ Tryz.underlying39 ?hi _ X3.out ?_; (case hx => first | rfl | (go_simp; done) | (go_simp; rfl)); (case hi => rw [LC.out]; kernel_rfl))
      | (go_at_call 24; refine (CW.out _ S3.out.bel).mono ?_; rintro e w4 ⟨rfl, hB⟩; have X4 := Aside0.mk ((hB.block _ (blk_lt X3.out)).trans X3.out); have S4 := Aside0.mk (S3.out.below hB (blk_lt S3.out.hr) (blk_lt S3.out.hn) S3.out.bel.size); clear hB S3 X3)
      | ((with_reducible refine gate_dst (N := 10) rfl ?_); refine loadVar_ 39 (.tmp 2) rfl rfl bp ?hx cs _ Tryz.underlying39 ?hi _ X4.out ?_; (case hx => first | rfl | (go_simp; done) | (go_simp; rfl)); (case hi => rw [LC.out]; kernel_rfl))
      | (go_at_call 25; refine (CA.out _).mono ?_; rintro e w5 ⟨bx, rfl, hbx, hB⟩; have X5 := Aside0.mk hbx; have S5 := Aside0.mk (S4.out.below hB (blk_lt S4.out.hr) (blk_lt S4.out.hn) S4.out.bel.size); clear hbx hB S4 X4))
    refine (wpIn_wide (n := 0)).1 (wpIn_rangeAll (E := VisE w) (V := (goV x 0 0).1) (n₀ := w.heap.size) rfl (enters_v Tryz.func41 (by kernel_rfl) rfl) (all1_gives w x cs HK.out bx w5 X5.out S5.out.bel) S5.out.bel.size (fun v vs h => VisE_size h)
      (fun pre W => noneT n pre = false ∧ UsW w br bn n W) (fun c pre W => c = .ret ∧ noneT n pre = true ∧ W.heap[br]? = some (.cells #[.bool true] 4 (0, 0)) ∧ Below w.heap.size w W)
      (fun s A B hs hb => ⟨hs.1, hs.2.below hb (blk_lt S5.out.hr) (blk_lt S5.out.hn) S5.out.bel.size⟩) (fun c s A B hs hb => ⟨hs.1, hs.2.1, (hb.block _ (blk_lt S5.out.hr)).trans hs.2.2.1, hs.2.2.2.trans (hb.mono S5.out.bel.size)⟩) ⟨rfl, S5.out⟩ ?round ?done ?stop)
    case round =>
      rintro l pre v vs W hsz ⟨hno, hS⟩ ⟨cs', rfl, hk⟩ hpre
      have LR := Aside0.mk (blk_lt S5.out.hr)
      have LN := Aside0.mk (blk_lt S5.out.hn)
      have LX := Aside0.mk (show cs'.length = 19 from k39.K_len hk)
      have OX := Aside0.mk (show ∀ q ∈ cs', q.oneCell' = true from k39.K_one hk)
      obtain ⟨A12, c12, A15, c15, A18, c18, hcs, -, -, -, -, -, -⟩ := k39_open hk
      have E0 := Aside0.mk (show cs'[0]? = some (.int .i64 v.2.f0) by rw [hcs]; rfl)
      have E1 := Aside0.mk (show cs'[1]? = some (.int .i64 v.2.f1) by rw [hcs]; rfl)
      have SW := Aside0.mk hS
      have HZ := Aside0.mk hsz
      have NO := Aside0.mk hno
      have IT := Aside0.mk (show isT n v.2 = ((v.2.f0 == 1) && (v.2.f1 == n)) by unfold isT; rw [Bool.eq_iff_iff]; simp)
      have WS := Aside0.mk (show w.heap.size ≤ W.heap.size from hS.bel.size)
      clear hk hcs hS hsz hno hpre
      gi_wp2_with (first
        | ((with_reducible refine gateIn (N := 6) rfl ?_); refine allocIn_ 39 rfl rfl zero39 _ _ info39 ?_; intro gx hg wa1 hb hB; have BA1 := Aside0.mk hB; have YA1 := Aside0.mk hb; have GA1 := Aside0.mk hg; clear hb hB hg)
        | ((with_reducible refine gateInOp (op := .store 39 (.tmp 6) (.tmp 13)) rfl ?_); refine storeAllIn_ 39 (.tmp 6) (.tmp 13) rfl rfl rfl gx ?hp cs' ?hx2 ?ht OX.out zero39 _ YA1.out ?hf ?_; (case hp => first | rfl | (go_simp; done) | (go_simp; rfl)); (case hx2 => first | rfl | (go_simp; done) | (go_simp; rfl)); (case ht => rw [LX.out]; kernel_rfl); (case hf => rw [LX.out]; rfl); intro wc1 hb hg; have BC := Aside0.mk (BA1.out.grown hg BA1.out.size (fun k e => by injection e with e; rw [← e]; exact Nat.le_of_eq GA1.out.symm)); have XC := Aside0.mk hb; clear BA1 YA1 hb hg))
      refine ⟨Kp.of_below BC.out WS.out, ⟨NO.out, SW.out.below BC.out (blk_lt SW.out.hr) (blk_lt SW.out.hn) WS.out⟩, ?_⟩
      rintro W2 ⟨-, hS2⟩ hB2 hz2 hc2
      have S2 := Aside0.mk hS2
      have hx2 := hc2 _ _ XC.out rfl
      have q0 := (blk_cell hx2 0).trans (by simpa using E0.out)
      have q1 := (blk_cell hx2 1).trans (by simpa using E1.out)
      have qn : W2.cell? ⟨bn, 0, none⟩ = some (.int .i64 n) := by rw [blk_cell hS2.hn]; rfl
      have W2S := Aside0.mk (show w.heap.size ≤ W2.heap.size from hS2.bel.size)
      obtain ⟨k0, hk0⟩ : ∃ k, k = v.2.f0 := ⟨_, rfl⟩
      obtain ⟨k1, hk1⟩ : ∃ k, k = v.2.f1 := ⟨_, rfl⟩
      rw [← hk0, ← hk1] at IT
      rw [← hk0] at q0
      rw [← hk1] at q1
      obtain ⟨t0, ht0⟩ : ∃ t, (k0 == 1) = t := ⟨_, rfl⟩
      obtain ⟨t1, ht1⟩ : ∃ t, (k1 == n) = t := ⟨_, rfl⟩
      rw [ht0, ht1] at IT
      clear hk0 hk1 hS2 hB2 hz2 hc2 hx2 E0 E1
      have no2 : isT n v.2 = false → noneT n (pre ++ [v]) = false := fun h => by rw [noneT_snoc, NO.out, h]; rfl
      have NO2 := Aside0.mk no2
      have YE2 := Aside0.mk (fun (h : isT n v.2 = true) => show noneT n (pre ++ [v]) = true by rw [noneT_snoc, h, Bool.or_true])
      clear no2
      cases t0
      · gi_wp2
        exact ⟨Kp.refl _ _ _, NO2.out (by rw [IT.out]; rfl), S2.out⟩
      · cases t1
        · gi_wp2
          exact ⟨Kp.refl _ _ _, NO2.out (by rw [IT.out]; rfl), S2.out⟩
        · gi_wp2_with ((with_reducible refine gateInOp (op := .store 4 (.tmp 4) (.const (.bool true))) rfl ?_); refine store1In_ 4 (.tmp 4) (.const (.bool true)) rfl rfl rfl br ?hp (.bool true) rfl rfl rfl (by kernel_rfl) _ _ S2.out.hr ?_; (case hp => first | rfl | (go_simp; done) | (go_simp; rfl)); intro W4 hb hg; have R4 := Aside0.mk hb; have K4 := Aside0.mk (Kp.grown (M := w5.heap.size) hg GR.out W2S.out LR.out); have B4 := Aside0.mk (S2.out.bel.grown hg S2.out.bel.size (fun k e => by cases e; exact GR.out)); clear hb hg q0 q1 qn)
          exact ⟨K4.out, rfl, YE2.out (by rw [IT.out]; rfl), R4.out, B4.out⟩
    case done =>
      rintro D W hD ⟨hno, hS⟩ hK
      have ST := Aside0.mk hS
      have KD := Aside0.mk hK
      have NO := Aside0.mk hno
      clear hno hS hK
      go_wp2_with ((with_reducible refine gate_ (.store 4 (.tmp 4) (.const (.bool false))) rfl ?_); refine store1_ 4 (.tmp 4) (.const (.bool false)) rfl rfl rfl br ?hp (.bool false) rfl rfl rfl (by kernel_rfl) _ _ ST.out.hr ?_; (case hp => first | rfl | (go_simp; done) | (go_simp; rfl)); intro W4 hb hg; have B4 := Aside0.mk (ST.out.bel.grown hg ST.out.bel.size (fun k e => by cases e; exact GR.out)); have R4 := Aside0.mk hb; have D4 := Aside0.mk ((hg.block D (Array.getElem?_eq_some_iff.1 KD.out).1 (by intro e; injection e with e; have := blk_lt S5.out.hr; omega)).trans KD.out); clear hb hg ST)
      refine ⟨by simp, .inl ⟨_, _, rfl, run_takeDeferred D4.out, ?_⟩⟩
      have hb5 : Below w.heap.size W4 (W4.putObj D (.deferred none)) := below_putObj _ _ (by have := S5.out.bel.size; omega)
      refine ⟨.bool false, results_cell1 (p := 4) (ty := 4) rfl rfl ((World.putObj_heap_other (by have := blk_lt S5.out.hr; omega)).trans R4.out) Tryz.underlying4 rfl, ?_, B4.out.trans hb5⟩
      rw [V2.out, NO.out]
    case stop =>
      rintro D c pre W hD hpre ⟨rfl, hyes, hR, hBl⟩ hK
      have RT := Aside0.mk hR
      have BT := Aside0.mk hBl
      have KD := Aside0.mk hK
      have YE := Aside0.mk (noneT_prefix hpre hyes)
      clear hyes hR hBl hK hpre
      refine wpIn_wide.2 ?_
      go_wp2
      refine ⟨by simp, .inl ⟨_, _, rfl, run_takeDeferred KD.out, ?_⟩⟩
      have hb5 : Below w.heap.size W (W.putObj D (.deferred none)) := below_putObj _ _ (by have := S5.out.bel.size; omega)
      refine ⟨.bool true, results_cell1 (p := 4) (ty := 4) rfl rfl ((World.putObj_heap_other (by have := blk_lt S5.out.hr; omega)).trans RT.out) Tryz.underlying4 rfl, ?_, BT.out.trans hb5⟩
      rw [V2.out, YE.out]
end Pl

end
namespace Pl
set_option maxHeartbeats 16000000 in
set_option maxRecDepth 100000 in
theorem law_uses (x : S30) (n : Int) (ca : List Value) (w : World) (hK : k30.K w x ca) (hok : OkP x) :
    Calls Tryz.prog 4 #[.agg ca.toArray, .int .i64 n] w fun e w' => e = .returned (.bool true) ∧ Below w.heap.size w w' := by
  have LA := Aside0.mk (show ca.length = 19 from k30.K_len hK)
  have T0 := Aside0.mk (Below.refl w.heap.size w)
  have KA := Aside0.mk (show k30.K w x ca.toArray.toList from hK)
  have b1 := szF_le x 1048576 (by omega)
  have SX := Aside0.mk (small_sz _ x (Nat.le_refl _) 1048576 (by omega) (by omega))
  have FX := Aside0.mk (few_sz _ x (Nat.le_refl _) 1048576 (by omega))
  have C1 := Aside0.mk (fun (w' : World) (hK : k30.K w' x ca.toArray.toList) => szPlan_c x ca.toArray 1048576 w' hK hok (by omega) (by omega))
  obtain ⟨r1, hr1⟩ : ∃ r, r = szF x 1048576 := ⟨_, rfl⟩
  rw [← hr1] at b1 SX FX C1
  clear hr1 hK hok
  by_cases hn : r1 < 0
  · have f0 : decide (r1 < 0) = true := decide_eq_true hn
    clear SX FX b1 hn
    go_enter Tryz.func4, Tryz.ntmps4
    go_wp2_with (first
      | ((with_reducible refine gate_dst (N := 2) rfl ?_); refine box_ 30 (.tmp 0) rfl rfl ca.toArray rfl ?_; intro ga hga w1 hb1 hB1; have E := Aside0.mk (show LU w ga ca w1 from ⟨hb1, below_step T0.out hB1⟩); clear hb1 hB1 hga T0)
      | ((with_reducible refine gate_dst (N := 9) rfl ?_); refine loadVar_ 30 (.tmp 2) rfl rfl ga ?hx ca _ Tryz.underlying30 ?hi _ E.out.hA ?_; (case hx => first | rfl | (go_simp; done) | (go_simp; rfl)); (case hi => rw [LA.out]; kernel_rfl))
      | (go_at_call 6; refine (C1.out _ (k30.K_below E.out.bel KA.out)).mono ?_; rintro e w3 ⟨rfl, hB⟩; have E2 := Aside0.mk (E.out.call hB); clear E C1 hB; have E := E2; clear E2))
    go_ret
    exact ⟨rfl, E.out.bel⟩
  have f0 : decide (r1 < 0) = false := decide_eq_false hn
  have sx := Aside0.mk (SX.out (by omega))
  have hbig := Aside0.mk (show sz39 (conv x) ≤ 1099511627776 by have h1 := FX.out (by omega); have h2 := sz_conv _ x (Nat.le_refl _); omega)
  have TX := Aside0.mk (fun (w' : World) hK => toPlan_c x ca.toArray w' hK sx.out)
  obtain ⟨V, hV⟩ : ∃ V, V = sUses (conv x) n := ⟨_, rfl⟩
  have TS := Aside0.mk (fun (W : World) cx hK => hV ▸ specPlanUses_c (conv x) n cx W hK (small_conv sx.out) hbig.out)
  have TW := Aside0.mk (fun (W : World) cx hK => ((uses_law (conv x) n).trans hV.symm) ▸ implPlanUses_c (conv x) n cx W hK (small_conv sx.out))
  have TX1 := TX
  clear SX FX b1 hn hV
  go_enter Tryz.func4, Tryz.ntmps4
  go_wp2_with (first
    | ((with_reducible refine gate_dst (N := 2) rfl ?_); refine box_ 30 (.tmp 0) rfl rfl ca.toArray rfl ?_; intro ga hga w1 hb1 hB1; have E := Aside0.mk (show LU w ga ca w1 from ⟨hb1, below_step T0.out hB1⟩); clear hb1 hB1 hga T0)
    | ((with_reducible refine gate_dst (N := 9) rfl ?_); refine loadVar_ 30 (.tmp 2) rfl rfl ga ?hx ca _ Tryz.underlying30 ?hi _ E.out.hA ?_; (case hx => first | rfl | (go_simp; done) | (go_simp; rfl)); (case hi => rw [LA.out]; kernel_rfl))
    | (go_at_call 6; refine (C1.out _ (k30.K_below E.out.bel KA.out)).mono ?_; rintro e w3 ⟨rfl, hB⟩; have E2 := Aside0.mk (E.out.call hB); clear E C1 hB; have E := E2; clear E2)
    | ((with_reducible refine gate_dst (N := 14) rfl ?_); refine loadVar_ 30 (.tmp 2) rfl rfl ga ?hx ca _ Tryz.underlying30 ?hi _ E.out.hA ?_; (case hx => first | rfl | (go_simp; done) | (go_simp; rfl)); (case hi => rw [LA.out]; kernel_rfl))
    | ((with_reducible refine gate_dst (N := 18) rfl ?_); refine loadVar_ 30 (.tmp 2) rfl rfl ga ?hx ca _ Tryz.underlying30 ?hi _ E.out.hA ?_; (case hx => first | rfl | (go_simp; done) | (go_simp; rfl)); (case hi => rw [LA.out]; kernel_rfl))
    | (go_at_call 8; refine (TX1.out _ (k30.K_below E.out.bel KA.out)).mono ?_; rintro e wb1 ⟨c1, rfl, hK3, hB⟩; have E2 := Aside0.mk (E.out.call hB); have K1 := Aside0.mk (show k39.K wb1 (conv x) c1.toArray.toList from hK3); clear E hB hK3 TX1; have E := E2; clear E2)
    | (go_at_call 11; refine (TS.out _ _ K1.out).mono ?_; rintro e wb3 ⟨rfl, hB⟩; have E2 := Aside0.mk (E.out.call hB); clear E K1 TS hB; have E := E2; clear E2)
    | (go_at_call 8; refine (TX.out _ (k30.K_below E.out.bel KA.out)).mono ?_; rintro e wb4 ⟨c3, rfl, hK3, hB⟩; have E2 := Aside0.mk (E.out.call hB); have KX := Aside0.mk (show k39.K wb4 (conv x) c3.toArray.toList from hK3); have LX := Aside0.mk (show c3.length = 19 from k39.K_len hK3); have OX := Aside0.mk (show ∀ q ∈ c3, q.oneCell' = true from k39.K_one hK3); clear E hB hK3; have E := E2; clear E2)
    | ((with_reducible refine gate_dst (N := 7) rfl ?_); refine alloc_ 39 rfl rfl zero39 _ _ info39 ?_; intro gx hg wa1 hb hB; have BA1 := Aside0.mk hB; have YA1 := Aside0.mk hb; have GA1 := Aside0.mk hg; clear hb hB hg)
    | ((with_reducible refine gate_ (.store 39 (.tmp 7) (.tmp 19)) rfl ?_); refine storeAll_ 39 (.tmp 7) (.tmp 19) rfl rfl rfl gx ?hp c3 ?hx2 ?ht OX.out zero39 _ YA1.out ?hf ?_; (case hp => first | rfl | (go_simp; done) | (go_simp; rfl)); (case hx2 => first | rfl | (go_simp; done) | (go_simp; rfl)); (case ht => rw [LX.out]; kernel_rfl); (case hf => rw [LX.out]; rfl); intro wc1 hb hg; have hB := BA1.out.grown hg BA1.out.size (fun k e => by injection e with e; rw [← e]; exact Nat.le_of_eq GA1.out.symm); have F := Aside0.mk (show LV w ga gx ca c3 (conv x) wc1 from ⟨E.out.call hB, hb, k39.K_below hB KX.out⟩); clear E KX BA1 YA1 GA1 hb hg hB)
    | ((with_reducible refine gate_dst (N := 20) rfl ?_); refine loadVar_ 39 (.tmp 7) rfl rfl gx ?hx c3 _ Tryz.underlying39 ?hi _ F.out.hX ?_; (case hx => first | rfl | (go_simp; done) | (go_simp; rfl)); (case hi => rw [LX.out]; kernel_rfl))
    | (go_at_call 12; refine (TW.out _ _ F.out.kx).mono ?_; rintro e wb6 ⟨rfl, hB⟩; have F2 := Aside0.mk (F.out.call hB); clear F TW hB; have F := F2; clear F2))
  refine wp_region_held_drew (S := fun W => LV w ga gx ca c3 (conv x) W) (by kernel_rfl) (F.out.call (Below.refl _ _).drew) (fun hHeld => ?_)
  clear F
  refine wpAnyH_take (i := 0) (oi := _) (v := _) rfl (by kernel_rfl) (by kernel_rfl) (by kernel_rfl) (fun _ _ _ h => h) (yieldsIf_load_mid (by rfl) 39 (.tmp 7) rfl gx 0 rfl c3 _ (fun W h => range_ h.hX) Tryz.underlying39 rfl ?hi) hHeld ?_
  case hi => rw [LX.out]; kernel_rfl
  change wpAnyH _ _ _ _ _ _ _ (Act.put _ (some 26) _) _
  simp only [Act.put, List.setIfInBounds_toArray, List.set_cons_zero, List.set_cons_succ]
  refine wpAnyH_take (i := 1) (oi := _) (v := _) rfl (by kernel_rfl) (by kernel_rfl) (by kernel_rfl) (fun _ _ _ h => h) (yieldsIf_load_mid (by rfl) 30 (.tmp 2) rfl ga 0 rfl ca _ (fun W h => range_ h.ls.hA) Tryz.underlying30 rfl ?hi) hHeld ?_
  case hi => rw [LA.out]; kernel_rfl
  change wpAnyH _ _ _ _ _ _ _ (Act.put _ (some 27) _) _
  simp only [Act.put, List.setIfInBounds_toArray, List.set_cons_zero, List.set_cons_succ]
  refine wpAnyH_ready (rs := [2]) (by kernel_rfl) (by simp) ?_
  refine AllReadyH.cons rfl (fun K hK => ?_) AllReadyH.nil
  refine goes_ (N := some 28) Tryz.func8 (by kernel_rfl) rfl #[.agg ca.toArray] (by rfl) rfl rfl (by simp only [List.map_toArray, List.map_cons, List.map_nil]; rfl) ?_
  refine (TX.out _ (k30.K_below hHeld.ls.bel KA.out)).mono ?_
  rintro e we ⟨c5, rfl, hK5, hB⟩
  refine ⟨_, rfl, ?_⟩
  refine hK.out _ _ (hHeld.call hB) (fun hHeld => ?_)
  clear hK K
  simp only [Act.put, List.setIfInBounds_toArray, List.set_cons_zero, List.set_cons_succ]
  have K5 := Aside0.mk (show k39.K we (conv x) c5.toArray.toList from hK5)
  clear hB hK5
  refine wpAnyH_ready (rs := [3]) (by kernel_rfl) (by simp) ?_
  refine AllReadyH.cons rfl (fun K hK => ?_) AllReadyH.nil
  refine goes_ (N := some 29) Tryz.func10 (by kernel_rfl) rfl #[.agg c3.toArray, .agg c5.toArray] (by rfl) rfl rfl (by simp only [List.map_toArray, List.map_cons, List.map_nil]; rfl) ?_
  refine (eqPlan_c (conv x) (conv x) c3.toArray c5.toArray _ hHeld.kx K5.out (small_conv sx.out)).mono ?_
  rintro e wf ⟨rfl, hB⟩; rw [same_self]
  refine ⟨_, rfl, ?_⟩
  refine hK.out _ _ (hHeld.call hB) (fun hHeld => ?_)
  clear hK K
  simp only [Act.put, List.setIfInBounds_toArray, List.set_cons_zero, List.set_cons_succ]
  clear K5 hB
  refine wpAnyH_take (i := 4) (oi := _) (v := _) rfl (by kernel_rfl) (by kernel_rfl) (by kernel_rfl) (fun _ _ _ h => h) (Or.inl ⟨by rfl, fun W _ => by go_simp; with_reducible rfl⟩) hHeld ?_
  change wpAnyH _ _ _ _ _ _ _ (Act.put _ (some 30) _) _
  simp only [Act.put, List.setIfInBounds_toArray, List.set_cons_zero, List.set_cons_succ]
  refine wpAnyH_done (by kernel_rfl) ?_ _
  have F := Aside0.mk hHeld
  clear hHeld
  go_wp2
  go_ret
  exact ⟨rfl, F.out.ls.bel⟩
end Pl

end Go.Proofs.YtlpgnkndjmfcjaaGreat.PFnExactPlanMany
