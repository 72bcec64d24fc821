/- The library's slices.EqualFunc over impl.PlanSame tells whether two rows of plans are the same, if impl.PlanSame does so for each. -/
import Derived.Test.YtlpgnkndjmfcjaaPlPsDef
namespace Go.Proofs.Ytlpgnkndjmfcjaa.PFnExactPlanSame
open Go.RowKit Go.Proofs.YtlpgnkndjmfcjaaW.PrintWords Go.Proofs.YtlpgnkndjmfcjaaW.PrintLast Go.Proofs.YtlpgnkndjmfcjaaW.PrintMore
attribute [local go_sem] max2_int min2_int max_two min_two max_three min_three max_four min_four   -- for this text's walks alone
set_option linter.unusedVariables false
set_option linter.unusedSimpArgs false
namespace Pl
section
variable {P : Program} {ops : Array Oper} {rest : List Oper} {o : Oper} {a : Act} {Q : Exit → Act → World → Prop}
/-- A whole struct is stored into a variable of its type. -/
theorem storeAll_ {W : World} (t : TypeId) (p x : Operand) (ho : o.op = .store t p x) (hd : o.dst = none) (hgd : o.guard = none) (g : Nat) (hp : a.eval p = .pointer (some ⟨g, 0, none⟩)) (seg : List Value) (hx : a.eval x = .agg seg.toArray)
    (ht : (P.info? t).map (·.size) = some seg.length) (h1 : ∀ q ∈ seg, q.oneCell' = true) (cur : List Value) (e : TypeId) (hh : W.heap[g]? = some (.cells cur.toArray e (0, 0))) (hfit : seg.length = cur.length)
    (h : ∀ w1, w1.heap[g]? = some (.cells seg.toArray e (0, 0)) → W.grownBy w1 (some g) → wpList P ops Q rest a w1) : wpList P ops Q (o :: rest) a W :=
  store_ t p x ho hd hgd g 0 hp (.agg seg.toArray) hx seg rfl ht h1 cur e hh (by omega) (fun w1 hb hg => h w1 (by
    have e : cur.take 0 ++ seg ++ cur.drop (0 + seg.length) = seg := by rw [List.take_zero, List.nil_append, List.drop_of_length_le (by omega), List.append_nil]
    rw [e] at hb; exact hb) hg)
/-- A struct in a variable is loaded whole. -/
theorem loadVar_ {W : World} (ty : TypeId) (x : Operand) (ho : o.op = .load ty x) (hgd : o.guard = none) (g : Nat) (hx : a.eval x = .pointer (some ⟨g, 0, none⟩)) (cs : List Value) (fs : Array Field) (hu : P.underlying ty = some (.struct fs)) (hi : (P.info? ty).map (·.size) = some cs.length)
    (e : TypeId) (hh : W.heap[g]? = some (.cells cs.toArray e (0, 0))) (h : wpList P ops Q rest (a.put o.dst (.agg cs.toArray)) W) : wpList P ops Q (o :: rest) a W :=
  load_ ty x ho hgd ⟨g, 0, none⟩ hx cs fs hu hi (sub_ hh [] cs [] (by simp)) h
end
def zero39 : List Value := [.int .i64 0, .int .i64 0, .int .i64 0, .bool false, .int .i64 0, .int .i64 0, .int .i64 0, .int .i64 0, .int .i64 0, .int .i64 0, .int .i64 0, .int .i64 0, .slice none 0 0, .int .i64 0, .int .i64 0, .slice none 0 0, .int .i64 0, .int .i64 0, .slice none 0 0]
def PsS (N : Nat) : Prop := ∀ (xs ys : List (S39)) (A B : Option Addr) (c d : Nat) (w : World), szs39 xs ≤ N → Kd.C k39 w A xs.length xs → xs.length ≤ c → Kd.C k39 w B ys.length ys → ys.length ≤ d → xs.length ≤ 1048576 → (∀ y ∈ xs, Small39 y) →
  Calls Try.prog 26 #[.slice A xs.length c, .slice B ys.length d, .func (.func 9) #[] #[]] w fun e w' => e = .returned (.bool (sames xs ys)) ∧ Below w.heap.size w w'
def PsP (N : Nat) : Prop := ∀ (x y : S39) (ca cb : Array Value) (w : World), sz39 x ≤ N → k39.K w x ca.toList → k39.K w y cb.toList → Small39 x →
  Calls Try.prog 9 #[.agg ca, .agg cb] w fun e w' => e = .returned (.bool (same x y)) ∧ Below w.heap.size w w'
set_option maxHeartbeats 8000000 in
set_option maxRecDepth 100000 in
theorem equalFunc_step (N : Nat) (hP : ∀ M, M ≤ N → PsP M) : PsS N := by
  intro xs ys A B c d w hn hr hc hr' hd hm hok
  by_cases hl : xs.length = ys.length
  rotate_left
  · have b1 : ((xs.length : Int) == (ys.length : Int)) = false := by simp; omega
    have b2 : ((xs.length : Int) != (ys.length : Int)) = true := by simp; omega
    have b3 : (xs.length == ys.length) = false := by simp; omega
    have b4 : (xs.length != ys.length) = true := by simp; omega
    have HR := Aside0.mk (sames_no (x := xs) (y := ys) (fun e => hl (by rw [e])))
    clear hl hr hr' hP hok hn
    go_enter Try.func26, Try.ntmps26
    go_wp2
    go_ret
    exact ⟨by rw [HR.out]; rfl, Below.refl _ _⟩
  have b1 : ((xs.length : Int) == (ys.length : Int)) = true := by simp; omega
  have b2 : ((xs.length : Int) != (ys.length : Int)) = false := by simp; omega
  have b3 : (xs.length == ys.length) = true := by simp; omega
  have b4 : (xs.length != ys.length) = false := by simp; omega
  have HL := Aside0.mk hl
  have HC := Aside0.mk hr
  have HD := Aside0.mk hr'
  have HN := Aside0.mk hn
  have OK := Aside0.mk hok
  have HP := Aside0.mk hP
  clear hP hn hr hr' hok hc hd hl
  go_enter Try.func26, Try.ntmps26
  go_wp2
  go_loopw [17] (fun v5 wr => ∃ (i : Nat), v5 = .int .i64 i ∧ i ≤ xs.length ∧ Aside0 (sames xs ys = sames (xs.drop i) (ys.drop i)) ∧ Aside0 (Below w.heap.size w wr)) (fun v5 _ => xs.length - (intOf v5).toNat)
  case atStart => exact ⟨0, rfl, Nat.zero_le _, ⟨rfl⟩, ⟨Below.refl _ _⟩⟩
  case round =>
    obtain ⟨i, rfl, hi, HA, HB⟩ := hrel
    by_cases hlt : i < xs.length
    · have hlt' : i < ys.length := by have := HL.out; omega
      obtain ⟨ad, c0, rfl, hcl, hK, hcell⟩ := elem_ (Kd.C_below HC.out HB.out) i hlt
      obtain ⟨bd, d0, rfl, hdl, hK', hdell⟩ := elem_ (Kd.C_below HD.out HB.out) i hlt'
      have hsz := szs39_get hlt
      have CA := Aside0.mk (fun (w' : World) (hK : k39.K w' xs[i] c0.toArray.toList) (hK' : k39.K w' ys[i] d0.toArray.toList) => HP.out (sz39 xs[i]) (by have := HN.out; omega) xs[i] ys[i] c0.toArray d0.toArray w' (Nat.le_refl _) hK hK' (OK.out _ (List.getElem_mem hlt)))
      have HK := Aside0.mk (show k39.K wr xs[i] c0.toArray.toList from hK)
      have HK' := Aside0.mk (show k39.K wr ys[i] d0.toArray.toList from hK')
      have HE := Aside0.mk hcell
      have HE' := Aside0.mk hdell
      have LC := Aside0.mk (show c0.length = 19 from hcl)
      have LD := Aside0.mk (show d0.length = 19 from hdl)
      have GD := Aside0.mk (HA.out.trans (sames_drop xs ys i hlt hlt'))
      obtain ⟨r, hr⟩ : ∃ r, r = same xs[i] ys[i] := ⟨_, rfl⟩
      rw [← hr] at CA GD
      have OC := Aside0.mk (show ∀ q ∈ c0, q.oneCell' = true from k39.K_one hK)
      have OD := Aside0.mk (show ∀ q ∈ d0, q.oneCell' = true from k39.K_one hK')
      clear hsz hK hK' hcell hdell hcl hdl HA hr
      go_wp2_with (first
        | ((with_reducible refine gate_dst (N := 21) rfl ?_); refine load_ 39 (.tmp 20) rfl rfl (ad.add (i * 19)) ?hx c0 _ Try.underlying39 ?hi HE.out ?_; (case hx => first | rfl | (go_simp; done) | (go_simp; rfl)); (case hi => rw [LC.out]; kernel_rfl))
        | ((with_reducible refine gate_dst (N := 8) rfl ?_); refine alloc_ 39 rfl rfl zero39 _ _ info39 ?_; intro g1 hg1 w1 hb1 hB1; have B1 := Aside0.mk hB1; have Y1 := Aside0.mk hb1; have G1 := Aside0.mk (show wr.heap.size ≤ g1 by rw [hg1]; exact Nat.le_refl _); clear hb1 hB1 hg1)
        | ((with_reducible refine gate_ (.store 39 (.tmp 8) (.tmp 21)) rfl ?_); refine storeAll_ 39 (.tmp 8) (.tmp 21) rfl rfl rfl g1 ?hp c0 ?hx2 ?ht OC.out zero39 _ Y1.out ?hf ?_; (case hp => first | rfl | (go_simp; done) | (go_simp; rfl)); (case hx2 => first | rfl | (go_simp; done) | (go_simp; rfl)); (case ht => rw [LC.out]; kernel_rfl); (case hf => rw [LC.out]; rfl); intro w2 hb2 hg2; have Y2 := Aside0.mk hb2; have B2 := Aside0.mk (B1.out.grown hg2 B1.out.size (fun k e => by injection e with e; rw [← e]; exact G1.out)); clear hb2 hg2)
        | ((with_reducible refine gate_dst (N := 25) rfl ?_); refine load_ 39 (.tmp 24) rfl rfl (bd.add (i * 19)) ?hx d0 _ Try.underlying39 ?hi (fun j v h => zhs B2.out (HE'.out j v h)) ?_; (case hx => first | rfl | (go_simp; done) | (go_simp; rfl)); (case hi => rw [LD.out]; kernel_rfl))
        | ((with_reducible refine gate_dst (N := 9) rfl ?_); refine alloc_ 39 rfl rfl zero39 _ _ info39 ?_; intro g3 hg3 w3 hb3 hB3; have B3 := Aside0.mk (below_step B2.out hB3); have Y3 := Aside0.mk hb3; have Z3 := Aside0.mk ((hB3.block g1 (blk_lt Y2.out)).trans Y2.out); have N3 := Aside0.mk (show g1 ≠ g3 by rw [hg3]; exact Nat.ne_of_lt (blk_lt Y2.out)); have G3 := Aside0.mk (show wr.heap.size ≤ g3 by rw [hg3]; exact B2.out.size); clear hb3 hB3 hg3)
        | ((with_reducible refine gate_ (.store 39 (.tmp 9) (.tmp 25)) rfl ?_); refine storeAll_ 39 (.tmp 9) (.tmp 25) rfl rfl rfl g3 ?hp d0 ?hx2 ?ht OD.out zero39 _ Y3.out ?hf ?_; (case hp => first | rfl | (go_simp; done) | (go_simp; rfl)); (case hx2 => first | rfl | (go_simp; done) | (go_simp; rfl)); (case ht => rw [LD.out]; kernel_rfl); (case hf => rw [LD.out]; rfl); intro w4 hb4 hg4; have Y4 := Aside0.mk hb4; have Z4 := Aside0.mk ((hg4.block g1 (blk_lt Z3.out) (fun e => N3.out (by injection e))).trans Z3.out); have B4 := Aside0.mk (B3.out.grown hg4 B3.out.size (fun k e => by injection e with e; rw [← e]; exact G3.out)); clear hb4 hg4)
        | ((with_reducible refine gate_dst (N := 27) rfl ?_); refine loadVar_ 39 (.tmp 8) rfl rfl g1 ?hx c0 _ Try.underlying39 ?hi _ Z4.out ?_; (case hx => first | rfl | (go_simp; done) | (go_simp; rfl)); (case hi => rw [LC.out]; kernel_rfl))
        | ((with_reducible refine gate_dst (N := 28) rfl ?_); refine loadVar_ 39 (.tmp 9) rfl rfl g3 ?hx d0 _ Try.underlying39 ?hi _ Y4.out ?_; (case hx => first | rfl | (go_simp; done) | (go_simp; rfl)); (case hi => rw [LD.out]; kernel_rfl))
        | ((with_reducible refine gate_dst (N := 29) rfl ?_); refine goesLv (some 29) rfl rfl Try.func9 (by kernel_rfl) rfl #[.agg c0.toArray, .agg d0.toArray] #[] rfl ?ht2 ?ha2 ?_; (case ht2 => first | rfl | (go_simp; done) | (go_simp; rfl)); (case ha2 => first | rfl | (go_simp; done) | (go_simp; rfl)); refine (CA.out _ (k39.K_below B4.out HK.out) (k39.K_below B4.out HK'.out)).mono ?_; rintro e w5 ⟨rfl, hB5⟩; refine ⟨_, rfl, ?_⟩; have HB5 := Aside0.mk (below_step HB.out (below_step B4.out hB5)); clear hB5))
      · go_ret
        exact ⟨by rw [GD.out]; have h : (!r) = true := (by assumption); have h2 : r = false := (by simpa using h); rw [h2]; rfl, HB5.out⟩
      · go_roundw
        case rel => exact ⟨i + 1, by go_num, by omega, ⟨by rw [GD.out]; have h : (!r) = false := (by assumption); have h2 : r = true := (by simpa using h); rw [h2]; rfl⟩, HB5⟩
        case measure => simp [intOf]; omega
    · have GE := Aside0.mk (HA.out.trans (sames_end xs ys i (by omega) (by have := HL.out; omega)))
      go_wp2
      go_ret
      exact ⟨by rw [GE.out]; rfl, HB.out⟩
end Pl

end Go.Proofs.Ytlpgnkndjmfcjaa.PFnExactPlanSame
