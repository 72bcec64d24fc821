/- The library's slices.EqualFunc over impl.PlanSame tells whether two rows of plans are the same, if impl.PlanSame does so for each. The program's impl.PlanSame tells whether two plans are the same, for each plan of at most 2^20 parts. A range over a function whose own state lies in cells: its loop's law, over the kit's wpIn_rangeFunc. It holds of every program. Which parts of a plan the program's iterator comes to, in Lean, and steps inside a fence. -/
import Derived.Test.YtlpgnkndjmfcjaaGreatPlTo2
import Derived.RangeFuncNested
import Derived.RangeFuncCalls
import Derived.OwnWalkIn
import Derived.TacticsInMore
import Derived.RangeFuncBound
namespace Go.Proofs.YtlpgnkndjmfcjaaGreat.PFnExactPlanMany
open Go.RowKit Go.Proofs.YtlpgnkndjmfcjaaGreatW.PrintWords Go.Proofs.YtlpgnkndjmfcjaaGreatW.PrintLast Go.Proofs.YtlpgnkndjmfcjaaGreatW.PrintMore
attribute [local go_sem] max2_int min2_int max_two min_two max_three min_three max_four min_four   -- for this text's walks alone
set_option linter.unusedVariables false
set_option linter.unusedSimpArgs false
namespace Pl
section
variable {P : Program} {ops : Array Oper} {rest : List Oper} {o : Oper} {a : Act} {Q : Exit → Act → World → Prop}
/-- A whole struct is stored into a variable of its type. -/
theorem storeAll_ {W : World} (t : TypeId) (p x : Operand) (ho : o.op = .store t p x) (hd : o.dst = none) (hgd : o.guard = none) (g : Nat) (hp : a.eval p = .pointer (some ⟨g, 0, none⟩)) (seg : List Value) (hx : a.eval x = .agg seg.toArray)
    (ht : (P.info? t).map (·.size) = some seg.length) (h1 : ∀ q ∈ seg, q.oneCell' = true) (cur : List Value) (e : TypeId) (hh : W.heap[g]? = some (.cells cur.toArray e (0, 0))) (hfit : seg.length = cur.length)
    (h : ∀ w1, w1.heap[g]? = some (.cells seg.toArray e (0, 0)) → W.grownBy w1 (some g) → wpList P ops Q rest a w1) : wpList P ops Q (o :: rest) a W :=
  store_ t p x ho hd hgd g 0 hp (.agg seg.toArray) hx seg rfl ht h1 cur e hh (by omega) (fun w1 hb hg => h w1 (by
    have e : cur.take 0 ++ seg ++ cur.drop (0 + seg.length) = seg := by rw [List.take_zero, List.nil_append, List.drop_of_length_le (by omega), List.append_nil]
    rw [e] at hb; exact hb) hg)
/-- A struct in a variable is loaded whole. -/
theorem loadVar_ {W : World} (ty : TypeId) (x : Operand) (ho : o.op = .load ty x) (hgd : o.guard = none) (g : Nat) (hx : a.eval x = .pointer (some ⟨g, 0, none⟩)) (cs : List Value) (fs : Array Field) (hu : P.underlying ty = some (.struct fs)) (hi : (P.info? ty).map (·.size) = some cs.length)
    (e : TypeId) (hh : W.heap[g]? = some (.cells cs.toArray e (0, 0))) (h : wpList P ops Q rest (a.put o.dst (.agg cs.toArray)) W) : wpList P ops Q (o :: rest) a W :=
  load_ ty x ho hgd ⟨g, 0, none⟩ hx cs fs hu hi (sub_ hh [] cs [] (by simp)) h
end
def zero39 : List Value := [.int .i64 0, .int .i64 0, .int .i64 0, .bool false, .int .i64 0, .int .i64 0, .int .i64 0, .int .i64 0, .int .i64 0, .int .i64 0, .int .i64 0, .int .i64 0, .slice none 0 0, .int .i64 0, .int .i64 0, .slice none 0 0, .int .i64 0, .int .i64 0, .slice none 0 0]
def PsS (N : Nat) : Prop := ∀ (xs ys : List (S39)) (A B : Option Addr) (c d : Nat) (w : World), szs39 xs ≤ N → Kd.C k39 w A xs.length xs → xs.length ≤ c → Kd.C k39 w B ys.length ys → ys.length ≤ d → xs.length ≤ 1048576 → (∀ y ∈ xs, Small39 y) →
  Calls Tryz.prog 66 #[.slice A xs.length c, .slice B ys.length d, .func (.func 58) #[] #[]] w fun e w' => e = .returned (.bool (sames xs ys)) ∧ Below w.heap.size w w'
def PsP (N : Nat) : Prop := ∀ (x y : S39) (ca cb : Array Value) (w : World), sz39 x ≤ N → k39.K w x ca.toList → k39.K w y cb.toList → Small39 x →
  Calls Tryz.prog 58 #[.agg ca, .agg cb] w fun e w' => e = .returned (.bool (same x y)) ∧ Below w.heap.size w w'
set_option maxHeartbeats 8000000 in
set_option maxRecDepth 100000 in
theorem equalFunc_step (N : Nat) (hP : ∀ M, M ≤ N → PsP M) : PsS N := by
  intro xs ys A B c d w hn hr hc hr' hd hm hok
  by_cases hl : xs.length = ys.length
  rotate_left
  · have b1 : ((xs.length : Int) == (ys.length : Int)) = false := by simp; omega
    have b2 : ((xs.length : Int) != (ys.length : Int)) = true := by simp; omega
    have b3 : (xs.length == ys.length) = false := by simp; omega
    have b4 : (xs.length != ys.length) = true := by simp; omega
    have HR := Aside0.mk (sames_no (x := xs) (y := ys) (fun e => hl (by rw [e])))
    clear hl hr hr' hP hok hn
    go_enter Tryz.func66, Tryz.ntmps66
    go_wp2
    go_ret
    exact ⟨by rw [HR.out]; rfl, Below.refl _ _⟩
  have b1 : ((xs.length : Int) == (ys.length : Int)) = true := by simp; omega
  have b2 : ((xs.length : Int) != (ys.length : Int)) = false := by simp; omega
  have b3 : (xs.length == ys.length) = true := by simp; omega
  have b4 : (xs.length != ys.length) = false := by simp; omega
  have HL := Aside0.mk hl
  have HC := Aside0.mk hr
  have HD := Aside0.mk hr'
  have HN := Aside0.mk hn
  have OK := Aside0.mk hok
  have HP := Aside0.mk hP
  clear hP hn hr hr' hok hc hd hl
  go_enter Tryz.func66, Tryz.ntmps66
  go_wp2
  go_loopw [17] (fun v5 wr => ∃ (i : Nat), v5 = .int .i64 i ∧ i ≤ xs.length ∧ Aside0 (sames xs ys = sames (xs.drop i) (ys.drop i)) ∧ Aside0 (Below w.heap.size w wr)) (fun v5 _ => xs.length - (intOf v5).toNat)
  case atStart => exact ⟨0, rfl, Nat.zero_le _, ⟨rfl⟩, ⟨Below.refl _ _⟩⟩
  case round =>
    obtain ⟨i, rfl, hi, HA, HB⟩ := hrel
    by_cases hlt : i < xs.length
    · have hlt' : i < ys.length := by have := HL.out; omega
      obtain ⟨ad, c0, rfl, hcl, hK, hcell⟩ := elem_ (Kd.C_below HC.out HB.out) i hlt
      obtain ⟨bd, d0, rfl, hdl, hK', hdell⟩ := elem_ (Kd.C_below HD.out HB.out) i hlt'
      have hsz := szs39_get hlt
      have CA := Aside0.mk (fun (w' : World) (hK : k39.K w' xs[i] c0.toArray.toList) (hK' : k39.K w' ys[i] d0.toArray.toList) => HP.out (sz39 xs[i]) (by have := HN.out; omega) xs[i] ys[i] c0.toArray d0.toArray w' (Nat.le_refl _) hK hK' (OK.out _ (List.getElem_mem hlt)))
      have HK := Aside0.mk (show k39.K wr xs[i] c0.toArray.toList from hK)
      have HK' := Aside0.mk (show k39.K wr ys[i] d0.toArray.toList from hK')
      have HE := Aside0.mk hcell
      have HE' := Aside0.mk hdell
      have LC := Aside0.mk (show c0.length = 19 from hcl)
      have LD := Aside0.mk (show d0.length = 19 from hdl)
      have GD := Aside0.mk (HA.out.trans (sames_drop xs ys i hlt hlt'))
      obtain ⟨r, hr⟩ : ∃ r, r = same xs[i] ys[i] := ⟨_, rfl⟩
      rw [← hr] at CA GD
      have OC := Aside0.mk (show ∀ q ∈ c0, q.oneCell' = true from k39.K_one hK)
      have OD := Aside0.mk (show ∀ q ∈ d0, q.oneCell' = true from k39.K_one hK')
      clear hsz hK hK' hcell hdell hcl hdl HA hr
      go_wp2_with (first
        | ((with_reducible refine gate_dst (N := 21) rfl ?_); refine load_ 39 (.tmp 20) rfl rfl (ad.add (i * 19)) ?hx c0 _ Tryz.underlying39 ?hi HE.out ?_; (case hx => first | rfl | (go_simp; done) | (go_simp; rfl)); (case hi => rw [LC.out]; kernel_rfl))
        | ((with_reducible refine gate_dst (N := 8) rfl ?_); refine alloc_ 39 rfl rfl zero39 _ _ info39 ?_; intro g1 hg1 w1 hb1 hB1; have B1 := Aside0.mk hB1; have Y1 := Aside0.mk hb1; have G1 := Aside0.mk (show wr.heap.size ≤ g1 by rw [hg1]; exact Nat.le_refl _); clear hb1 hB1 hg1)
        | ((with_reducible refine gate_ (.store 39 (.tmp 8) (.tmp 21)) rfl ?_); refine storeAll_ 39 (.tmp 8) (.tmp 21) rfl rfl rfl g1 ?hp c0 ?hx2 ?ht OC.out zero39 _ Y1.out ?hf ?_; (case hp => first | rfl | (go_simp; done) | (go_simp; rfl)); (case hx2 => first | rfl | (go_simp; done) | (go_simp; rfl)); (case ht => rw [LC.out]; kernel_rfl); (case hf => rw [LC.out]; rfl); intro w2 hb2 hg2; have Y2 := Aside0.mk hb2; have B2 := Aside0.mk (B1.out.grown hg2 B1.out.size (fun k e => by injection e with e; rw [← e]; exact G1.out)); clear hb2 hg2)
        | ((with_reducible refine gate_dst (N := 25) rfl ?_); refine load_ 39 (.tmp 24) rfl rfl (bd.add (i * 19)) ?hx d0 _ Tryz.underlying39 ?hi (fun j v h => zhs B2.out (HE'.out j v h)) ?_; (case hx => first | rfl | (go_simp; done) | (go_simp; rfl)); (case hi => rw [LD.out]; kernel_rfl))
        | ((with_reducible refine gate_dst (N := 9) rfl ?_); refine alloc_ 39 rfl rfl zero39 _ _ info39 ?_; intro g3 hg3 w3 hb3 hB3; have B3 := Aside0.mk (below_step B2.out hB3); have Y3 := Aside0.mk hb3; have Z3 := Aside0.mk ((hB3.block g1 (blk_lt Y2.out)).trans Y2.out); have N3 := Aside0.mk (show g1 ≠ g3 by rw [hg3]; exact Nat.ne_of_lt (blk_lt Y2.out)); have G3 := Aside0.mk (show wr.heap.size ≤ g3 by rw [hg3]; exact B2.out.size); clear hb3 hB3 hg3)
        | ((with_reducible refine gate_ (.store 39 (.tmp 9) (.tmp 25)) rfl ?_); refine storeAll_ 39 (.tmp 9) (.tmp 25) rfl rfl rfl g3 ?hp d0 ?hx2 ?ht OD.out zero39 _ Y3.out ?hf ?_; (case hp => first | rfl | (go_simp; done) | (go_simp; rfl)); (case hx2 => first | rfl | (go_simp; done) | (go_simp; rfl)); (case ht => rw [LD.out]; kernel_rfl); (case hf => rw [LD.out]; rfl); intro w4 hb4 hg4; have Y4 := Aside0.mk hb4; have Z4 := Aside0.mk ((hg4.block g1 (blk_lt Z3.out) (fun e => N3.out (by injection e))).trans Z3.out); have B4 := Aside0.mk (B3.out.grown hg4 B3.out.size (fun k e => by injection e with e; rw [← e]; exact G3.out)); clear hb4 hg4)
        | ((with_reducible refine gate_dst (N := 27) rfl ?_); refine loadVar_ 39 (.tmp 8) rfl rfl g1 ?hx c0 _ Tryz.underlying39 ?hi _ Z4.out ?_; (case hx => first | rfl | (go_simp; done) | (go_simp; rfl)); (case hi => rw [LC.out]; kernel_rfl))
        | ((with_reducible refine gate_dst (N := 28) rfl ?_); refine loadVar_ 39 (.tmp 9) rfl rfl g3 ?hx d0 _ Tryz.underlying39 ?hi _ Y4.out ?_; (case hx => first | rfl | (go_simp; done) | (go_simp; rfl)); (case hi => rw [LD.out]; kernel_rfl))
        | ((with_reducible refine gate_dst (N := 29) rfl ?_); refine goesLv (some 29) rfl rfl Tryz.func58 (by kernel_rfl) rfl #[.agg c0.toArray, .agg d0.toArray] #[] rfl ?ht2 ?ha2 ?_; (case ht2 => first | rfl | (go_simp; done) | (go_simp; rfl)); (case ha2 => first | rfl | (go_simp; done) | (go_simp; rfl)); refine (CA.out _ (k39.K_below B4.out HK.out) (k39.K_below B4.out HK'.out)).mono ?_; rintro e w5 ⟨rfl, hB5⟩; refine ⟨_, rfl, ?_⟩; have HB5 := Aside0.mk (below_step HB.out (below_step B4.out hB5)); clear hB5))
      · go_ret
        exact ⟨by rw [GD.out]; have h : (!r) = true := (by assumption); have h2 : r = false := (by simpa using h); rw [h2]; rfl, HB5.out⟩
      · go_roundw
        case rel => exact ⟨i + 1, by go_num, by omega, ⟨by rw [GD.out]; have h : (!r) = false := (by assumption); have h2 : r = true := (by simpa using h); rw [h2]; rfl⟩, HB5⟩
        case measure => simp [intOf]; omega
    · have GE := Aside0.mk (HA.out.trans (sames_end xs ys i (by omega) (by have := HL.out; omega)))
      go_wp2
      go_ret
      exact ⟨by rw [GE.out]; rfl, HB.out⟩
end Pl
section
attribute [local go_sem high] Pl.eqT
namespace Pl
set_option maxHeartbeats 16000000 in
set_option maxRecDepth 100000 in
theorem planSame_step (N : Nat) (hS : PsS N) : PsP (N + 1) := by
  intro x y ca cb w hn hK hK' hok
  have hkids : szs39 x.f9 ≤ N := by have := sz39_kids x; omega
  obtain ⟨A12, c12, A15, c15, A18, c18, hca, l12, g12, l15, g15, l18, g18⟩ := k39_open hK
  obtain ⟨B12, d12, B15, d15, B18, d18, hcb, m12, j12, m15, j15, m18, j18⟩ := k39_open hK'
  have a0 : ca[0]? = some (.int .i64 x.f0) := by rw [← Array.getElem?_toList, hca]; rfl
  have a1 : ca[1]? = some (.int .i64 x.f1) := by rw [← Array.getElem?_toList, hca]; rfl
  have a12 : ca[12]? = some (.slice A12 x.f3.length c12) := by rw [← Array.getElem?_toList, hca]; rfl
  have a13 : ca[13]? = some (.int .i64 x.f4) := by rw [← Array.getElem?_toList, hca]; rfl
  have a14 : ca[14]? = some (.int .i64 x.f5) := by rw [← Array.getElem?_toList, hca]; rfl
  have a15 : ca[15]? = some (.slice A15 x.f6.length c15) := by rw [← Array.getElem?_toList, hca]; rfl
  have a16 : ca[16]? = some (.int .i64 x.f7) := by rw [← Array.getElem?_toList, hca]; rfl
  have a17 : ca[17]? = some (.int .i64 x.f8) := by rw [← Array.getElem?_toList, hca]; rfl
  have a18 : ca[18]? = some (.slice A18 x.f9.length c18) := by rw [← Array.getElem?_toList, hca]; rfl
  have HA := Aside0.mk (show ca.toList = [.int .i64 x.f0, .int .i64 x.f1] ++ (testCells x.f2 ++ [.slice A12 x.f3.length c12, .int .i64 x.f4, .int .i64 x.f5, .slice A15 x.f6.length c15, .int .i64 x.f7, .int .i64 x.f8, .slice A18 x.f9.length c18]) from hca)
  have b0 : cb[0]? = some (.int .i64 y.f0) := by rw [← Array.getElem?_toList, hcb]; rfl
  have b1 : cb[1]? = some (.int .i64 y.f1) := by rw [← Array.getElem?_toList, hcb]; rfl
  have b12 : cb[12]? = some (.slice B12 y.f3.length d12) := by rw [← Array.getElem?_toList, hcb]; rfl
  have b13 : cb[13]? = some (.int .i64 y.f4) := by rw [← Array.getElem?_toList, hcb]; rfl
  have b14 : cb[14]? = some (.int .i64 y.f5) := by rw [← Array.getElem?_toList, hcb]; rfl
  have b15 : cb[15]? = some (.slice B15 y.f6.length d15) := by rw [← Array.getElem?_toList, hcb]; rfl
  have b16 : cb[16]? = some (.int .i64 y.f7) := by rw [← Array.getElem?_toList, hcb]; rfl
  have b17 : cb[17]? = some (.int .i64 y.f8) := by rw [← Array.getElem?_toList, hcb]; rfl
  have b18 : cb[18]? = some (.slice B18 y.f9.length d18) := by rw [← Array.getElem?_toList, hcb]; rfl
  have HB := Aside0.mk (show cb.toList = [.int .i64 y.f0, .int .i64 y.f1] ++ (testCells y.f2 ++ [.slice B12 y.f3.length d12, .int .i64 y.f4, .int .i64 y.f5, .slice B15 y.f6.length d15, .int .i64 y.f7, .int .i64 y.f8, .slice B18 y.f9.length d18]) from hcb)
  have ok := hok.out
  have C12 := Aside0.mk (fun w hr hr' => equalC_c A12 c12 x.f3 B12 d12 y.f3 w ok.1 hr l12 hr' m12)
  have C15 := Aside0.mk (fun w hr hr' => equalI_c A15 c15 x.f6 B15 d15 y.f6 w ok.2.1 hr l15 hr' m15)
  have C18 := Aside0.mk (fun w hr hr' => hS x.f9 y.f9 A18 B18 c18 d18 w hkids hr l18 hr' m18 ok.2.2.1 ok.2.2.2)
  have G12 := Aside0.mk g12
  have G15 := Aside0.mk g15
  have G18 := Aside0.mk g18
  have J12 := Aside0.mk j12
  have J15 := Aside0.mk j15
  have J18 := Aside0.mk j18
  have T0 := Aside0.mk (Below.refl w.heap.size w)
  have KIDS := Aside0.mk (@same_kids x y)
  have NO := Aside0.mk (@same_no x y)
  clear hS l12 l15 l18 g12 g15 g18 m12 m15 m18 j12 j15 j18 ok hok hca hcb hK hK' hkids hn
  by_cases h_f0 : x.f0 = y.f0
  rotate_left
  · have q_f0 : (x.f0 == y.f0) = false := by simpa using h_f0
    have NN := Aside0.mk (NO.out (fun e => h_f0 (by rw [e])))
    clear h_f0 KIDS NO
    go_enter Tryz.func58, Tryz.ntmps58
    go_wp2_with (first
      | ((with_reducible refine gate_dst (N := 2) rfl ?_); refine box_ 39 (.tmp 0) rfl rfl ca rfl ?_; intro ga hga w1 hb1 hB1; have B1 := Aside0.mk (below_step T0.out hB1); have X1 := Aside0.mk hb1; clear hb1 hB1 hga T0)
      | ((with_reducible refine gate_dst (N := 3) rfl ?_); refine box_ 39 (.tmp 1) rfl rfl cb rfl ?_; intro gb hgb w2 hb2 hB2; have E := Aside0.mk (show ES w ga gb ca cb w2 from ⟨(hB2.block ga (blk_lt X1.out)).trans X1.out, hb2, below_step B1.out hB2⟩); have qa := E.out.cellA; have qb := E.out.cellB; clear hb2 hB2 hgb B1 X1))
    go_ret
    exact ⟨by rw [NN.out]; rfl, E.out.bel⟩
  have q_f0 : (x.f0 == y.f0) = true := by simpa using h_f0
  have e_f0 := Aside0.mk h_f0
  clear h_f0
  by_cases h_f1 : x.f1 = y.f1
  rotate_left
  · have q_f1 : (x.f1 == y.f1) = false := by simpa using h_f1
    have NN := Aside0.mk (NO.out (fun e => h_f1 (by rw [e])))
    clear h_f1 KIDS NO
    go_enter Tryz.func58, Tryz.ntmps58
    go_wp2_with (first
      | ((with_reducible refine gate_dst (N := 2) rfl ?_); refine box_ 39 (.tmp 0) rfl rfl ca rfl ?_; intro ga hga w1 hb1 hB1; have B1 := Aside0.mk (below_step T0.out hB1); have X1 := Aside0.mk hb1; clear hb1 hB1 hga T0)
      | ((with_reducible refine gate_dst (N := 3) rfl ?_); refine box_ 39 (.tmp 1) rfl rfl cb rfl ?_; intro gb hgb w2 hb2 hB2; have E := Aside0.mk (show ES w ga gb ca cb w2 from ⟨(hB2.block ga (blk_lt X1.out)).trans X1.out, hb2, below_step B1.out hB2⟩); have qa := E.out.cellA; have qb := E.out.cellB; clear hb2 hB2 hgb B1 X1))
    go_ret
    exact ⟨by rw [NN.out]; rfl, E.out.bel⟩
  have q_f1 : (x.f1 == y.f1) = true := by simpa using h_f1
  have e_f1 := Aside0.mk h_f1
  clear h_f1
  by_cases h_f2 : x.f2 = y.f2
  rotate_left
  · have q_f2 : decide (x.f2 = y.f2) = false := by simpa using h_f2
    have NN := Aside0.mk (NO.out (fun e => h_f2 (by rw [e])))
    clear h_f2 KIDS NO
    go_enter Tryz.func58, Tryz.ntmps58
    go_wp2_with (first
      | ((with_reducible refine gate_dst (N := 2) rfl ?_); refine box_ 39 (.tmp 0) rfl rfl ca rfl ?_; intro ga hga w1 hb1 hB1; have B1 := Aside0.mk (below_step T0.out hB1); have X1 := Aside0.mk hb1; clear hb1 hB1 hga T0)
      | ((with_reducible refine gate_dst (N := 3) rfl ?_); refine box_ 39 (.tmp 1) rfl rfl cb rfl ?_; intro gb hgb w2 hb2 hB2; have E := Aside0.mk (show ES w ga gb ca cb w2 from ⟨(hB2.block ga (blk_lt X1.out)).trans X1.out, hb2, below_step B1.out hB2⟩); have qa := E.out.cellA; have qb := E.out.cellB; clear hb2 hB2 hgb B1 X1)
      | ((with_reducible refine gate_dst (N := 20) rfl ?_); refine loadW_ 35 (.tmp 19) rfl ?hw ⟨ga, 2, none⟩ ?hx (testCells x.f2) _ Tryz.underlying35 ?hi (sub_ E.out.hA _ _ _ HA.out) ?_; (case hw => first | rfl | (simp [Region.wanted, yielded]; done)); (case hx => first | rfl | (go_simp; done) | (go_simp; rfl)); (case hi => kernel_rfl))
      | ((with_reducible refine gate_dst (N := 22) rfl ?_); refine loadW_ 35 (.tmp 21) rfl ?hw ⟨gb, 2, none⟩ ?hx (testCells y.f2) _ Tryz.underlying35 ?hi (sub_ E.out.hB _ _ _ HB.out) ?_; (case hw => first | rfl | (simp [Region.wanted, yielded]; done)); (case hx => first | rfl | (go_simp; done) | (go_simp; rfl)); (case hi => kernel_rfl)))
    go_ret
    exact ⟨by rw [NN.out]; rfl, E.out.bel⟩
  have q_f2 : decide (x.f2 = y.f2) = true := by simpa using h_f2
  have e_f2 := Aside0.mk h_f2
  clear h_f2
  by_cases h_f4 : x.f4 = y.f4
  rotate_left
  · have q_f4 : (x.f4 == y.f4) = false := by simpa using h_f4
    have NN := Aside0.mk (NO.out (fun e => h_f4 (by rw [e])))
    clear h_f4 KIDS NO
    go_enter Tryz.func58, Tryz.ntmps58
    go_wp2_with (first
      | ((with_reducible refine gate_dst (N := 2) rfl ?_); refine box_ 39 (.tmp 0) rfl rfl ca rfl ?_; intro ga hga w1 hb1 hB1; have B1 := Aside0.mk (below_step T0.out hB1); have X1 := Aside0.mk hb1; clear hb1 hB1 hga T0)
      | ((with_reducible refine gate_dst (N := 3) rfl ?_); refine box_ 39 (.tmp 1) rfl rfl cb rfl ?_; intro gb hgb w2 hb2 hB2; have E := Aside0.mk (show ES w ga gb ca cb w2 from ⟨(hB2.block ga (blk_lt X1.out)).trans X1.out, hb2, below_step B1.out hB2⟩); have qa := E.out.cellA; have qb := E.out.cellB; clear hb2 hB2 hgb B1 X1)
      | ((with_reducible refine gate_dst (N := 20) rfl ?_); refine loadW_ 35 (.tmp 19) rfl ?hw ⟨ga, 2, none⟩ ?hx (testCells x.f2) _ Tryz.underlying35 ?hi (sub_ E.out.hA _ _ _ HA.out) ?_; (case hw => first | rfl | (simp [Region.wanted, yielded]; done)); (case hx => first | rfl | (go_simp; done) | (go_simp; rfl)); (case hi => kernel_rfl))
      | ((with_reducible refine gate_dst (N := 22) rfl ?_); refine loadW_ 35 (.tmp 21) rfl ?hw ⟨gb, 2, none⟩ ?hx (testCells y.f2) _ Tryz.underlying35 ?hi (sub_ E.out.hB _ _ _ HB.out) ?_; (case hw => first | rfl | (simp [Region.wanted, yielded]; done)); (case hx => first | rfl | (go_simp; done) | (go_simp; rfl)); (case hi => kernel_rfl)))
    go_ret
    exact ⟨by rw [NN.out]; rfl, E.out.bel⟩
  have q_f4 : (x.f4 == y.f4) = true := by simpa using h_f4
  have e_f4 := Aside0.mk h_f4
  clear h_f4
  by_cases h_f5 : x.f5 = y.f5
  rotate_left
  · have q_f5 : (x.f5 == y.f5) = false := by simpa using h_f5
    have NN := Aside0.mk (NO.out (fun e => h_f5 (by rw [e])))
    clear h_f5 KIDS NO
    go_enter Tryz.func58, Tryz.ntmps58
    go_wp2_with (first
      | ((with_reducible refine gate_dst (N := 2) rfl ?_); refine box_ 39 (.tmp 0) rfl rfl ca rfl ?_; intro ga hga w1 hb1 hB1; have B1 := Aside0.mk (below_step T0.out hB1); have X1 := Aside0.mk hb1; clear hb1 hB1 hga T0)
      | ((with_reducible refine gate_dst (N := 3) rfl ?_); refine box_ 39 (.tmp 1) rfl rfl cb rfl ?_; intro gb hgb w2 hb2 hB2; have E := Aside0.mk (show ES w ga gb ca cb w2 from ⟨(hB2.block ga (blk_lt X1.out)).trans X1.out, hb2, below_step B1.out hB2⟩); have qa := E.out.cellA; have qb := E.out.cellB; clear hb2 hB2 hgb B1 X1)
      | ((with_reducible refine gate_dst (N := 20) rfl ?_); refine loadW_ 35 (.tmp 19) rfl ?hw ⟨ga, 2, none⟩ ?hx (testCells x.f2) _ Tryz.underlying35 ?hi (sub_ E.out.hA _ _ _ HA.out) ?_; (case hw => first | rfl | (simp [Region.wanted, yielded]; done)); (case hx => first | rfl | (go_simp; done) | (go_simp; rfl)); (case hi => kernel_rfl))
      | ((with_reducible refine gate_dst (N := 22) rfl ?_); refine loadW_ 35 (.tmp 21) rfl ?hw ⟨gb, 2, none⟩ ?hx (testCells y.f2) _ Tryz.underlying35 ?hi (sub_ E.out.hB _ _ _ HB.out) ?_; (case hw => first | rfl | (simp [Region.wanted, yielded]; done)); (case hx => first | rfl | (go_simp; done) | (go_simp; rfl)); (case hi => kernel_rfl)))
    go_ret
    exact ⟨by rw [NN.out]; rfl, E.out.bel⟩
  have q_f5 : (x.f5 == y.f5) = true := by simpa using h_f5
  have e_f5 := Aside0.mk h_f5
  clear h_f5
  by_cases h_f7 : x.f7 = y.f7
  rotate_left
  · have q_f7 : (x.f7 == y.f7) = false := by simpa using h_f7
    have NN := Aside0.mk (NO.out (fun e => h_f7 (by rw [e])))
    clear h_f7 KIDS NO
    go_enter Tryz.func58, Tryz.ntmps58
    go_wp2_with (first
      | ((with_reducible refine gate_dst (N := 2) rfl ?_); refine box_ 39 (.tmp 0) rfl rfl ca rfl ?_; intro ga hga w1 hb1 hB1; have B1 := Aside0.mk (below_step T0.out hB1); have X1 := Aside0.mk hb1; clear hb1 hB1 hga T0)
      | ((with_reducible refine gate_dst (N := 3) rfl ?_); refine box_ 39 (.tmp 1) rfl rfl cb rfl ?_; intro gb hgb w2 hb2 hB2; have E := Aside0.mk (show ES w ga gb ca cb w2 from ⟨(hB2.block ga (blk_lt X1.out)).trans X1.out, hb2, below_step B1.out hB2⟩); have qa := E.out.cellA; have qb := E.out.cellB; clear hb2 hB2 hgb B1 X1)
      | ((with_reducible refine gate_dst (N := 20) rfl ?_); refine loadW_ 35 (.tmp 19) rfl ?hw ⟨ga, 2, none⟩ ?hx (testCells x.f2) _ Tryz.underlying35 ?hi (sub_ E.out.hA _ _ _ HA.out) ?_; (case hw => first | rfl | (simp [Region.wanted, yielded]; done)); (case hx => first | rfl | (go_simp; done) | (go_simp; rfl)); (case hi => kernel_rfl))
      | ((with_reducible refine gate_dst (N := 22) rfl ?_); refine loadW_ 35 (.tmp 21) rfl ?hw ⟨gb, 2, none⟩ ?hx (testCells y.f2) _ Tryz.underlying35 ?hi (sub_ E.out.hB _ _ _ HB.out) ?_; (case hw => first | rfl | (simp [Region.wanted, yielded]; done)); (case hx => first | rfl | (go_simp; done) | (go_simp; rfl)); (case hi => kernel_rfl)))
    go_ret
    exact ⟨by rw [NN.out]; rfl, E.out.bel⟩
  have q_f7 : (x.f7 == y.f7) = true := by simpa using h_f7
  have e_f7 := Aside0.mk h_f7
  clear h_f7
  by_cases h_f8 : x.f8 = y.f8
  rotate_left
  · have q_f8 : (x.f8 == y.f8) = false := by simpa using h_f8
    have NN := Aside0.mk (NO.out (fun e => h_f8 (by rw [e])))
    clear h_f8 KIDS NO
    go_enter Tryz.func58, Tryz.ntmps58
    go_wp2_with (first
      | ((with_reducible refine gate_dst (N := 2) rfl ?_); refine box_ 39 (.tmp 0) rfl rfl ca rfl ?_; intro ga hga w1 hb1 hB1; have B1 := Aside0.mk (below_step T0.out hB1); have X1 := Aside0.mk hb1; clear hb1 hB1 hga T0)
      | ((with_reducible refine gate_dst (N := 3) rfl ?_); refine box_ 39 (.tmp 1) rfl rfl cb rfl ?_; intro gb hgb w2 hb2 hB2; have E := Aside0.mk (show ES w ga gb ca cb w2 from ⟨(hB2.block ga (blk_lt X1.out)).trans X1.out, hb2, below_step B1.out hB2⟩); have qa := E.out.cellA; have qb := E.out.cellB; clear hb2 hB2 hgb B1 X1)
      | ((with_reducible refine gate_dst (N := 20) rfl ?_); refine loadW_ 35 (.tmp 19) rfl ?hw ⟨ga, 2, none⟩ ?hx (testCells x.f2) _ Tryz.underlying35 ?hi (sub_ E.out.hA _ _ _ HA.out) ?_; (case hw => first | rfl | (simp [Region.wanted, yielded]; done)); (case hx => first | rfl | (go_simp; done) | (go_simp; rfl)); (case hi => kernel_rfl))
      | ((with_reducible refine gate_dst (N := 22) rfl ?_); refine loadW_ 35 (.tmp 21) rfl ?hw ⟨gb, 2, none⟩ ?hx (testCells y.f2) _ Tryz.underlying35 ?hi (sub_ E.out.hB _ _ _ HB.out) ?_; (case hw => first | rfl | (simp [Region.wanted, yielded]; done)); (case hx => first | rfl | (go_simp; done) | (go_simp; rfl)); (case hi => kernel_rfl)))
    go_ret
    exact ⟨by rw [NN.out]; rfl, E.out.bel⟩
  have q_f8 : (x.f8 == y.f8) = true := by simpa using h_f8
  have e_f8 := Aside0.mk h_f8
  clear h_f8
  by_cases h_f3 : x.f3 = y.f3
  rotate_left
  · have q_f3 : decide (x.f3 = y.f3) = false := by simpa using h_f3
    have NN := Aside0.mk (NO.out (fun e => h_f3 (by rw [e])))
    clear h_f3 KIDS NO
    go_enter Tryz.func58, Tryz.ntmps58
    go_wp2_with (first
      | ((with_reducible refine gate_dst (N := 2) rfl ?_); refine box_ 39 (.tmp 0) rfl rfl ca rfl ?_; intro ga hga w1 hb1 hB1; have B1 := Aside0.mk (below_step T0.out hB1); have X1 := Aside0.mk hb1; clear hb1 hB1 hga T0)
      | ((with_reducible refine gate_dst (N := 3) rfl ?_); refine box_ 39 (.tmp 1) rfl rfl cb rfl ?_; intro gb hgb w2 hb2 hB2; have E := Aside0.mk (show ES w ga gb ca cb w2 from ⟨(hB2.block ga (blk_lt X1.out)).trans X1.out, hb2, below_step B1.out hB2⟩); have qa := E.out.cellA; have qb := E.out.cellB; clear hb2 hB2 hgb B1 X1)
      | ((with_reducible refine gate_dst (N := 20) rfl ?_); refine loadW_ 35 (.tmp 19) rfl ?hw ⟨ga, 2, none⟩ ?hx (testCells x.f2) _ Tryz.underlying35 ?hi (sub_ E.out.hA _ _ _ HA.out) ?_; (case hw => first | rfl | (simp [Region.wanted, yielded]; done)); (case hx => first | rfl | (go_simp; done) | (go_simp; rfl)); (case hi => kernel_rfl))
      | ((with_reducible refine gate_dst (N := 22) rfl ?_); refine loadW_ 35 (.tmp 21) rfl ?hw ⟨gb, 2, none⟩ ?hx (testCells y.f2) _ Tryz.underlying35 ?hi (sub_ E.out.hB _ _ _ HB.out) ?_; (case hw => first | rfl | (simp [Region.wanted, yielded]; done)); (case hx => first | rfl | (go_simp; done) | (go_simp; rfl)); (case hi => kernel_rfl))
      | (go_at_call 64; refine (C12.out _ (Kd.C_below G12.out E.out.bel) (Kd.C_below J12.out E.out.bel)).mono ?_; rintro e w3 ⟨rfl, hB⟩; have E2 := Aside0.mk (E.out.call hB); clear qa qb E; have E := E2; have qa := E.out.cellA; have qb := E.out.cellB; clear hB E2))
    go_ret
    exact ⟨by rw [NN.out]; rfl, E.out.bel⟩
  have q_f3 : decide (x.f3 = y.f3) = true := by simpa using h_f3
  have e_f3 := Aside0.mk h_f3
  clear h_f3
  by_cases h_f6 : x.f6 = y.f6
  rotate_left
  · have q_f6 : decide (x.f6 = y.f6) = false := by simpa using h_f6
    have NN := Aside0.mk (NO.out (fun e => h_f6 (by rw [e])))
    clear h_f6 KIDS NO
    go_enter Tryz.func58, Tryz.ntmps58
    go_wp2_with (first
      | ((with_reducible refine gate_dst (N := 2) rfl ?_); refine box_ 39 (.tmp 0) rfl rfl ca rfl ?_; intro ga hga w1 hb1 hB1; have B1 := Aside0.mk (below_step T0.out hB1); have X1 := Aside0.mk hb1; clear hb1 hB1 hga T0)
      | ((with_reducible refine gate_dst (N := 3) rfl ?_); refine box_ 39 (.tmp 1) rfl rfl cb rfl ?_; intro gb hgb w2 hb2 hB2; have E := Aside0.mk (show ES w ga gb ca cb w2 from ⟨(hB2.block ga (blk_lt X1.out)).trans X1.out, hb2, below_step B1.out hB2⟩); have qa := E.out.cellA; have qb := E.out.cellB; clear hb2 hB2 hgb B1 X1)
      | ((with_reducible refine gate_dst (N := 20) rfl ?_); refine loadW_ 35 (.tmp 19) rfl ?hw ⟨ga, 2, none⟩ ?hx (testCells x.f2) _ Tryz.underlying35 ?hi (sub_ E.out.hA _ _ _ HA.out) ?_; (case hw => first | rfl | (simp [Region.wanted, yielded]; done)); (case hx => first | rfl | (go_simp; done) | (go_simp; rfl)); (case hi => kernel_rfl))
      | ((with_reducible refine gate_dst (N := 22) rfl ?_); refine loadW_ 35 (.tmp 21) rfl ?hw ⟨gb, 2, none⟩ ?hx (testCells y.f2) _ Tryz.underlying35 ?hi (sub_ E.out.hB _ _ _ HB.out) ?_; (case hw => first | rfl | (simp [Region.wanted, yielded]; done)); (case hx => first | rfl | (go_simp; done) | (go_simp; rfl)); (case hi => kernel_rfl))
      | (go_at_call 64; refine (C12.out _ (Kd.C_below G12.out E.out.bel) (Kd.C_below J12.out E.out.bel)).mono ?_; rintro e w3 ⟨rfl, hB⟩; have E2 := Aside0.mk (E.out.call hB); clear qa qb E; have E := E2; have qa := E.out.cellA; have qb := E.out.cellB; clear hB E2)
      | (go_at_call 65; refine (C15.out _ (Kd.C_below G15.out E.out.bel) (Kd.C_below J15.out E.out.bel)).mono ?_; rintro e w4 ⟨rfl, hB⟩; have E2 := Aside0.mk (E.out.call hB); clear qa qb E; have E := E2; have qa := E.out.cellA; have qb := E.out.cellB; clear hB E2))
    go_ret
    exact ⟨by rw [NN.out]; rfl, E.out.bel⟩
  have q_f6 : decide (x.f6 = y.f6) = true := by simpa using h_f6
  have e_f6 := Aside0.mk h_f6
  clear h_f6
  by_cases h_f9 : x.f9 = y.f9
  rotate_left
  · have q_f9 : sames x.f9 y.f9 = false := sames_no h_f9
    have NN := Aside0.mk (NO.out (fun e => h_f9 (by rw [e])))
    clear h_f9 KIDS NO
    go_enter Tryz.func58, Tryz.ntmps58
    go_wp2_with (first
      | ((with_reducible refine gate_dst (N := 2) rfl ?_); refine box_ 39 (.tmp 0) rfl rfl ca rfl ?_; intro ga hga w1 hb1 hB1; have B1 := Aside0.mk (below_step T0.out hB1); have X1 := Aside0.mk hb1; clear hb1 hB1 hga T0)
      | ((with_reducible refine gate_dst (N := 3) rfl ?_); refine box_ 39 (.tmp 1) rfl rfl cb rfl ?_; intro gb hgb w2 hb2 hB2; have E := Aside0.mk (show ES w ga gb ca cb w2 from ⟨(hB2.block ga (blk_lt X1.out)).trans X1.out, hb2, below_step B1.out hB2⟩); have qa := E.out.cellA; have qb := E.out.cellB; clear hb2 hB2 hgb B1 X1)
      | ((with_reducible refine gate_dst (N := 20) rfl ?_); refine loadW_ 35 (.tmp 19) rfl ?hw ⟨ga, 2, none⟩ ?hx (testCells x.f2) _ Tryz.underlying35 ?hi (sub_ E.out.hA _ _ _ HA.out) ?_; (case hw => first | rfl | (simp [Region.wanted, yielded]; done)); (case hx => first | rfl | (go_simp; done) | (go_simp; rfl)); (case hi => kernel_rfl))
      | ((with_reducible refine gate_dst (N := 22) rfl ?_); refine loadW_ 35 (.tmp 21) rfl ?hw ⟨gb, 2, none⟩ ?hx (testCells y.f2) _ Tryz.underlying35 ?hi (sub_ E.out.hB _ _ _ HB.out) ?_; (case hw => first | rfl | (simp [Region.wanted, yielded]; done)); (case hx => first | rfl | (go_simp; done) | (go_simp; rfl)); (case hi => kernel_rfl))
      | (go_at_call 64; refine (C12.out _ (Kd.C_below G12.out E.out.bel) (Kd.C_below J12.out E.out.bel)).mono ?_; rintro e w3 ⟨rfl, hB⟩; have E2 := Aside0.mk (E.out.call hB); clear qa qb E; have E := E2; have qa := E.out.cellA; have qb := E.out.cellB; clear hB E2)
      | (go_at_call 65; refine (C15.out _ (Kd.C_below G15.out E.out.bel) (Kd.C_below J15.out E.out.bel)).mono ?_; rintro e w4 ⟨rfl, hB⟩; have E2 := Aside0.mk (E.out.call hB); clear qa qb E; have E := E2; have qa := E.out.cellA; have qb := E.out.cellB; clear hB E2)
      | (go_at_call 66; refine (C18.out _ (Kd.C_below G18.out E.out.bel) (Kd.C_below J18.out E.out.bel)).mono ?_; rintro e w5 ⟨rfl, hB⟩; have E2 := Aside0.mk (E.out.call hB); clear qa qb E; have E := E2; have qa := E.out.cellA; have qb := E.out.cellB; clear hB E2))
    go_ret
    exact ⟨by rw [NN.out]; rfl, E.out.bel⟩
  have q_f9 : sames x.f9 y.f9 = true := sames_iff.2 h_f9
  have e_f9 := Aside0.mk h_f9
  clear h_f9
  have YY := Aside0.mk ((KIDS.out e_f0.out e_f1.out e_f2.out e_f3.out e_f4.out e_f5.out e_f6.out e_f7.out e_f8.out).trans q_f9)
  clear KIDS NO
  go_enter Tryz.func58, Tryz.ntmps58
  go_wp2_with (first
    | ((with_reducible refine gate_dst (N := 2) rfl ?_); refine box_ 39 (.tmp 0) rfl rfl ca rfl ?_; intro ga hga w1 hb1 hB1; have B1 := Aside0.mk (below_step T0.out hB1); have X1 := Aside0.mk hb1; clear hb1 hB1 hga T0)
    | ((with_reducible refine gate_dst (N := 3) rfl ?_); refine box_ 39 (.tmp 1) rfl rfl cb rfl ?_; intro gb hgb w2 hb2 hB2; have E := Aside0.mk (show ES w ga gb ca cb w2 from ⟨(hB2.block ga (blk_lt X1.out)).trans X1.out, hb2, below_step B1.out hB2⟩); have qa := E.out.cellA; have qb := E.out.cellB; clear hb2 hB2 hgb B1 X1)
    | ((with_reducible refine gate_dst (N := 20) rfl ?_); refine loadW_ 35 (.tmp 19) rfl ?hw ⟨ga, 2, none⟩ ?hx (testCells x.f2) _ Tryz.underlying35 ?hi (sub_ E.out.hA _ _ _ HA.out) ?_; (case hw => first | rfl | (simp [Region.wanted, yielded]; done)); (case hx => first | rfl | (go_simp; done) | (go_simp; rfl)); (case hi => kernel_rfl))
    | ((with_reducible refine gate_dst (N := 22) rfl ?_); refine loadW_ 35 (.tmp 21) rfl ?hw ⟨gb, 2, none⟩ ?hx (testCells y.f2) _ Tryz.underlying35 ?hi (sub_ E.out.hB _ _ _ HB.out) ?_; (case hw => first | rfl | (simp [Region.wanted, yielded]; done)); (case hx => first | rfl | (go_simp; done) | (go_simp; rfl)); (case hi => kernel_rfl))
    | (go_at_call 64; refine (C12.out _ (Kd.C_below G12.out E.out.bel) (Kd.C_below J12.out E.out.bel)).mono ?_; rintro e w3 ⟨rfl, hB⟩; have E2 := Aside0.mk (E.out.call hB); clear qa qb E; have E := E2; have qa := E.out.cellA; have qb := E.out.cellB; clear hB E2)
    | (go_at_call 65; refine (C15.out _ (Kd.C_below G15.out E.out.bel) (Kd.C_below J15.out E.out.bel)).mono ?_; rintro e w4 ⟨rfl, hB⟩; have E2 := Aside0.mk (E.out.call hB); clear qa qb E; have E := E2; have qa := E.out.cellA; have qb := E.out.cellB; clear hB E2)
    | (go_at_call 66; refine (C18.out _ (Kd.C_below G18.out E.out.bel) (Kd.C_below J18.out E.out.bel)).mono ?_; rintro e w5 ⟨rfl, hB⟩; have E2 := Aside0.mk (E.out.call hB); clear qa qb E; have E := E2; have qa := E.out.cellA; have qb := E.out.cellB; clear hB E2))
  go_ret
  exact ⟨by rw [YY.out]; rfl, E.out.bel⟩
theorem psP_all (N : Nat) : PsP N := by
  induction N using Nat.strongRecOn with
  | _ N ih =>
    cases N with
    | zero => intro x y ca cb w hn; have := sz39_kids x; omega
    | succ N => exact planSame_step N (equalFunc_step N (fun M hM => ih M (by omega)))
/-- **impl.PlanSame**: are two plans one? -/
theorem implPlanSame_c (x y : S39) (ca cb : Array Value) (w : World) (hK : k39.K w x ca.toList) (hK' : k39.K w y cb.toList) (hok : Small39 x) :
    Calls Tryz.prog 58 #[.agg ca, .agg cb] w fun e w' => e = .returned (.bool (same x y)) ∧ Below w.heap.size w w' := psP_all _ x y ca cb w (Nat.le_refl _) hK hK' hok
end Pl

end
namespace Pl
/-! ### A range over a function whose iterator keeps its own state in cells -/
/-- What a round keeps: below block n all is as it was; of what lies from block M on nothing has turned. -/
structure Kp (n M : Nat) (A B : World) : Prop where
  bel : Below n A B
  own : ∀ k, M ≤ k → k < A.heap.size → B.heap[k]? = A.heap[k]?
theorem Kp.refl (n M : Nat) (A : World) : Kp n M A A := ⟨Below.refl _ _, fun _ _ _ => rfl⟩
theorem Kp.trans {n M : Nat} {A B C : World} (h : Kp n M A B) (k : Kp n M B C) : Kp n M A C :=
  ⟨h.bel.trans k.bel, fun i hM hi => (k.own i hM (Nat.lt_of_lt_of_le hi h.bel.size)).trans (h.own i hM hi)⟩
theorem Kp.of_below {n M : Nat} {A B : World} (h : Below A.heap.size A B) (hn : n ≤ A.heap.size) : Kp n M A B :=
  ⟨h.mono hn, fun k _ hk => h.block k hk⟩
theorem Kp.mono {n M M' : Nat} {A B : World} (h : Kp n M A B) (hM : M ≤ M') : Kp n M' A B :=
  ⟨h.bel, fun k hk => h.own k (Nat.le_trans hM hk)⟩
theorem below_putObj {n l : Nat} (W : World) (o : Obj) (hl : n ≤ l) : Below n W (W.putObj l o) :=
  ⟨rfl, rfl, rfl, by simp, fun k hk => World.putObj_heap_other (by omega)⟩
theorem Kp.putObj {n M l : Nat} (W : World) (o : Obj) (hl : n ≤ l) (hM : l < M) : Kp n M W (W.putObj l o) :=
  ⟨below_putObj W o hl, fun k hk _ => World.putObj_heap_other (by omega)⟩
/-- A store into a block that lies below M and at or beyond n. -/
theorem Kp.grown {n M g : Nat} {A B : World} (h : A.grownBy B (some g)) (hn : n ≤ g) (hA : n ≤ A.heap.size) (hM : g < M) : Kp n M A B :=
  ⟨⟨h.os, h.tape, h.output, h.size, fun k hk => h.block k (by omega) (by simp; omega)⟩, fun k hk hlt => h.block k hlt (by simp; omega)⟩
/-- The iterator's contract: it hands V's elements to yield, one by one, till a round says 'no more'; what it writes lies beyond what lay where it began. -/
def GivesAll {α : Type} (P : Program) (gf : Nat) (lb : Array Value) (E : α → Array Value → Prop) (V : List α) (n₀ : Nat) (w : World) : Prop :=
  ∀ (l : Nat) (J Jx : List α → World → Prop) (W : World), Below w.heap.size w W →
    (∀ s A B, J s A → Below W.heap.size A B → J s B) → (∀ s A B, Jx s A → Below W.heap.size A B → Jx s B) →
    (∀ pre x vs W1, J pre W1 → E x vs → pre ++ [x] <+: V → YieldAt Fence.wide 0 P l vs W1 fun e W' =>
      (e = .returned (.bool true) ∧ J (pre ++ [x]) W' ∧ Kp n₀ W.heap.size W1 W') ∨ (e = .returned (.bool false) ∧ Jx (pre ++ [x]) W')) →
    J [] W →
    CallsIn Fence.wide 0 P gf (#[.func (.yield l) #[] #[]] ++ lb) W fun e W' => (∃ v, e = .returned v) ∧ (J V W' ∨ ∃ pre, pre <+: V ∧ Jx pre W')
/-- How the body of a round may be left. -/
def rPost {α : Type} (n M : Nat) (I : List α → World → Prop) (Ix : Code → List α → World → Prop) (xs : List α) (W : World) : Exit → Act → World → Prop
  | .normal, _, W' => Kp n M W W' ∧ I xs W'
  | .ret, _, W' => Kp n M W W' ∧ Ix .ret xs W'
  | .exit id, _, W' => Kp n M W W' ∧ Ix (.exit id) xs W'
  | .goto t, _, W' => Kp n M W W' ∧ Ix (.goto t) xs W'
  | .panic _, _, _ => False
  | .outgrown, _, _ => False
theorem wpIn_rangeAll {α : Type} {P : Program} {E : α → Array Value → Prop} {g : Operand} {ps : Array Tmp} {assign body : Code} {Q : Exit → Act → World → Prop} {a : Act} {w : World} {gf : Nat} {lb : Array Value} {V : List α} {n₀ : Nat}
    (hg : a.eval g = .func (.func gf) #[] lb) (eg : ∀ args w, (callFunc gf args).run P w = .ok (.enter gf args) w)
    (hseq : GivesAll P gf lb E V n₀ w) (hn : n₀ ≤ w.heap.size) (hps : ∀ x vs, E x vs → vs.size = ps.size)
    (I : List α → World → Prop) (Ix : Code → List α → World → Prop) (hI : ∀ s A B, I s A → Below w.heap.size A B → I s B) (hIx : ∀ c s A B, Ix c s A → Below w.heap.size A B → Ix c s B) (h0 : I [] w)
    (hround : ∀ (l : Nat) (pre : List α) (x : α) (vs : Array Value) (W : World), w.heap.size ≤ W.heap.size → I pre W → E x vs → pre ++ [x] <+: V →
      assign.wpIn (Fence.wide.inRound l) 0 P (Exit.then (fun a₁ W1 => Kp n₀ w.heap.size W W1 ∧ I pre W1 ∧
        ∀ W2, I pre W2 → Below w.heap.size W1 W2 → W2.heap.size = W1.heap.size → (∀ (k : Nat) (o : Obj), W1.heap[k]? = some o → o.isCells = true → W2.heap[k]? = some o) →
          body.wpIn (Fence.wide.inRound l) 0 P (rPost n₀ w.heap.size I Ix (pre ++ [x]) W2) a₁ W2) (fun _ _ _ => False))
        { tmps := (ps.zip vs).foldl (fun t (p, v) => t.setIfInBounds p v) a.tmps, defers := [] } W)
    (hdone : ∀ (D : Nat) (W : World), w.heap.size ≤ D → I V W → W.heap[D]? = some (.deferred (some [])) → Q .normal { a with defers := { target := .collected D, args := #[] } :: a.defers } W)
    (hstop : ∀ (D : Nat) (c : Code) (pre : List α) (W : World), w.heap.size ≤ D → pre <+: V → Ix c pre W → W.heap[D]? = some (.deferred (some [])) → c.wpIn Fence.wide 0 P Q { a with defers := { target := .collected D, args := #[] } :: a.defers } W) :
    (Code.rangeFunc g ps assign body).wpIn Fence.wide 0 P Q a w := by
  refine wpIn_rangeFunc ?_
  intro fn hfn
  obtain ⟨rec, hrec⟩ : ∃ rec : LoopState → Option Code → Loop, rec = fun st pe => { state := st, pending := pe, fn, tmps := a.tmps, params := ps, assign, body, defers := w.heap.size } := ⟨_, rfl⟩
  obtain ⟨W1, hW1⟩ : ∃ W1, (w.alloc (.deferred (some []))).alloc (.loop (rec .ready none)) = W1 := ⟨_, rfl⟩
  have hs1 : W1.heap.size = w.heap.size + 2 := by rw [← hW1]; simp
  have hL1 : W1.heap[w.heap.size + 1]? = some (.loop (rec .ready none)) := by
    rw [← hW1]; have := World.alloc_heap_new (w.alloc (.deferred (some []))) (.loop (rec .ready none)); rwa [World.size_alloc] at this
  have hK1 : W1.heap[w.heap.size]? = some (.deferred (some [])) := by
    rw [← hW1]; exact (Below.heap_alloc _ _ _ (by simp)).trans (World.alloc_heap_new w _)
  have hb1 : Below w.heap.size w W1 := by
    rw [← hW1]; exact ((Below.refl _ w).alloc (Nat.le_refl _) _).alloc (by simp) _
  refine ⟨w.heap.size + 1, [{ target := .collected w.heap.size, args := #[] }], W1, { target := .fn (.func gf) lb, args := #[.func (.yield (w.heap.size + 1)) #[] #[]] }, W1, gf,
    #[.func (.yield (w.heap.size + 1)) #[] #[]] ++ lb, W1, ?_, ?_, ?_, ?_, fun h => by simp [Fence.wide] at h, ?_⟩
  · rw [← hW1, hrec]; exact run_enterLoop_outer _ _ _ _ _
  · simp only [resolve, hg]
    simp [go_sem]
  · intro f' hf'; trivial
  · simp [invoke, go_sem, eg]
  · have bl : ∀ {A B : World} {k : Nat} {o : Obj}, Below W1.heap.size A B → k < W1.heap.size → A.heap[k]? = some o → B.heap[k]? = some o := fun h hk ho => (h.block _ hk).trans ho
    refine (hseq (w.heap.size + 1)
      (fun pre W => I pre W ∧ w.heap.size ≤ W.heap.size ∧ W.heap[w.heap.size + 1]? = some (.loop (rec .ready none)) ∧ W.heap[w.heap.size]? = some (.deferred (some [])))
      (fun pre W => ∃ c, Ix c pre W ∧ W.heap[w.heap.size + 1]? = some (.loop (rec .done (some c))) ∧ W.heap[w.heap.size]? = some (.deferred (some [])))
      W1 hb1
      (fun s A B hs hg' => ⟨hI s A B hs.1 (hg'.mono (by omega)), Nat.le_trans hs.2.1 hg'.size, bl hg' (by omega) hs.2.2.1, bl hg' (by omega) hs.2.2.2⟩)
      (fun s A B hs hg' => by
        obtain ⟨c, hc, hl, hk⟩ := hs
        exact ⟨c, hIx c s A B hc (hg'.mono (by omega)), bl hg' (by omega) hl, bl hg' (by omega) hk⟩)
      ?_ ⟨hI _ _ _ h0 hb1, hb1.size, hL1, hK1⟩).mono ?_
    · -- one round
      rintro pre x vs W ⟨hi, hsz, hl, hk⟩ hE hpre
      have hy := run_yield (P := P) (args := vs) hl (by rw [hrec]; exact hps x vs hE)
      rw [hrec] at hy
      refine ⟨fn, _, assign, body, hy, roundIn_of_wpIn hfn ?_⟩
      refine wpIn_mono (hround (w.heap.size + 1) pre x vs W hsz hi hE hpre) ?_
      intro e a₁ W2 hp
      cases e with
      | normal =>
        obtain ⟨hkp, hi2, hbody⟩ := hp
        have hl2 : W2.heap[w.heap.size + 1]? = some (.loop (rec .ready none)) := (hkp.own _ (by omega) (Array.getElem?_eq_some_iff.1 hl).1).trans hl
        have hk2 : W2.heap[w.heap.size]? = some (.deferred (some [])) := (hkp.own _ (by omega) (Array.getElem?_eq_some_iff.1 hk).1).trans hk
        have hlt : w.heap.size + 1 < W2.heap.size := (Array.getElem?_eq_some_iff.1 hl2).1
        refine ⟨_, run_beginRound hl2 (by rw [hrec]), ?_⟩
        have hl3 : (W2.putObj (w.heap.size + 1) (.loop { rec .ready none with state := .busy })).heap[w.heap.size + 1]? = some (.loop { rec .ready none with state := .busy }) := World.putObj_heap_same hlt
        have hk3 : (W2.putObj (w.heap.size + 1) (.loop { rec .ready none with state := .busy })).heap[w.heap.size]? = some (.deferred (some [])) := (World.putObj_heap_other (by omega)).trans hk2
        have hB3 : Below w.heap.size W2 (W2.putObj (w.heap.size + 1) (.loop { rec .ready none with state := .busy })) := below_putObj _ _ (by omega)
        refine wpIn_mono (hbody _ (hI _ _ _ hi2 hB3) hB3 (by simp) (fun k o ho hc => ?_)) ?_
        · by_cases e : k = w.heap.size + 1
          · subst e; rw [hl2] at ho; cases ho; cases hc
          · exact (World.putObj_heap_other e).trans ho
        have hkq : Kp n₀ W1.heap.size W (W2.putObj (w.heap.size + 1) (.loop { rec .ready none with state := .busy })) :=
          (hkp.mono (by omega)).trans (Kp.putObj _ _ (by omega) (by omega))
        have fin : ∀ (jump : Option Code) (W3 : World), Kp n₀ w.heap.size (W2.putObj (w.heap.size + 1) (.loop { rec .ready none with state := .busy })) W3 →
            (Instr.endRound (w.heap.size + 1) jump).run P W3 = .ok (.bool jump.isNone) (W3.putObj (w.heap.size + 1) (.loop (rec (if jump.isNone then .ready else .done) jump))) ∧
            (W3.putObj (w.heap.size + 1) (.loop (rec (if jump.isNone then .ready else .done) jump))).heap[w.heap.size + 1]? = some (.loop (rec (if jump.isNone then .ready else .done) jump)) ∧
            (W3.putObj (w.heap.size + 1) (.loop (rec (if jump.isNone then .ready else .done) jump))).heap[w.heap.size]? = some (.deferred (some [])) ∧
            w.heap.size ≤ W3.heap.size ∧ Below w.heap.size W3 (W3.putObj (w.heap.size + 1) (.loop (rec (if jump.isNone then .ready else .done) jump))) ∧
            Kp n₀ W1.heap.size W (W3.putObj (w.heap.size + 1) (.loop (rec (if jump.isNone then .ready else .done) jump))) := fun jump W3 hk4 => by
          have hl4 := (hk4.own _ (by omega) (Array.getElem?_eq_some_iff.1 hl3).1).trans hl3
          have hr := run_endRound (P := P) jump hl4
          rw [hrec] at hr ⊢
          have hlt4 := (Array.getElem?_eq_some_iff.1 hl4).1
          exact ⟨hr, World.putObj_heap_same hlt4, (World.putObj_heap_other (by omega)).trans ((hk4.own _ (Nat.le_refl _) (Array.getElem?_eq_some_iff.1 hk3).1).trans hk3), by omega,
            below_putObj _ _ (by omega), by rw [hrec] at hkq hk4; exact (hkq.trans (hk4.mono (by omega))).trans (Kp.putObj _ _ (by omega) (by omega))⟩
        rintro e a3 W3 hp
        cases e with
        | normal =>
          obtain ⟨hk4, hi4⟩ := hp
          obtain ⟨hr, hl5, hk5, hs5, hb5, hq5⟩ := fin none W3 hk4
          exact ⟨_, _, hr, .inl ⟨rfl, ⟨hI _ _ _ hi4 hb5, by simpa using hs5, hl5, hk5⟩, hq5⟩⟩
        | ret =>
          obtain ⟨hk4, hi4⟩ := hp
          obtain ⟨hr, hl5, hk5, hs5, hb5, hq5⟩ := fin (some .ret) W3 hk4
          exact ⟨_, _, hr, .inr ⟨rfl, .ret, hIx _ _ _ _ hi4 hb5, hl5, hk5⟩⟩
        | exit id =>
          obtain ⟨hk4, hi4⟩ := hp
          obtain ⟨hr, hl5, hk5, hs5, hb5, hq5⟩ := fin (some (.exit id)) W3 hk4
          exact ⟨_, _, hr, .inr ⟨rfl, .exit id, hIx _ _ _ _ hi4 hb5, hl5, hk5⟩⟩
        | goto t =>
          obtain ⟨hk4, hi4⟩ := hp
          obtain ⟨hr, hl5, hk5, hs5, hb5, hq5⟩ := fin (some (.goto t)) W3 hk4
          exact ⟨_, _, hr, .inr ⟨rfl, .goto t, hIx _ _ _ _ hi4 hb5, hl5, hk5⟩⟩
        | panic ch => exact hp.elim
        | outgrown => exact hp.elim
      | ret => exact hp.elim
      | exit id => exact hp.elim
      | goto t => exact hp.elim
      | panic ch => exact hp.elim
      | outgrown => exact hp.elim
    · -- behind the iterator
      rintro e W2 ⟨⟨v, rfl⟩, (⟨hi, hsz, hl, hk⟩ | ⟨pre, hpre, c, hi, hl, hk⟩)⟩
      · exact ⟨none, _, by have := run_endLoop (P := P) hl (by rw [hrec]; simp); rw [hrec] at this; exact this, hdone _ _ (Nat.le_refl _) (hI _ _ _ hi (below_putObj _ _ (by omega))) ((World.putObj_heap_other (by omega)).trans hk)⟩
      · exact ⟨some c, _, by have := run_endLoop (P := P) hl (by rw [hrec]; simp); rw [hrec] at this; exact this, hstop _ c pre _ (Nat.le_refl _) hpre (hIx _ _ _ _ hi (below_putObj _ _ (by omega))) ((World.putObj_heap_other (by omega)).trans hk)⟩
end Pl
namespace Pl
/-! ### Which parts of a plan the iterator comes to -/
abbrev Vis := Int × S39
mutual
/-- A plan's parts from so deep on, so many having come ahead of it: those that are come to, and whether it goes on behind them. -/
def goV : S39 → Nat → Nat → List Vis × Bool
  | ⟨a, b, t, cells, c, d, keys, e, f, ks⟩, deep, n =>
    if n + 1 > 10 ∨ deep ≥ 6 then ([((deep : Int), ⟨a, b, t, cells, c, d, keys, e, f, ks⟩)], false)
    else (((deep : Int), ⟨a, b, t, cells, c, d, keys, e, f, ks⟩) :: (goVs ks (deep + 1) (n + 1)).1, (goVs ks (deep + 1) (n + 1)).2)
def goVs : List S39 → Nat → Nat → List Vis × Bool
  | [], _, _ => ([], true)
  | k :: ks, deep, n =>
    if (goV k deep n).2 = true then ((goV k deep n).1 ++ (goVs ks deep (n + (goV k deep n).1.length)).1, (goVs ks deep (n + (goV k deep n).1.length)).2)
    else ((goV k deep n).1, false)
end
theorem goV_eq (x : S39) (deep n : Nat) : goV x deep n = if n + 1 > 10 ∨ deep ≥ 6 then ([((deep : Int), x)], false) else (((deep : Int), x) :: (goVs x.f9 (deep + 1) (n + 1)).1, (goVs x.f9 (deep + 1) (n + 1)).2) := by
  cases x; rfl
theorem goV_stop {x : S39} {deep n : Nat} (h : n + 1 > 10 ∨ deep ≥ 6) : goV x deep n = ([((deep : Int), x)], false) := by rw [goV_eq, if_pos h]
theorem goV_go {x : S39} {deep n : Nat} (h : ¬ (n + 1 > 10 ∨ deep ≥ 6)) : goV x deep n = (((deep : Int), x) :: (goVs x.f9 (deep + 1) (n + 1)).1, (goVs x.f9 (deep + 1) (n + 1)).2) := by rw [goV_eq, if_neg h]
theorem goVs_true {k : S39} {ks : List S39} {deep n : Nat} (h : (goV k deep n).2 = true) : goVs (k :: ks) deep n = ((goV k deep n).1 ++ (goVs ks deep (n + (goV k deep n).1.length)).1, (goVs ks deep (n + (goV k deep n).1.length)).2) := by
  rw [goVs, if_pos h]
theorem goVs_false {k : S39} {ks : List S39} {deep n : Nat} (h : (goV k deep n).2 = false) : goVs (k :: ks) deep n = ((goV k deep n).1, false) := by
  rw [goVs, if_neg (by rw [h]; simp)]
theorem goV_pos (x : S39) (deep n : Nat) : 1 ≤ (goV x deep n).1.length := by
  rw [goV_eq]; split <;> simp
/-- Where it goes on no more than ten have come. -/
theorem goV_le : ∀ (m : Nat) (x : S39), sz39 x ≤ m → ∀ deep n, (goV x deep n).2 = true → n + (goV x deep n).1.length ≤ 10 := by
  intro m
  induction m with
  | zero => intro x h; have := sz39_kids x; omega
  | succ m ih =>
    intro x hm deep n h
    have hk := sz39_kids x
    have go : ∀ (ks : List S39), szs39 ks ≤ m → ∀ deep n, n ≤ 10 → (goVs ks deep n).2 = true → n + (goVs ks deep n).1.length ≤ 10 := by
      intro ks
      induction ks with
      | nil => intro _ deep n hn _; simpa [goVs] using hn
      | cons k ks ihk =>
        intro hs deep n hn h
        simp only [szs39] at hs
        by_cases hc : (goV k deep n).2 = true
        · rw [goVs_true hc] at h ⊢
          have h1 := ih k (by omega) deep n hc
          have h2 := ihk (by omega) deep (n + (goV k deep n).1.length) h1 h
          simp only [List.length_append]; omega
        · rw [goVs_false (by simpa using hc)] at h; cases h
    by_cases hc : n + 1 > 10 ∨ deep ≥ 6
    · rw [goV_stop hc] at h; cases h
    · rw [goV_go hc] at h ⊢
      have := go x.f9 (by omega) (deep + 1) (n + 1) (by omega) h
      simp only [List.length_cons]; omega
/-- What one part more adds. -/
theorem goVs_drop {ks : List S39} {i : Nat} (h : i < ks.length) (deep n : Nat) : goVs (ks.drop i) deep n = if (goV ks[i] deep n).2 = true then ((goV ks[i] deep n).1 ++ (goVs (ks.drop (i + 1)) deep (n + (goV ks[i] deep n).1.length)).1, (goVs (ks.drop (i + 1)) deep (n + (goV ks[i] deep n).1.length)).2) else ((goV ks[i] deep n).1, false) := by
  rw [List.drop_eq_getElem_cons h, goVs]
theorem goVs_end {ks : List S39} {i : Nat} (h : ks.length ≤ i) (deep n : Nat) : goVs (ks.drop i) deep n = ([], true) := by
  rw [List.drop_eq_nil_of_le h, goVs]
/-! ### Steps in a fence -/
section
variable {F : Fence} {n : Nat} {P : Program} {ops : Array Oper} {rest : List Oper} {o : Oper} {a : Act} {Q : Exit → Act → World → Prop}
theorem eventIn {W w1 : World} {v : Value} (hg : o.guard = none) (ha : o.about P W a.eval = none) (hnd : ∀ c, o.op ≠ .defer c) (hrun : (execOp a.eval o).run P W = .ok (.value v) w1) (h : wpListIn F n P ops Q rest (a.put o.dst v) w1) : wpListIn F n P ops Q (o :: rest) a W := by
  refine wpListIn_plain hg fun K hK => ?_
  refine ⟨fun f hf => (by rw [ha] at hf; cases hf), ?_⟩
  rw [Oper.semAt_plain F _ _ hnd, hrun]
  exact hK _ _ h
theorem gateIn {N : Tmp} (_hN : o.dst = some N) {W : World} (h : wpListIn F n P ops Q (o :: rest) a W) : wpListIn F n P ops Q (o :: rest) a W := h
theorem gateInOp {op : Op} (_ho : o.op = op) {W : World} (h : wpListIn F n P ops Q (o :: rest) a W) : wpListIn F n P ops Q (o :: rest) a W := h
/-- A struct is loaded whole. -/
theorem loadIn_ {W : World} (ty : TypeId) (x : Operand) (ho : o.op = .load ty x) (hgd : o.guard = none) (ad : Addr) (hx : a.eval x = .pointer (some ad)) (cs : List Value) (fs : Array Field) (hu : P.underlying ty = some (.struct fs)) (hi : (P.info? ty).map (·.size) = some cs.length)
    (hc : ∀ j v, cs[j]? = some v → W.cell? (ad.add j) = some v) (h : wpListIn F n P ops Q rest (a.put o.dst (.agg cs.toArray)) W) : wpListIn F n P ops Q (o :: rest) a W := by
  have hl : (loadCells ad cs.length).run P W = .ok cs.toArray W := run_loadCells_list (P := P) W ad cs hc
  have hr : (loadVar ty ad).run P W = .ok (.agg cs.toArray) W := by
    cases hq : P.info? ty with
    | none => simp [hq] at hi
    | some i =>
      have hs : i.size = cs.length := by simpa [hq] using hi
      have hagg : (isAgg ty).run P W = .ok true W := by
        unfold isAgg
        rw [Sem.run_bind, run_underlying hu W]
        simp
      simp [loadVar, Sem.run_bind, hagg, sizeOf, typeInfo, hq, hs, hl]
  refine eventIn hgd (by simp [Oper.about, ho]) (by rw [ho]; intro c e; cases e) ?_ h
  unfold execOp
  simp only [ho, hx, Instr.loadAt, Instr.sureAddr, Sem.run_bind, Sem.run_pure, Result.andThen_ok, hr]
end
end Pl

end Go.Proofs.YtlpgnkndjmfcjaaGreat.PFnExactPlanMany
