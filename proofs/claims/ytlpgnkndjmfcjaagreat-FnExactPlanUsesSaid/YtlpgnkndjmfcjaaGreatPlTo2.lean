/- The copy toPlan returns the copy of its plan, if toPlanS does so for the plans under it. The copy toPlan returns the copy of its plan, for each plan of at most 2^20 parts. What it is that two plans are the same, in Lean, and what a copy keeps. The comparison eqPlan tells whether two plans are the same, if eqPlanS does so for the plans under them. The comparison eqPlan tells whether two plans are the same, for each plan of at most 2^20 parts. What the comparison of two tests and of two rows of cells is, in Lean. -/
import Derived.Test.YtlpgnkndjmfcjaaGreatPlBase
namespace Go.Proofs.YtlpgnkndjmfcjaaGreat.PFnExactPlanMany
open Go.RowKit Go.Proofs.YtlpgnkndjmfcjaaGreatW.PrintWords Go.Proofs.YtlpgnkndjmfcjaaGreatW.PrintLast Go.Proofs.YtlpgnkndjmfcjaaGreatW.PrintMore
attribute [local go_sem] max2_int min2_int max_two min_two max_three min_three max_four min_four   -- for this text's walks alone
set_option linter.unusedVariables false
set_option linter.unusedSimpArgs false
namespace Pl
/-- What toPlan's walk keeps: the argument's box, the row that is being made. -/
structure TS (w : World) (gb go : Nat) (cs : Array Value) (W : World) (cur : List Value) : Prop where
  hbx : W.heap[gb]? = some (.cells cs 30 (0, 0))
  hou : W.heap[go]? = some (.cells cur.toArray 39 (0, 0))
  bel : Below w.heap.size w W
  ne : gb ≠ go
  ge : w.heap.size ≤ go
theorem TS.call {w : World} {gb go : Nat} {cs : Array Value} {W W1 : World} {cur : List Value} (h : TS w gb go cs W cur) (hb : Below W.heap.size W W1) : TS w gb go cs W1 cur :=
  ⟨(hb.block gb (blk_lt h.hbx)).trans h.hbx, (hb.block go (blk_lt h.hou)).trans h.hou, below_step h.bel hb, h.ne, h.ge⟩
theorem TS.store {w : World} {gb go : Nat} {cs : Array Value} {W W1 : World} {cur cur' : List Value} (h : TS w gb go cs W cur) (hb : W1.heap[go]? = some (.cells cur'.toArray 39 (0, 0))) (hg : W.grownBy W1 (some go)) : TS w gb go cs W1 cur' :=
  ⟨(hg.block gb (blk_lt h.hbx) (fun e => h.ne (by injection e))).trans h.hbx, hb, h.bel.grown hg h.bel.size (fun k e => by injection e with e; rw [← e]; exact h.ge), h.ne, h.ge⟩
theorem TS.cell {w : World} {gb go : Nat} {cs : Array Value} {W : World} {cur : List Value} (h : TS w gb go cs W cur) (j : Nat) : W.cell? ⟨gb, j, none⟩ = cs[j]? := blk_cell h.hbx j
theorem sub_ {W : World} {g e : Nat} {cs : Array Value} (h : W.heap[g]? = some (.cells cs e (0, 0))) (pre mid post : List Value) (hcs : cs.toList = pre ++ (mid ++ post)) : ∀ j v, mid[j]? = some v → W.cell? ((⟨g, pre.length, none⟩ : Addr).add j) = some v := by
  intro j v hj
  rw [Addr.add_mid, blk_cell h, ← Array.getElem?_toList, hcs, List.getElem?_append_right (by omega), Nat.add_sub_cancel_left, List.getElem?_append_left (List.getElem?_eq_some_iff.1 hj).1]
  exact hj
theorem R_stor {α : Type} {d : Kd α} {e base go : Nat} {W W1 : World} {v : Value} {xs : List α} {g : Nat} (h : d.R e W base (fun k => go < k) v xs) (hg : W.grownBy W1 (some g)) (hle : g ≤ go) : d.R e W1 base (fun k => go < k) v xs :=
  Kd.R_grown h hg (fun k hk e => by injection e with e; omega)
theorem R_made {α : Type} {d : Kd α} {e base go : Nat} {W W1 : World} {o : Obj} {v : Value} {xs : List α} (h : d.R e W1 W.heap.size (fun _ => True) v xs) (hb : W.heap[go]? = some o) (hbase : base ≤ W.heap.size) : d.R e W1 base (fun k => go < k) v xs :=
  Kd.R_lower (Kd.R_mono (Kd.R_bound h) (fun k hk => by have := blk_lt hb; omega)) hbase
/-- What toPlanS does, of plans of at most so many parts. -/
def ToS (N : Nat) : Prop := ∀ (xs : List (S30)) (A : Option Addr) (c : Nat) (w : World), szs30 xs ≤ N → Kd.C k30 w A xs.length xs → xs.length ≤ c → xs.length ≤ 1048576 → (∀ y ∈ xs, Small30 y) →
  Calls Tryz.prog 23 #[.slice A xs.length c] w fun e w' => ∃ v, e = .returned v ∧ Kd.R k39 39 w' w.heap.size (fun _ => True) v (convs xs) ∧ Below w.heap.size w w'
def ToP (N : Nat) : Prop := ∀ (x : S30) (cs : Array Value) (w : World), sz30 x ≤ N → k30.K w x cs.toList → Small30 x →
  Calls Tryz.prog 8 #[.agg cs] w fun e w' => ∃ cs' : List Value, e = .returned (.agg cs'.toArray) ∧ k39.M w' w.heap.size (fun _ => True) (conv x) cs' ∧ Below w.heap.size w w'
set_option maxHeartbeats 8000000 in
set_option maxRecDepth 100000 in
theorem toPlan_step (N : Nat) (hS : ToS N) : ToP (N + 1) := by
  intro x cs w hn hK hok
  have hkids : szs30 x.f9 ≤ N := by have := sz30_kids x; omega
  obtain ⟨A12, c12, A15, c15, A18, c18, hcs, l12, g12, l15, g15, l18, g18⟩ := k30_open hK
  have e0 : cs[0]? = some (.int .i64 x.f0) := by rw [← Array.getElem?_toList, hcs]; rfl
  have e1 : cs[1]? = some (.int .i64 x.f1) := by rw [← Array.getElem?_toList, hcs]; rfl
  have e12 : cs[12]? = some (.slice A12 x.f3.length c12) := by rw [← Array.getElem?_toList, hcs]; rfl
  have e13 : cs[13]? = some (.int .i64 x.f4) := by rw [← Array.getElem?_toList, hcs]; rfl
  have e14 : cs[14]? = some (.int .i64 x.f5) := by rw [← Array.getElem?_toList, hcs]; rfl
  have e15 : cs[15]? = some (.slice A15 x.f6.length c15) := by rw [← Array.getElem?_toList, hcs]; rfl
  have e16 : cs[16]? = some (.int .i64 x.f7) := by rw [← Array.getElem?_toList, hcs]; rfl
  have e17 : cs[17]? = some (.int .i64 x.f8) := by rw [← Array.getElem?_toList, hcs]; rfl
  have e18 : cs[18]? = some (.slice A18 x.f9.length c18) := by rw [← Array.getElem?_toList, hcs]; rfl
  have HCS := Aside0.mk (show cs.toList = [.int .i64 x.f0, .int .i64 x.f1] ++ (testCells' x.f2 ++ [.slice A12 x.f3.length c12, .int .i64 x.f4, .int .i64 x.f5, .slice A15 x.f6.length c15, .int .i64 x.f7, .int .i64 x.f8, .slice A18 x.f9.length c18]) from hcs)
  have ok := hok.out
  have C12 := Aside0.mk (fun w hr => toCellS_c A12 c12 x.f3 w ok.1 hr l12)
  have C15 := Aside0.mk (fun w hr => toIntS_c A15 c15 x.f6 w ok.2.1 hr l15)
  have C18 := Aside0.mk (fun w hr => hS x.f9 A18 c18 w hkids hr l18 ok.2.2.1 ok.2.2.2)
  have G12 := Aside0.mk g12
  have G15 := Aside0.mk g15
  have G18 := Aside0.mk g18
  have T0 := Aside0.mk (Below.refl w.heap.size w)
  clear hS l12 l15 l18 g12 g15 g18 ok hok hcs hK hkids hn
  go_enter Tryz.func8, Tryz.ntmps8
  go_wp2_with (first
    | ((with_reducible refine gate_dst (N := 1) rfl ?_); refine box_ 30 (.tmp 0) rfl rfl cs rfl ?_; intro gb hgb w1 hb1 hB1; have B1 := Aside0.mk (below_step T0.out hB1); have X1 := Aside0.mk hb1; have S0 := Aside0.mk (by rw [hgb]; exact Nat.le_refl _ : w.heap.size ≤ gb); clear hb1 hB1 hgb T0)
    | ((with_reducible refine gate_dst (N := 2) rfl ?_); refine alloc_ 39 rfl rfl [.int .i64 0, .int .i64 0, .int .i64 0, .bool false, .int .i64 0, .int .i64 0, .int .i64 0, .int .i64 0, .int .i64 0, .int .i64 0, .int .i64 0, .int .i64 0, .slice none 0 0, .int .i64 0, .int .i64 0, .slice none 0 0, .int .i64 0, .int .i64 0, .slice none 0 0] _ _ info39 ?_; intro gr hgr w2 hb2 hB2; have B2 := Aside0.mk (below_step B1.out hB2); have X2 := Aside0.mk ((hB2.block gb (blk_lt X1.out)).trans X1.out); have Y2 := Aside0.mk hb2; have N2 := Aside0.mk (by rw [hgr]; exact Nat.ne_of_gt (blk_lt X1.out) : gr ≠ gb); have L2 := Aside0.mk (by rw [hgr]; exact B1.out.size : w.heap.size ≤ gr); clear hb2 hB2 hgr B1 X1)
    | ((with_reducible refine gate_dst (N := 3) rfl ?_); refine alloc_ 39 rfl rfl [.int .i64 0, .int .i64 0, .int .i64 0, .bool false, .int .i64 0, .int .i64 0, .int .i64 0, .int .i64 0, .int .i64 0, .int .i64 0, .int .i64 0, .int .i64 0, .slice none 0 0, .int .i64 0, .int .i64 0, .slice none 0 0, .int .i64 0, .int .i64 0, .slice none 0 0] _ _ info39 ?_; intro go hgo w3 hb3 hB3; have T3 := Aside0.mk (show TS w gb go cs w3 [.int .i64 0, .int .i64 0, .int .i64 0, .bool false, .int .i64 0, .int .i64 0, .int .i64 0, .int .i64 0, .int .i64 0, .int .i64 0, .int .i64 0, .int .i64 0, .slice none 0 0, .int .i64 0, .int .i64 0, .slice none 0 0, .int .i64 0, .int .i64 0, .slice none 0 0] from ⟨(hB3.block gb (blk_lt X2.out)).trans X2.out, hb3, below_step B2.out hB3, by rw [hgo]; exact Nat.ne_of_lt (blk_lt X2.out), by rw [hgo]; exact B2.out.size⟩); have Y3 := Aside0.mk ((hB3.block gr (blk_lt Y2.out)).trans Y2.out); have NR := Aside0.mk (by rw [hgo]; exact blk_lt Y2.out : gr < go); have hq3 := T3.out.cell; clear hb3 hB3 hgo B2 X2 Y2)
    | ((with_reducible refine gate_ (.store 3 (.tmp 6) (.tmp 5)) rfl ?_); refine store_ 3 (.tmp 6) (.tmp 5) rfl rfl rfl go 0 ?hp (.int .i64 x.f0) ?hx [.int .i64 x.f0] ?hu ?ht ?h1 [.int .i64 0, .int .i64 0, .int .i64 0, .bool false, .int .i64 0, .int .i64 0, .int .i64 0, .int .i64 0, .int .i64 0, .int .i64 0, .int .i64 0, .int .i64 0, .slice none 0 0, .int .i64 0, .int .i64 0, .slice none 0 0, .int .i64 0, .int .i64 0, .slice none 0 0] _ T3.out.hou ?hf ?_; (case hp => first | rfl | (go_simp; done) | (go_simp; rfl)); (case hx => first | rfl | (go_simp; done) | (go_simp; rfl)); (case hu => rfl); (case ht => kernel_rfl); (case h1 => simp [Value.oneCell']); (case hf => simp); intro w4 hb hg; have T4 := Aside0.mk (T3.out.store (cur' := [.int .i64 x.f0, .int .i64 0, .int .i64 0, .bool false, .int .i64 0, .int .i64 0, .int .i64 0, .int .i64 0, .int .i64 0, .int .i64 0, .int .i64 0, .int .i64 0, .slice none 0 0, .int .i64 0, .int .i64 0, .slice none 0 0, .int .i64 0, .int .i64 0, .slice none 0 0]) hb hg); have Y4 := Aside0.mk ((hg.block gr (blk_lt Y3.out) (fun e => Nat.ne_of_lt NR.out (by injection e))).trans Y3.out); have hq4 := T4.out.cell; clear hq3 T3 Y3; clear hb hg)
    | ((with_reducible refine gate_ (.store 3 (.tmp 9) (.tmp 8)) rfl ?_); refine store_ 3 (.tmp 9) (.tmp 8) rfl rfl rfl go 1 ?hp (.int .i64 x.f1) ?hx [.int .i64 x.f1] ?hu ?ht ?h1 [.int .i64 x.f0, .int .i64 0, .int .i64 0, .bool false, .int .i64 0, .int .i64 0, .int .i64 0, .int .i64 0, .int .i64 0, .int .i64 0, .int .i64 0, .int .i64 0, .slice none 0 0, .int .i64 0, .int .i64 0, .slice none 0 0, .int .i64 0, .int .i64 0, .slice none 0 0] _ T4.out.hou ?hf ?_; (case hp => first | rfl | (go_simp; done) | (go_simp; rfl)); (case hx => first | rfl | (go_simp; done) | (go_simp; rfl)); (case hu => rfl); (case ht => kernel_rfl); (case h1 => simp [Value.oneCell']); (case hf => simp); intro w5 hb hg; have T5 := Aside0.mk (T4.out.store (cur' := [.int .i64 x.f0, .int .i64 x.f1, .int .i64 0, .bool false, .int .i64 0, .int .i64 0, .int .i64 0, .int .i64 0, .int .i64 0, .int .i64 0, .int .i64 0, .int .i64 0, .slice none 0 0, .int .i64 0, .int .i64 0, .slice none 0 0, .int .i64 0, .int .i64 0, .slice none 0 0]) hb hg); have Y5 := Aside0.mk ((hg.block gr (blk_lt Y4.out) (fun e => Nat.ne_of_lt NR.out (by injection e))).trans Y4.out); have hq5 := T5.out.cell; clear hq4 T4 Y4; clear hb hg)
    | ((with_reducible refine gate_dst (N := 11) rfl ?_); refine load_ 25 (.tmp 10) rfl rfl ⟨gb, 2, none⟩ ?hx (testCells' x.f2) _ Tryz.underlying25 ?hi (sub_ T5.out.hbx _ _ _ HCS.out) ?_; (case hx => first | rfl | (go_simp; done) | (go_simp; rfl)); (case hi => kernel_rfl))
    | (go_at_call 20; refine (toTest_c x.f2 _).mono ?_; rintro e w6 ⟨rfl, hB⟩; have T6 := Aside0.mk (T5.out.call hB); have Y6 := Aside0.mk ((hB.block gr (blk_lt Y5.out)).trans Y5.out); have hq6 := T6.out.cell; clear hq5 T5 Y5; clear hB)
    | ((with_reducible refine gate_ (.store 35 (.tmp 13) (.tmp 12)) rfl ?_); refine store_ 35 (.tmp 13) (.tmp 12) rfl rfl rfl go 2 ?hp (.agg (testCells (cvT x.f2)).toArray) ?hx [.int .i64 x.f2.f0, .bool x.f2.f1, .int .i64 x.f2.f2.f0, .int .i64 x.f2.f2.f1, .int .i64 x.f2.f2.f2, .int .i64 x.f2.f2.f3, .int .i64 x.f2.f3.f0, .int .i64 x.f2.f3.f1, .int .i64 x.f2.f3.f2, .int .i64 x.f2.f3.f3] ?hu ?ht ?h1 [.int .i64 x.f0, .int .i64 x.f1, .int .i64 0, .bool false, .int .i64 0, .int .i64 0, .int .i64 0, .int .i64 0, .int .i64 0, .int .i64 0, .int .i64 0, .int .i64 0, .slice none 0 0, .int .i64 0, .int .i64 0, .slice none 0 0, .int .i64 0, .int .i64 0, .slice none 0 0] _ T6.out.hou ?hf ?_; (case hp => first | rfl | (go_simp; done) | (go_simp; rfl)); (case hx => first | rfl | (go_simp; done) | (go_simp; rfl)); (case hu => rfl); (case ht => kernel_rfl); (case h1 => simp [Value.oneCell']); (case hf => simp); intro w7 hb hg; have T7 := Aside0.mk (T6.out.store (cur' := [.int .i64 x.f0, .int .i64 x.f1, .int .i64 x.f2.f0, .bool x.f2.f1, .int .i64 x.f2.f2.f0, .int .i64 x.f2.f2.f1, .int .i64 x.f2.f2.f2, .int .i64 x.f2.f2.f3, .int .i64 x.f2.f3.f0, .int .i64 x.f2.f3.f1, .int .i64 x.f2.f3.f2, .int .i64 x.f2.f3.f3, .slice none 0 0, .int .i64 0, .int .i64 0, .slice none 0 0, .int .i64 0, .int .i64 0, .slice none 0 0]) hb hg); have Y7 := Aside0.mk ((hg.block gr (blk_lt Y6.out) (fun e => Nat.ne_of_lt NR.out (by injection e))).trans Y6.out); have hq7 := T7.out.cell; clear hq6 T6 Y6; clear hb hg)
    | (go_at_call 21; refine (C12.out _ (Kd.C_below G12.out T7.out.bel)).mono ?_; rintro e w8 ⟨v12, rfl, hv, hB⟩; have T8 := Aside0.mk (T7.out.call hB); have Y8 := Aside0.mk ((hB.block gr (blk_lt Y7.out)).trans Y7.out); obtain ⟨A_12, d_12, rfl⟩ := Kd.R_slice hv; have V12_8 := Aside0.mk (R_made hv T7.out.hou T7.out.bel.size); clear hv; have hq8 := T8.out.cell; clear hq7 T7 Y7; clear hB)
    | ((with_reducible refine gate_ (.store 36 (.tmp 17) (.tmp 16)) rfl ?_); refine store_ 36 (.tmp 17) (.tmp 16) rfl rfl rfl go 12 ?hp (.slice A_12 (x.f3.map cvC).length d_12) ?hx [.slice A_12 (x.f3.map cvC).length d_12] ?hu ?ht ?h1 [.int .i64 x.f0, .int .i64 x.f1, .int .i64 x.f2.f0, .bool x.f2.f1, .int .i64 x.f2.f2.f0, .int .i64 x.f2.f2.f1, .int .i64 x.f2.f2.f2, .int .i64 x.f2.f2.f3, .int .i64 x.f2.f3.f0, .int .i64 x.f2.f3.f1, .int .i64 x.f2.f3.f2, .int .i64 x.f2.f3.f3, .slice none 0 0, .int .i64 0, .int .i64 0, .slice none 0 0, .int .i64 0, .int .i64 0, .slice none 0 0] _ T8.out.hou ?hf ?_; (case hp => first | rfl | (go_simp; done) | (go_simp; rfl)); (case hx => first | rfl | (go_simp; done) | (go_simp; rfl)); (case hu => rfl); (case ht => kernel_rfl); (case h1 => simp [Value.oneCell']); (case hf => simp); intro w9 hb hg; have T9 := Aside0.mk (T8.out.store (cur' := [.int .i64 x.f0, .int .i64 x.f1, .int .i64 x.f2.f0, .bool x.f2.f1, .int .i64 x.f2.f2.f0, .int .i64 x.f2.f2.f1, .int .i64 x.f2.f2.f2, .int .i64 x.f2.f2.f3, .int .i64 x.f2.f3.f0, .int .i64 x.f2.f3.f1, .int .i64 x.f2.f3.f2, .int .i64 x.f2.f3.f3, .slice A_12 (x.f3.map cvC).length d_12, .int .i64 0, .int .i64 0, .slice none 0 0, .int .i64 0, .int .i64 0, .slice none 0 0]) hb hg); have Y9 := Aside0.mk ((hg.block gr (blk_lt Y8.out) (fun e => Nat.ne_of_lt NR.out (by injection e))).trans Y8.out); have V12_9 := Aside0.mk (R_stor V12_8.out hg (Nat.le_refl _)); have hq9 := T9.out.cell; clear hq8 T8 Y8 V12_8; clear hb hg)
    | ((with_reducible refine gate_ (.store 3 (.tmp 20) (.tmp 19)) rfl ?_); refine store_ 3 (.tmp 20) (.tmp 19) rfl rfl rfl go 13 ?hp (.int .i64 x.f4) ?hx [.int .i64 x.f4] ?hu ?ht ?h1 [.int .i64 x.f0, .int .i64 x.f1, .int .i64 x.f2.f0, .bool x.f2.f1, .int .i64 x.f2.f2.f0, .int .i64 x.f2.f2.f1, .int .i64 x.f2.f2.f2, .int .i64 x.f2.f2.f3, .int .i64 x.f2.f3.f0, .int .i64 x.f2.f3.f1, .int .i64 x.f2.f3.f2, .int .i64 x.f2.f3.f3, .slice A_12 (x.f3.map cvC).length d_12, .int .i64 0, .int .i64 0, .slice none 0 0, .int .i64 0, .int .i64 0, .slice none 0 0] _ T9.out.hou ?hf ?_; (case hp => first | rfl | (go_simp; done) | (go_simp; rfl)); (case hx => first | rfl | (go_simp; done) | (go_simp; rfl)); (case hu => rfl); (case ht => kernel_rfl); (case h1 => simp [Value.oneCell']); (case hf => simp); intro w10 hb hg; have T10 := Aside0.mk (T9.out.store (cur' := [.int .i64 x.f0, .int .i64 x.f1, .int .i64 x.f2.f0, .bool x.f2.f1, .int .i64 x.f2.f2.f0, .int .i64 x.f2.f2.f1, .int .i64 x.f2.f2.f2, .int .i64 x.f2.f2.f3, .int .i64 x.f2.f3.f0, .int .i64 x.f2.f3.f1, .int .i64 x.f2.f3.f2, .int .i64 x.f2.f3.f3, .slice A_12 (x.f3.map cvC).length d_12, .int .i64 x.f4, .int .i64 0, .slice none 0 0, .int .i64 0, .int .i64 0, .slice none 0 0]) hb hg); have Y10 := Aside0.mk ((hg.block gr (blk_lt Y9.out) (fun e => Nat.ne_of_lt NR.out (by injection e))).trans Y9.out); have V12_10 := Aside0.mk (R_stor V12_9.out hg (Nat.le_refl _)); have hq10 := T10.out.cell; clear hq9 T9 Y9 V12_9; clear hb hg)
    | ((with_reducible refine gate_ (.store 3 (.tmp 23) (.tmp 22)) rfl ?_); refine store_ 3 (.tmp 23) (.tmp 22) rfl rfl rfl go 14 ?hp (.int .i64 x.f5) ?hx [.int .i64 x.f5] ?hu ?ht ?h1 [.int .i64 x.f0, .int .i64 x.f1, .int .i64 x.f2.f0, .bool x.f2.f1, .int .i64 x.f2.f2.f0, .int .i64 x.f2.f2.f1, .int .i64 x.f2.f2.f2, .int .i64 x.f2.f2.f3, .int .i64 x.f2.f3.f0, .int .i64 x.f2.f3.f1, .int .i64 x.f2.f3.f2, .int .i64 x.f2.f3.f3, .slice A_12 (x.f3.map cvC).length d_12, .int .i64 x.f4, .int .i64 0, .slice none 0 0, .int .i64 0, .int .i64 0, .slice none 0 0] _ T10.out.hou ?hf ?_; (case hp => first | rfl | (go_simp; done) | (go_simp; rfl)); (case hx => first | rfl | (go_simp; done) | (go_simp; rfl)); (case hu => rfl); (case ht => kernel_rfl); (case h1 => simp [Value.oneCell']); (case hf => simp); intro w11 hb hg; have T11 := Aside0.mk (T10.out.store (cur' := [.int .i64 x.f0, .int .i64 x.f1, .int .i64 x.f2.f0, .bool x.f2.f1, .int .i64 x.f2.f2.f0, .int .i64 x.f2.f2.f1, .int .i64 x.f2.f2.f2, .int .i64 x.f2.f2.f3, .int .i64 x.f2.f3.f0, .int .i64 x.f2.f3.f1, .int .i64 x.f2.f3.f2, .int .i64 x.f2.f3.f3, .slice A_12 (x.f3.map cvC).length d_12, .int .i64 x.f4, .int .i64 x.f5, .slice none 0 0, .int .i64 0, .int .i64 0, .slice none 0 0]) hb hg); have Y11 := Aside0.mk ((hg.block gr (blk_lt Y10.out) (fun e => Nat.ne_of_lt NR.out (by injection e))).trans Y10.out); have V12_11 := Aside0.mk (R_stor V12_10.out hg (Nat.le_refl _)); have hq11 := T11.out.cell; clear hq10 T10 Y10 V12_10; clear hb hg)
    | (go_at_call 22; refine (C15.out _ (Kd.C_below G15.out T11.out.bel)).mono ?_; rintro e w12 ⟨v15, rfl, hv, hB⟩; have T12 := Aside0.mk (T11.out.call hB); have Y12 := Aside0.mk ((hB.block gr (blk_lt Y11.out)).trans Y11.out); have V12_12 := Aside0.mk (Kd.R_below V12_11.out hB); obtain ⟨A_15, d_15, rfl⟩ := Kd.R_slice hv; have V15_12 := Aside0.mk (R_made hv T11.out.hou T11.out.bel.size); clear hv; have hq12 := T12.out.cell; clear hq11 T11 Y11 V12_11; clear hB)
    | ((with_reducible refine gate_ (.store 27 (.tmp 27) (.tmp 26)) rfl ?_); refine store_ 27 (.tmp 27) (.tmp 26) rfl rfl rfl go 15 ?hp (.slice A_15 x.f6.length d_15) ?hx [.slice A_15 x.f6.length d_15] ?hu ?ht ?h1 [.int .i64 x.f0, .int .i64 x.f1, .int .i64 x.f2.f0, .bool x.f2.f1, .int .i64 x.f2.f2.f0, .int .i64 x.f2.f2.f1, .int .i64 x.f2.f2.f2, .int .i64 x.f2.f2.f3, .int .i64 x.f2.f3.f0, .int .i64 x.f2.f3.f1, .int .i64 x.f2.f3.f2, .int .i64 x.f2.f3.f3, .slice A_12 (x.f3.map cvC).length d_12, .int .i64 x.f4, .int .i64 x.f5, .slice none 0 0, .int .i64 0, .int .i64 0, .slice none 0 0] _ T12.out.hou ?hf ?_; (case hp => first | rfl | (go_simp; done) | (go_simp; rfl)); (case hx => first | rfl | (go_simp; done) | (go_simp; rfl)); (case hu => rfl); (case ht => kernel_rfl); (case h1 => simp [Value.oneCell']); (case hf => simp); intro w13 hb hg; have T13 := Aside0.mk (T12.out.store (cur' := [.int .i64 x.f0, .int .i64 x.f1, .int .i64 x.f2.f0, .bool x.f2.f1, .int .i64 x.f2.f2.f0, .int .i64 x.f2.f2.f1, .int .i64 x.f2.f2.f2, .int .i64 x.f2.f2.f3, .int .i64 x.f2.f3.f0, .int .i64 x.f2.f3.f1, .int .i64 x.f2.f3.f2, .int .i64 x.f2.f3.f3, .slice A_12 (x.f3.map cvC).length d_12, .int .i64 x.f4, .int .i64 x.f5, .slice A_15 x.f6.length d_15, .int .i64 0, .int .i64 0, .slice none 0 0]) hb hg); have Y13 := Aside0.mk ((hg.block gr (blk_lt Y12.out) (fun e => Nat.ne_of_lt NR.out (by injection e))).trans Y12.out); have V12_13 := Aside0.mk (R_stor V12_12.out hg (Nat.le_refl _)); have V15_13 := Aside0.mk (R_stor V15_12.out hg (Nat.le_refl _)); have hq13 := T13.out.cell; clear hq12 T12 Y12 V12_12 V15_12; clear hb hg)
    | ((with_reducible refine gate_ (.store 3 (.tmp 30) (.tmp 29)) rfl ?_); refine store_ 3 (.tmp 30) (.tmp 29) rfl rfl rfl go 16 ?hp (.int .i64 x.f7) ?hx [.int .i64 x.f7] ?hu ?ht ?h1 [.int .i64 x.f0, .int .i64 x.f1, .int .i64 x.f2.f0, .bool x.f2.f1, .int .i64 x.f2.f2.f0, .int .i64 x.f2.f2.f1, .int .i64 x.f2.f2.f2, .int .i64 x.f2.f2.f3, .int .i64 x.f2.f3.f0, .int .i64 x.f2.f3.f1, .int .i64 x.f2.f3.f2, .int .i64 x.f2.f3.f3, .slice A_12 (x.f3.map cvC).length d_12, .int .i64 x.f4, .int .i64 x.f5, .slice A_15 x.f6.length d_15, .int .i64 0, .int .i64 0, .slice none 0 0] _ T13.out.hou ?hf ?_; (case hp => first | rfl | (go_simp; done) | (go_simp; rfl)); (case hx => first | rfl | (go_simp; done) | (go_simp; rfl)); (case hu => rfl); (case ht => kernel_rfl); (case h1 => simp [Value.oneCell']); (case hf => simp); intro w14 hb hg; have T14 := Aside0.mk (T13.out.store (cur' := [.int .i64 x.f0, .int .i64 x.f1, .int .i64 x.f2.f0, .bool x.f2.f1, .int .i64 x.f2.f2.f0, .int .i64 x.f2.f2.f1, .int .i64 x.f2.f2.f2, .int .i64 x.f2.f2.f3, .int .i64 x.f2.f3.f0, .int .i64 x.f2.f3.f1, .int .i64 x.f2.f3.f2, .int .i64 x.f2.f3.f3, .slice A_12 (x.f3.map cvC).length d_12, .int .i64 x.f4, .int .i64 x.f5, .slice A_15 x.f6.length d_15, .int .i64 x.f7, .int .i64 0, .slice none 0 0]) hb hg); have Y14 := Aside0.mk ((hg.block gr (blk_lt Y13.out) (fun e => Nat.ne_of_lt NR.out (by injection e))).trans Y13.out); have V12_14 := Aside0.mk (R_stor V12_13.out hg (Nat.le_refl _)); have V15_14 := Aside0.mk (R_stor V15_13.out hg (Nat.le_refl _)); have hq14 := T14.out.cell; clear hq13 T13 Y13 V12_13 V15_13; clear hb hg)
    | ((with_reducible refine gate_ (.store 3 (.tmp 33) (.tmp 32)) rfl ?_); refine store_ 3 (.tmp 33) (.tmp 32) rfl rfl rfl go 17 ?hp (.int .i64 x.f8) ?hx [.int .i64 x.f8] ?hu ?ht ?h1 [.int .i64 x.f0, .int .i64 x.f1, .int .i64 x.f2.f0, .bool x.f2.f1, .int .i64 x.f2.f2.f0, .int .i64 x.f2.f2.f1, .int .i64 x.f2.f2.f2, .int .i64 x.f2.f2.f3, .int .i64 x.f2.f3.f0, .int .i64 x.f2.f3.f1, .int .i64 x.f2.f3.f2, .int .i64 x.f2.f3.f3, .slice A_12 (x.f3.map cvC).length d_12, .int .i64 x.f4, .int .i64 x.f5, .slice A_15 x.f6.length d_15, .int .i64 x.f7, .int .i64 0, .slice none 0 0] _ T14.out.hou ?hf ?_; (case hp => first | rfl | (go_simp; done) | (go_simp; rfl)); (case hx => first | rfl | (go_simp; done) | (go_simp; rfl)); (case hu => rfl); (case ht => kernel_rfl); (case h1 => simp [Value.oneCell']); (case hf => simp); intro w15 hb hg; have T15 := Aside0.mk (T14.out.store (cur' := [.int .i64 x.f0, .int .i64 x.f1, .int .i64 x.f2.f0, .bool x.f2.f1, .int .i64 x.f2.f2.f0, .int .i64 x.f2.f2.f1, .int .i64 x.f2.f2.f2, .int .i64 x.f2.f2.f3, .int .i64 x.f2.f3.f0, .int .i64 x.f2.f3.f1, .int .i64 x.f2.f3.f2, .int .i64 x.f2.f3.f3, .slice A_12 (x.f3.map cvC).length d_12, .int .i64 x.f4, .int .i64 x.f5, .slice A_15 x.f6.length d_15, .int .i64 x.f7, .int .i64 x.f8, .slice none 0 0]) hb hg); have Y15 := Aside0.mk ((hg.block gr (blk_lt Y14.out) (fun e => Nat.ne_of_lt NR.out (by injection e))).trans Y14.out); have V12_15 := Aside0.mk (R_stor V12_14.out hg (Nat.le_refl _)); have V15_15 := Aside0.mk (R_stor V15_14.out hg (Nat.le_refl _)); have hq15 := T15.out.cell; clear hq14 T14 Y14 V12_14 V15_14; clear hb hg)
    | (go_at_call 23; refine (C18.out _ (Kd.C_below G18.out T15.out.bel)).mono ?_; rintro e w16 ⟨v18, rfl, hv, hB⟩; have T16 := Aside0.mk (T15.out.call hB); have Y16 := Aside0.mk ((hB.block gr (blk_lt Y15.out)).trans Y15.out); have V12_16 := Aside0.mk (Kd.R_below V12_15.out hB); have V15_16 := Aside0.mk (Kd.R_below V15_15.out hB); obtain ⟨A_18, d_18, rfl⟩ := Kd.R_slice hv; have V18_16 := Aside0.mk (R_made hv T15.out.hou T15.out.bel.size); clear hv; have hq16 := T16.out.cell; clear hq15 T15 Y15 V12_15 V15_15; clear hB)
    | ((with_reducible refine gate_ (.store 37 (.tmp 37) (.tmp 36)) rfl ?_); refine store_ 37 (.tmp 37) (.tmp 36) rfl rfl rfl go 18 ?hp (.slice A_18 (convs x.f9).length d_18) ?hx [.slice A_18 (convs x.f9).length d_18] ?hu ?ht ?h1 [.int .i64 x.f0, .int .i64 x.f1, .int .i64 x.f2.f0, .bool x.f2.f1, .int .i64 x.f2.f2.f0, .int .i64 x.f2.f2.f1, .int .i64 x.f2.f2.f2, .int .i64 x.f2.f2.f3, .int .i64 x.f2.f3.f0, .int .i64 x.f2.f3.f1, .int .i64 x.f2.f3.f2, .int .i64 x.f2.f3.f3, .slice A_12 (x.f3.map cvC).length d_12, .int .i64 x.f4, .int .i64 x.f5, .slice A_15 x.f6.length d_15, .int .i64 x.f7, .int .i64 x.f8, .slice none 0 0] _ T16.out.hou ?hf ?_; (case hp => first | rfl | (go_simp; done) | (go_simp; rfl)); (case hx => first | rfl | (go_simp; done) | (go_simp; rfl)); (case hu => rfl); (case ht => kernel_rfl); (case h1 => simp [Value.oneCell']); (case hf => simp); intro w17 hb hg; have T17 := Aside0.mk (T16.out.store (cur' := [.int .i64 x.f0, .int .i64 x.f1, .int .i64 x.f2.f0, .bool x.f2.f1, .int .i64 x.f2.f2.f0, .int .i64 x.f2.f2.f1, .int .i64 x.f2.f2.f2, .int .i64 x.f2.f2.f3, .int .i64 x.f2.f3.f0, .int .i64 x.f2.f3.f1, .int .i64 x.f2.f3.f2, .int .i64 x.f2.f3.f3, .slice A_12 (x.f3.map cvC).length d_12, .int .i64 x.f4, .int .i64 x.f5, .slice A_15 x.f6.length d_15, .int .i64 x.f7, .int .i64 x.f8, .slice A_18 (convs x.f9).length d_18]) hb hg); have Y17 := Aside0.mk ((hg.block gr (blk_lt Y16.out) (fun e => Nat.ne_of_lt NR.out (by injection e))).trans Y16.out); have V12_17 := Aside0.mk (R_stor V12_16.out hg (Nat.le_refl _)); have V15_17 := Aside0.mk (R_stor V15_16.out hg (Nat.le_refl _)); have V18_17 := Aside0.mk (R_stor V18_16.out hg (Nat.le_refl _)); have hq17 := T17.out.cell; clear hq16 T16 Y16 V12_16 V15_16 V18_16; clear hb hg)
    | ((with_reducible refine gate_dst (N := 38) rfl ?_); refine load_ 39 (.tmp 3) rfl rfl ⟨go, 0, none⟩ ?hx [.int .i64 x.f0, .int .i64 x.f1, .int .i64 x.f2.f0, .bool x.f2.f1, .int .i64 x.f2.f2.f0, .int .i64 x.f2.f2.f1, .int .i64 x.f2.f2.f2, .int .i64 x.f2.f2.f3, .int .i64 x.f2.f3.f0, .int .i64 x.f2.f3.f1, .int .i64 x.f2.f3.f2, .int .i64 x.f2.f3.f3, .slice A_12 (x.f3.map cvC).length d_12, .int .i64 x.f4, .int .i64 x.f5, .slice A_15 x.f6.length d_15, .int .i64 x.f7, .int .i64 x.f8, .slice A_18 (convs x.f9).length d_18] _ Tryz.underlying39 ?hi (sub_ T17.out.hou [] _ [] (by rfl)) ?_; (case hx => first | rfl | (go_simp; done) | (go_simp; rfl)); (case hi => kernel_rfl))
    | ((with_reducible refine gate_ (.store 39 (.tmp 2) (.tmp 38)) rfl ?_); refine store_ 39 (.tmp 2) (.tmp 38) rfl rfl rfl gr 0 ?hp (.agg [.int .i64 x.f0, .int .i64 x.f1, .int .i64 x.f2.f0, .bool x.f2.f1, .int .i64 x.f2.f2.f0, .int .i64 x.f2.f2.f1, .int .i64 x.f2.f2.f2, .int .i64 x.f2.f2.f3, .int .i64 x.f2.f3.f0, .int .i64 x.f2.f3.f1, .int .i64 x.f2.f3.f2, .int .i64 x.f2.f3.f3, .slice A_12 (x.f3.map cvC).length d_12, .int .i64 x.f4, .int .i64 x.f5, .slice A_15 x.f6.length d_15, .int .i64 x.f7, .int .i64 x.f8, .slice A_18 (convs x.f9).length d_18].toArray) ?hx [.int .i64 x.f0, .int .i64 x.f1, .int .i64 x.f2.f0, .bool x.f2.f1, .int .i64 x.f2.f2.f0, .int .i64 x.f2.f2.f1, .int .i64 x.f2.f2.f2, .int .i64 x.f2.f2.f3, .int .i64 x.f2.f3.f0, .int .i64 x.f2.f3.f1, .int .i64 x.f2.f3.f2, .int .i64 x.f2.f3.f3, .slice A_12 (x.f3.map cvC).length d_12, .int .i64 x.f4, .int .i64 x.f5, .slice A_15 x.f6.length d_15, .int .i64 x.f7, .int .i64 x.f8, .slice A_18 (convs x.f9).length d_18] ?hu ?ht ?h1 [.int .i64 0, .int .i64 0, .int .i64 0, .bool false, .int .i64 0, .int .i64 0, .int .i64 0, .int .i64 0, .int .i64 0, .int .i64 0, .int .i64 0, .int .i64 0, .slice none 0 0, .int .i64 0, .int .i64 0, .slice none 0 0, .int .i64 0, .int .i64 0, .slice none 0 0] _ Y17.out ?hf ?_; (case hp => first | rfl | (go_simp; done) | (go_simp; rfl)); (case hx => first | rfl | (go_simp; done) | (go_simp; rfl)); (case hu => rfl); (case ht => kernel_rfl); (case h1 => simp [Value.oneCell']); (case hf => simp); intro w18 hb hg; have YE := Aside0.mk hb; have HG := Aside0.mk hg; clear hb hg))
  have CUR : w18.heap[gr]? = some (.cells ([.int .i64 x.f0, .int .i64 x.f1, .int .i64 x.f2.f0, .bool x.f2.f1, .int .i64 x.f2.f2.f0, .int .i64 x.f2.f2.f1, .int .i64 x.f2.f2.f2, .int .i64 x.f2.f2.f3, .int .i64 x.f2.f3.f0, .int .i64 x.f2.f3.f1, .int .i64 x.f2.f3.f2, .int .i64 x.f2.f3.f3, .slice A_12 (x.f3.map cvC).length d_12, .int .i64 x.f4, .int .i64 x.f5, .slice A_15 x.f6.length d_15, .int .i64 x.f7, .int .i64 x.f8, .slice A_18 (convs x.f9).length d_18] : List Value).toArray 39 (0, 0)) := YE.out
  refine bodyPost_ret (v := .agg ([.int .i64 x.f0, .int .i64 x.f1, .int .i64 x.f2.f0, .bool x.f2.f1, .int .i64 x.f2.f2.f0, .int .i64 x.f2.f2.f1, .int .i64 x.f2.f2.f2, .int .i64 x.f2.f2.f3, .int .i64 x.f2.f3.f0, .int .i64 x.f2.f3.f1, .int .i64 x.f2.f3.f2, .int .i64 x.f2.f3.f3, .slice A_12 (x.f3.map cvC).length d_12, .int .i64 x.f4, .int .i64 x.f5, .slice A_15 x.f6.length d_15, .int .i64 x.f7, .int .i64 x.f8, .slice A_18 (convs x.f9).length d_18] : List Value).toArray) (results_cell_row rfl _ _ gr _ _ _ _ rfl CUR Tryz.underlying39 rfl (by kernel_rfl)) rfl ⟨_, rfl, ?_, T17.out.bel.grown HG.out T17.out.bel.size (fun k e => by injection e with e; rw [← e]; exact L2.out)⟩
  rw [conv_eq]
  exact k39_mkM _ _ _ (⟨x.f0, x.f1, cvT x.f2, x.f3.map cvC, x.f4, x.f5, x.f6, x.f7, x.f8, convs x.f9⟩ : S39) (Kd.R_mono (R_stor V12_17.out HG.out (Nat.le_of_lt NR.out)) (fun _ _ => trivial)) (Kd.R_mono (R_stor V15_17.out HG.out (Nat.le_of_lt NR.out)) (fun _ _ => trivial)) (Kd.R_mono (R_stor V18_17.out HG.out (Nat.le_of_lt NR.out)) (fun _ _ => trivial))
end Pl
namespace Pl
theorem convs_step (xs : List S30) (i : Nat) (h : i < xs.length) : ((xs.take i).map conv ++ List.replicate (xs.length - i) z39).set i (conv xs[i]) = (xs.take (i + 1)).map conv ++ List.replicate (xs.length - (i + 1)) z39 := by
  obtain ⟨d, hd⟩ : ∃ d, xs.length - i = d + 1 := ⟨xs.length - i - 1, by omega⟩
  have h2 : xs.length - (i + 1) = d := by omega
  rw [hd, h2, List.replicate_succ, List.set_append_right _ _ (by simp; omega), List.length_map, List.length_take, Nat.min_eq_left (by omega), Nat.sub_self, List.set_cons_zero,
    List.take_succ_eq_append_getElem h, List.map_append, List.append_assoc]
  rfl
set_option maxHeartbeats 8000000 in
set_option maxRecDepth 100000 in
theorem toPlanS_step (N : Nat) (hP : ∀ M, M ≤ N → ToP M) : ToS N := by
  intro xs A c w hn hr hc hm hok
  have HC := Aside0.mk hr
  have HN := Aside0.mk hn
  have OK := Aside0.mk hok
  have HP := Aside0.mk hP
  have HM := Aside0.mk hm
  clear hP hn hr hok hc
  go_enter Tryz.func23, Tryz.ntmps23
  go_wp2_with (first
    | ((with_reducible refine gate_dst (N := 7) rfl ?_); refine Kd.R_make k39 _ 39 rfl (N := 7) rfl 37 _ _ rfl (xs.length : Int) rfl rfl Tryz.underlying37 (.agg #[.int .i64 0, .int .i64 0, .int .i64 0, .bool false, .int .i64 0, .int .i64 0, .int .i64 0, .int .i64 0, .int .i64 0, .int .i64 0, .int .i64 0, .int .i64 0, .slice none 0 0, .int .i64 0, .int .i64 0, .slice none 0 0, .int .i64 0, .int .i64 0, .slice none 0 0]) 200 info39 rfl (by decide) (by omega) z39 (ok := fun _ => True) (okp := fun _ => True) (k39_mkM _ _ _ z39 (Kd.R_nil _ _ _ _ _) (Kd.R_nil _ _ _ _ _) (Kd.R_nil _ _ _ _ _)) (fun _ hk => hk) trivial (by omega) (by have := HM.out; omega) (Below.refl _ _) (Nat.le_refl _) ?_; intro v w4 ho hb hg hnew; have HO := Aside0.mk ho; have HB := Aside0.mk hb; clear hg hnew ho hb))
  go_loopw [4] (fun v4 wr => ∃ (i : Nat), v4 = .int .i64 i ∧ i ≤ xs.length ∧ Aside0 (Kd.R k39 39 wr w.heap.size (fun _ => True) v ((xs.take i).map conv ++ List.replicate (xs.length - i) z39)) ∧ Aside0 (Below w.heap.size w wr)) (fun v4 _ => xs.length - (intOf v4).toNat)
  case atStart => exact ⟨0, rfl, Nat.zero_le _, ⟨by simpa using HO.out⟩, HB⟩
  case round =>
    clear HO HB
    obtain ⟨i, rfl, hi, HO, HB⟩ := hrel
    by_cases hlt : i < xs.length
    · obtain ⟨ad, c0, rfl, hcl, hK, hcell⟩ := elem_ (Kd.C_below HC.out HB.out) i hlt
      have hsz := szs30_get hlt
      have CA := Aside0.mk (fun (w' : World) (hK' : k30.K w' xs[i] c0.toArray.toList) => HP.out (sz30 xs[i]) (by have := HN.out; omega) xs[i] c0.toArray w' (Nat.le_refl _) hK' (OK.out _ (List.getElem_mem hlt)))
      have HK := Aside0.mk (show k30.K wr xs[i] c0.toArray.toList from hK)
      have HE := Aside0.mk hcell
      have HL := Aside0.mk hcl
      obtain ⟨g, cap, rfl, hbg, hgl, -⟩ := Kd.R_form HO.out (by simp; omega)
      have hlen : ((xs.take i).map conv ++ List.replicate (xs.length - i) z39).length = xs.length := by simp; omega
      have HLT := Aside0.mk hlt
      have HGL := Aside0.mk hgl
      have HO1 := Aside0.mk (show Kd.R k39 39 wr w.heap.size (fun _ => True) (.slice (some ⟨g, 0, none⟩) xs.length cap) ((xs.take i).map conv ++ List.replicate (xs.length - i) z39) by have := HO.out; rw [hlen] at this; exact this)
      rw [hlen]
      clear hsz hK hcell hcl hbg hgl HO hlen
      go_wp2_with (first
        | ((with_reducible refine gate_dst (N := 19) rfl ?_); refine load_ 30 (.tmp 18) rfl rfl (ad.add (i * 19)) ?hx c0 _ Tryz.underlying30 ?hi HE.out ?_; (case hx => first | rfl | (go_simp; done) | (go_simp; rfl)); (case hi => rw [HL.out]; kernel_rfl))
        | (go_at_call 8; refine (CA.out _ HK.out).mono ?_; rintro e w2 ⟨cs', rfl, hM, hB2⟩; have HB2 := Aside0.mk (below_step HB.out hB2); have HO2 := Aside0.mk (Kd.R_below HO1.out hB2); have MM := Aside0.mk (k39.M_lower HB.out.size (k39.M_mono (ok' := fun k => k ≠ g) (fun k hk => by have := hk.2.1; have := HGL.out; omega) (k39.M_bound hM))); clear hB2 hM)
        | ((with_reducible refine gate_ (.store 39 (.tmp 21) (.tmp 20)) rfl ?_); refine Hid.out ?_))
      refine Lib.hid ?_
      obtain ⟨ce, hcl, hMe, hcc, hfr⟩ := Kd.R_elem HO2.out z39 (i : Int) (by omega) (by have := HLT.out; omega)
      have hl2 := k39.K_len (k39.K_of_M MM.out)
      have hce : ce.take 0 ++ cs' ++ ce.drop (0 + cs'.length) = cs' := by
        rw [List.take_zero, List.nil_append, List.drop_of_length_le (by rw [hcl, hl2]; omega), List.append_nil]
      refine Kd.R_store k39 (w0 := w) w.heap.size rfl rfl 39 (.tmp 21) (.tmp 20) rfl 39 (g := g) (n := xs.length) (cap := cap) (o' := i * 19) (i : Int) 0 _ (conv xs[i]) (.agg cs'.toArray) cs' ce (fun _ => True) (fun k => k ≠ g) ?haddr ?hoff ?hx (by rfl) ?ht ?h1 HO2.out (by omega) (by have := HLT.out; omega) hcl hcc ?hj (by rw [hce]; exact MM.out) (fun k hk => ⟨trivial, hk⟩) HB2.out ?_
      case haddr => first | rfl | (go_simp; done) | (go_simp; rfl)
      case hoff => rfl
      case hx => first | rfl | (go_simp; done) | (go_simp; rfl)
      case ht => rw [hl2]; kernel_rfl
      case h1 => exact fun q hq => k39.K_one (k39.K_of_M MM.out) q hq
      case hj => rw [hl2]; exact Nat.le_refl _
      intro w5 ho5 hb5 hg5
      have HO5 := Aside0.mk (show Kd.R k39 39 w5 w.heap.size (fun _ => True) (.slice (some ⟨g, 0, none⟩) xs.length cap) ((xs.take (i + 1)).map conv ++ List.replicate (xs.length - (i + 1)) z39) by rw [← convs_step xs i HLT.out]; exact ho5)
      have HB5 := Aside0.mk hb5
      clear ho5 hb5 hg5 hce hl2 hcc hfr hMe hcl HO2 HB2 MM HO1
      go_wp2
      go_roundw
      case rel => exact ⟨i + 1, by go_num, by omega, HO5, HB5⟩
      case measure => simp [intOf]; omega
    · have he : i = xs.length := by omega
      subst he
      have HE := Aside0.mk (show Kd.R k39 39 wr w.heap.size (fun _ => True) v (convs xs) by have := HO.out; simpa [convs_map] using this)
      clear HO
      go_wp2
      go_ret
      exact ⟨_, rfl, HE.out, HB.out⟩
theorem toP_all (N : Nat) : ToP N := by
  induction N using Nat.strongRecOn with
  | _ N ih =>
    cases N with
    | zero => intro x cs w hn; have := sz30_kids x; omega
    | succ N => exact toPlan_step N (toPlanS_step N (fun M hM => ih M (by omega)))
/-- **laws.toPlan**: the plan in new memory. -/
theorem toPlan_c (x : S30) (cs : Array Value) (w : World) (hK : k30.K w x cs.toList) (hok : Small30 x) :
    Calls Tryz.prog 8 #[.agg cs] w fun e w' => ∃ cs' : List Value, e = .returned (.agg cs'.toArray) ∧ k39.K w' (conv x) cs' ∧ Below w.heap.size w w' :=
  (toP_all _ x cs w (Nat.le_refl _) hK hok).mono fun _ _ ⟨cs', h, hM, hB⟩ => ⟨cs', h, k39.K_of_M hM, hB⟩
end Pl
namespace Pl
/-- Nothing in it is longer than the law lets by. -/
inductive Small39 : S39 → Prop
  | mk (x : S39) (h3 : x.f3.length ≤ 1048576) (h6 : x.f6.length ≤ 1048576) (h9 : x.f9.length ≤ 1048576) (hs : ∀ y, y ∈ x.f9 → Small39 y) : Small39 x
theorem Small39.out {x : S39} (h : Small39 x) : x.f3.length ≤ 1048576 ∧ x.f6.length ≤ 1048576 ∧ x.f9.length ≤ 1048576 ∧ ∀ y ∈ x.f9, Small39 y := by
  cases h with
  | mk _ h3 h6 h9 hs => exact ⟨h3, h6, h9, hs⟩
theorem small_conv {x : S30} (h : Small30 x) : Small39 (conv x) := by
  induction h with
  | mk x h3 h6 h9 hs ih =>
    rw [conv_eq]
    refine Small39.mk _ (by simpa using h3) h6 (by simpa [convs_map] using h9) (fun y hy => ?_)
    simp only [convs_map, List.mem_map] at hy
    obtain ⟨z, hz, rfl⟩ := hy
    exact ih z hz
open Classical in
/-- Two plans are one. -/
noncomputable def same (x y : S39) : Bool := decide (x = y)
open Classical in
noncomputable def sames (x y : List S39) : Bool := decide (x = y)
theorem ext_plan {x y : S39} (h0 : x.f0 = y.f0) (h1 : x.f1 = y.f1) (h2 : x.f2 = y.f2) (h3 : x.f3 = y.f3) (h4 : x.f4 = y.f4) (h5 : x.f5 = y.f5) (h6 : x.f6 = y.f6) (h7 : x.f7 = y.f7) (h8 : x.f8 = y.f8) (h9 : x.f9 = y.f9) : x = y := by
  cases x; cases y; simp only at h0 h1 h2 h3 h4 h5 h6 h7 h8 h9; subst h0 h1 h2 h3 h4 h5 h6 h7 h8 h9; rfl
theorem same_no {x y : S39} (h : ¬ x = y) : same x y = false := by simp [same, h]
theorem same_self (x : S39) : same x x = true := by simp [same]
theorem sames_iff {x y : List S39} : sames x y = true ↔ x = y := by simp [sames]
theorem same_iff {x y : S39} : same x y = true ↔ x = y := by simp [same]
theorem sames_no {x y : List S39} (h : ¬ x = y) : sames x y = false := by simp [sames, h]
theorem same_kids {x y : S39} (h0 : x.f0 = y.f0) (h1 : x.f1 = y.f1) (h2 : x.f2 = y.f2) (h3 : x.f3 = y.f3) (h4 : x.f4 = y.f4) (h5 : x.f5 = y.f5) (h6 : x.f6 = y.f6) (h7 : x.f7 = y.f7) (h8 : x.f8 = y.f8) : same x y = sames x.f9 y.f9 := by
  rw [Bool.eq_iff_iff, same_iff, sames_iff]
  exact ⟨fun h => by rw [h], fun h9 => ext_plan h0 h1 h2 h3 h4 h5 h6 h7 h8 h9⟩
theorem sames_drop (x y : List S39) (i : Nat) (hx : i < x.length) (hy : i < y.length) : sames (x.drop i) (y.drop i) = (same x[i] y[i] && sames (x.drop (i + 1)) (y.drop (i + 1))) := by
  rw [List.drop_eq_getElem_cons hx, List.drop_eq_getElem_cons hy, Bool.eq_iff_iff, sames_iff, Bool.and_eq_true, same_iff, sames_iff]
  exact ⟨fun h => by injection h with h1 h2; exact ⟨h1, h2⟩, fun h => by rw [h.1, h.2]⟩
end Pl
/-! Two plans that came in by value, each in its box. -/
namespace Pl
structure ES (w : World) (ga gb : Nat) (ca cb : Array Value) (W : World) : Prop where
  hA : W.heap[ga]? = some (.cells ca 39 (0, 0))
  hB : W.heap[gb]? = some (.cells cb 39 (0, 0))
  bel : Below w.heap.size w W
theorem ES.call {w : World} {ga gb : Nat} {ca cb : Array Value} {W W1 : World} (h : ES w ga gb ca cb W) (hb : Below W.heap.size W W1) : ES w ga gb ca cb W1 :=
  ⟨(hb.block ga (blk_lt h.hA)).trans h.hA, (hb.block gb (blk_lt h.hB)).trans h.hB, below_step h.bel hb⟩
theorem ES.cellA {w : World} {ga gb : Nat} {ca cb : Array Value} {W : World} (h : ES w ga gb ca cb W) (j : Nat) : W.cell? ⟨ga, j, none⟩ = ca[j]? := blk_cell h.hA j
theorem ES.cellB {w : World} {ga gb : Nat} {ca cb : Array Value} {W : World} (h : ES w ga gb ca cb W) (j : Nat) : W.cell? ⟨gb, j, none⟩ = cb[j]? := blk_cell h.hB j
end Pl
namespace Pl
def EqS (N : Nat) : Prop := ∀ (xs ys : List (S39)) (A B : Option Addr) (c d : Nat) (w : World), szs39 xs ≤ N → Kd.C k39 w A xs.length xs → xs.length ≤ c → Kd.C k39 w B ys.length ys → ys.length ≤ d → xs.length ≤ 1048576 → (∀ y ∈ xs, Small39 y) →
  Calls Tryz.prog 29 #[.slice A xs.length c, .slice B ys.length d] w fun e w' => e = .returned (.bool (sames xs ys)) ∧ Below w.heap.size w w'
def EqP (N : Nat) : Prop := ∀ (x y : S39) (ca cb : Array Value) (w : World), sz39 x ≤ N → k39.K w x ca.toList → k39.K w y cb.toList → Small39 x →
  Calls Tryz.prog 10 #[.agg ca, .agg cb] w fun e w' => e = .returned (.bool (same x y)) ∧ Below w.heap.size w w'
set_option maxHeartbeats 8000000 in
set_option maxRecDepth 100000 in
theorem eqPlan_step (N : Nat) (hS : EqS N) : EqP (N + 1) := by
  intro x y ca cb w hn hK hK' hok
  have hkids : szs39 x.f9 ≤ N := by have := sz39_kids x; omega
  obtain ⟨A12, c12, A15, c15, A18, c18, hca, l12, g12, l15, g15, l18, g18⟩ := k39_open hK
  obtain ⟨B12, d12, B15, d15, B18, d18, hcb, m12, j12, m15, j15, m18, j18⟩ := k39_open hK'
  have a0 : ca[0]? = some (.int .i64 x.f0) := by rw [← Array.getElem?_toList, hca]; rfl
  have a1 : ca[1]? = some (.int .i64 x.f1) := by rw [← Array.getElem?_toList, hca]; rfl
  have a12 : ca[12]? = some (.slice A12 x.f3.length c12) := by rw [← Array.getElem?_toList, hca]; rfl
  have a13 : ca[13]? = some (.int .i64 x.f4) := by rw [← Array.getElem?_toList, hca]; rfl
  have a14 : ca[14]? = some (.int .i64 x.f5) := by rw [← Array.getElem?_toList, hca]; rfl
  have a15 : ca[15]? = some (.slice A15 x.f6.length c15) := by rw [← Array.getElem?_toList, hca]; rfl
  have a16 : ca[16]? = some (.int .i64 x.f7) := by rw [← Array.getElem?_toList, hca]; rfl
  have a17 : ca[17]? = some (.int .i64 x.f8) := by rw [← Array.getElem?_toList, hca]; rfl
  have a18 : ca[18]? = some (.slice A18 x.f9.length c18) := by rw [← Array.getElem?_toList, hca]; rfl
  have HA := Aside0.mk (show ca.toList = [.int .i64 x.f0, .int .i64 x.f1] ++ (testCells x.f2 ++ [.slice A12 x.f3.length c12, .int .i64 x.f4, .int .i64 x.f5, .slice A15 x.f6.length c15, .int .i64 x.f7, .int .i64 x.f8, .slice A18 x.f9.length c18]) from hca)
  have b0 : cb[0]? = some (.int .i64 y.f0) := by rw [← Array.getElem?_toList, hcb]; rfl
  have b1 : cb[1]? = some (.int .i64 y.f1) := by rw [← Array.getElem?_toList, hcb]; rfl
  have b12 : cb[12]? = some (.slice B12 y.f3.length d12) := by rw [← Array.getElem?_toList, hcb]; rfl
  have b13 : cb[13]? = some (.int .i64 y.f4) := by rw [← Array.getElem?_toList, hcb]; rfl
  have b14 : cb[14]? = some (.int .i64 y.f5) := by rw [← Array.getElem?_toList, hcb]; rfl
  have b15 : cb[15]? = some (.slice B15 y.f6.length d15) := by rw [← Array.getElem?_toList, hcb]; rfl
  have b16 : cb[16]? = some (.int .i64 y.f7) := by rw [← Array.getElem?_toList, hcb]; rfl
  have b17 : cb[17]? = some (.int .i64 y.f8) := by rw [← Array.getElem?_toList, hcb]; rfl
  have b18 : cb[18]? = some (.slice B18 y.f9.length d18) := by rw [← Array.getElem?_toList, hcb]; rfl
  have HB := Aside0.mk (show cb.toList = [.int .i64 y.f0, .int .i64 y.f1] ++ (testCells y.f2 ++ [.slice B12 y.f3.length d12, .int .i64 y.f4, .int .i64 y.f5, .slice B15 y.f6.length d15, .int .i64 y.f7, .int .i64 y.f8, .slice B18 y.f9.length d18]) from hcb)
  have ok := hok.out
  have C12 := Aside0.mk (fun w hr hr' => eqCellS_c A12 c12 x.f3 B12 d12 y.f3 w ok.1 hr l12 hr' m12)
  have C15 := Aside0.mk (fun w hr hr' => eqIntS_c A15 c15 x.f6 B15 d15 y.f6 w ok.2.1 hr l15 hr' m15)
  have C18 := Aside0.mk (fun w hr hr' => hS x.f9 y.f9 A18 B18 c18 d18 w hkids hr l18 hr' m18 ok.2.2.1 ok.2.2.2)
  have G12 := Aside0.mk g12
  have G15 := Aside0.mk g15
  have G18 := Aside0.mk g18
  have J12 := Aside0.mk j12
  have J15 := Aside0.mk j15
  have J18 := Aside0.mk j18
  have T0 := Aside0.mk (Below.refl w.heap.size w)
  have KIDS := Aside0.mk (@same_kids x y)
  obtain ⟨t2, ht2⟩ : ∃ t, t = decide (x.f2 = y.f2) := ⟨_, rfl⟩
  obtain ⟨t3, ht3⟩ : ∃ t, t = decide (x.f3 = y.f3) := ⟨_, rfl⟩
  obtain ⟨t6, ht6⟩ : ∃ t, t = decide (x.f6 = y.f6) := ⟨_, rfl⟩
  obtain ⟨t9, ht9⟩ : ∃ t, t = sames x.f9 y.f9 := ⟨_, rfl⟩
  have C2 := Aside0.mk (fun w => eqTest_c x.f2 y.f2 w)
  rw [← ht2] at C2
  rw [← ht3] at C12
  rw [← ht6] at C15
  rw [← ht9] at C18
  have T2 := Aside0.mk ht2
  have T3 := Aside0.mk ht3
  have T6 := Aside0.mk ht6
  have T9 := Aside0.mk ht9
  clear ht2 ht3 ht6 ht9
  clear hS l12 l15 l18 g12 g15 g18 m12 m15 m18 j12 j15 j18 ok hok hca hcb hK hK' hkids hn
  go_enter Tryz.func10, Tryz.ntmps10
  go_wp2_with (first
    | ((with_reducible refine gate_dst (N := 2) rfl ?_); refine box_ 39 (.tmp 0) rfl rfl ca rfl ?_; intro ga hga w1 hb1 hB1; have B1 := Aside0.mk (below_step T0.out hB1); have X1 := Aside0.mk hb1; clear hb1 hB1 hga T0)
    | ((with_reducible refine gate_dst (N := 3) rfl ?_); refine box_ 39 (.tmp 1) rfl rfl cb rfl ?_; intro gb hgb w2 hb2 hB2; have E := Aside0.mk (show ES w ga gb ca cb w2 from ⟨(hB2.block ga (blk_lt X1.out)).trans X1.out, hb2, below_step B1.out hB2⟩); have qa := E.out.cellA; have qb := E.out.cellB; clear hb2 hB2 hgb B1 X1)
    | ((with_reducible refine gate_dst (N := 16) rfl ?_); refine load_ 35 (.tmp 15) rfl rfl ⟨ga, 2, none⟩ ?hx (testCells x.f2) _ Tryz.underlying35 ?hi (sub_ E.out.hA _ _ _ HA.out) ?_; (case hx => first | rfl | (go_simp; done) | (go_simp; rfl)); (case hi => kernel_rfl))
    | ((with_reducible refine gate_dst (N := 18) rfl ?_); refine load_ 35 (.tmp 17) rfl rfl ⟨gb, 2, none⟩ ?hx (testCells y.f2) _ Tryz.underlying35 ?hi (sub_ E.out.hB _ _ _ HB.out) ?_; (case hx => first | rfl | (go_simp; done) | (go_simp; rfl)); (case hi => kernel_rfl))
    | (go_at_call 26; refine (C2.out _).mono ?_; rintro e w3 ⟨rfl, hB⟩; have E2 := Aside0.mk (E.out.call hB); clear qa qb E; have E := E2; have qa := E.out.cellA; have qb := E.out.cellB; clear hB E2)
    | (go_at_call 27; refine (C12.out _ (Kd.C_below G12.out E.out.bel) (Kd.C_below J12.out E.out.bel)).mono ?_; rintro e w4 ⟨rfl, hB⟩; have E2 := Aside0.mk (E.out.call hB); clear qa qb E; have E := E2; have qa := E.out.cellA; have qb := E.out.cellB; clear hB E2)
    | (go_at_call 28; refine (C15.out _ (Kd.C_below G15.out E.out.bel) (Kd.C_below J15.out E.out.bel)).mono ?_; rintro e w5 ⟨rfl, hB⟩; have E2 := Aside0.mk (E.out.call hB); clear qa qb E; have E := E2; have qa := E.out.cellA; have qb := E.out.cellB; clear hB E2)
    | (go_at_call 29; refine (C18.out _ (Kd.C_below G18.out E.out.bel) (Kd.C_below J18.out E.out.bel)).mono ?_; rintro e w6 ⟨rfl, hB⟩; have E2 := Aside0.mk (E.out.call hB); clear qa qb E; have E := E2; have qa := E.out.cellA; have qb := E.out.cellB; clear hB E2))
  all_goals go_ret
  all_goals (refine ⟨?_, E.out.bel⟩)
  all_goals clear C2 C12 C15 C18 G12 G15 G18 J12 J15 J18 E qa qb
  · rw [same_no (x := x) (y := y) (fun e => by have h : (x.f0 != y.f0) = true := (by assumption); rw [e] at h; simp at h)]; rfl
  · rw [same_no (x := x) (y := y) (fun e => by have h : (x.f1 != y.f1) = true := (by assumption); rw [e] at h; simp at h)]; rfl
  · rw [same_no (x := x) (y := y) (fun e => by have h : (!t2) = true := (by assumption); rw [T2.out] at h; rw [e] at h; simp at h)]; rfl
  · rw [same_no (x := x) (y := y) (fun e => by have h : (!t3) = true := (by assumption); rw [T3.out] at h; rw [e] at h; simp at h)]; rfl
  · rw [same_no (x := x) (y := y) (fun e => by have h : (x.f4 != y.f4) = true := (by assumption); rw [e] at h; simp at h)]; rfl
  · rw [same_no (x := x) (y := y) (fun e => by have h : (x.f5 != y.f5) = true := (by assumption); rw [e] at h; simp at h)]; rfl
  · rw [same_no (x := x) (y := y) (fun e => by have h : (!t6) = true := (by assumption); rw [T6.out] at h; rw [e] at h; simp at h)]; rfl
  · rw [same_no (x := x) (y := y) (fun e => by have h : (x.f7 != y.f7) = true := (by assumption); rw [e] at h; simp at h)]; rfl
  · rw [same_no (x := x) (y := y) (fun e => by have h : (x.f8 != y.f8) = true := (by assumption); rw [e] at h; simp at h)]; rfl
  · rw [same_no (x := x) (y := y) (fun e => by have h : (!t9) = true := (by assumption); rw [T9.out, e, sames_iff.2 rfl] at h; simp at h)]; rfl
  · rw [KIDS.out (by have h : (x.f0 != y.f0) = false := (by assumption); simpa using h) (by have h : (x.f1 != y.f1) = false := (by assumption); simpa using h) (by have h : (!t2) = false := (by assumption); rw [T2.out] at h; simpa using h) (by have h : (!t3) = false := (by assumption); rw [T3.out] at h; simpa using h) (by have h : (x.f4 != y.f4) = false := (by assumption); simpa using h) (by have h : (x.f5 != y.f5) = false := (by assumption); simpa using h) (by have h : (!t6) = false := (by assumption); rw [T6.out] at h; simpa using h) (by have h : (x.f7 != y.f7) = false := (by assumption); simpa using h) (by have h : (x.f8 != y.f8) = false := (by assumption); simpa using h), ← T9.out]
    have h : (!t9) = false := by assumption
    have h2 : t9 = true := by simpa using h
    rw [h2]; rfl
end Pl
namespace Pl
section
variable {P : Program} {ops : Array Oper} {rest : List Oper} {o : Oper} {a : Act} {Q : Act → Prop}
/-- The same load in a statement that draws its order. -/
theorem still_load_ {W : World} (ty : TypeId) (x : Operand) (ho : o.op = .load ty x) (hw : Region.wanted o (yielded ops a.tmps) = true) (ad : Addr) (hx : a.eval x = .pointer (some ad)) (cs : List Value) (fs : Array Field) (hu : P.underlying ty = some (.struct fs)) (hi : (P.info? ty).map (·.size) = some cs.length)
    (hc : ∀ j v, cs[j]? = some v → W.cell? (ad.add j) = some v) (h : wpStill P ops W Q rest (a.put o.dst (.agg cs.toArray))) : wpStill P ops W Q (o :: rest) a := by
  have hl : (loadCells ad cs.length).run P W = .ok cs.toArray W := run_loadCells_list (P := P) W ad cs hc
  have hr : (loadVar ty ad).run P W = .ok (.agg cs.toArray) W := by
    cases hq : P.info? ty with
    | none => simp [hq] at hi
    | some i =>
      have hs : i.size = cs.length := by simpa [hq] using hi
      have hagg : (isAgg ty).run P W = .ok true W := by
        unfold isAgg
        rw [Sem.run_bind, run_underlying hu W]
        simp
      simp [loadVar, Sem.run_bind, hagg, sizeOf, typeInfo, hq, hs, hl]
  show if Region.wanted o (yielded ops a.tmps) = true then o.still P a W (wpStill P ops W Q rest) else _
  rw [if_pos hw]
  unfold Oper.still execOp
  simp only [ho, hx, Instr.loadAt, Instr.sureAddr, Sem.run_bind, Sem.run_pure, Result.andThen_ok, hr]
  exact ⟨rfl, h⟩
end
theorem sames_end (xs ys : List S39) (i : Nat) (h : xs.length ≤ i) (h' : ys.length ≤ i) : sames (xs.drop i) (ys.drop i) = true := by
  rw [List.drop_of_length_le h, List.drop_of_length_le h', sames_iff]
set_option maxHeartbeats 8000000 in
set_option maxRecDepth 100000 in
theorem eqPlanS_step (N : Nat) (hP : ∀ M, M ≤ N → EqP M) : EqS N := by
  intro xs ys A B c d w hn hr hc hr' hd hm hok
  by_cases hl : xs.length = ys.length
  rotate_left
  · have b1 : ((xs.length : Int) == (ys.length : Int)) = false := by simp; omega
    have b2 : ((xs.length : Int) != (ys.length : Int)) = true := by simp; omega
    have b3 : (xs.length == ys.length) = false := by simp; omega
    have b4 : (xs.length != ys.length) = true := by simp; omega
    have HR := Aside0.mk (sames_no (x := xs) (y := ys) (fun e => hl (by rw [e])))
    clear hl hr hr' hP hok hn
    go_enter Tryz.func29, Tryz.ntmps29
    go_wp2
    go_ret
    exact ⟨by rw [HR.out]; rfl, Below.refl _ _⟩
  have b1 : ((xs.length : Int) == (ys.length : Int)) = true := by simp; omega
  have b2 : ((xs.length : Int) != (ys.length : Int)) = false := by simp; omega
  have b3 : (xs.length == ys.length) = true := by simp; omega
  have b4 : (xs.length != ys.length) = false := by simp; omega
  have HL := Aside0.mk hl
  have HC := Aside0.mk hr
  have HD := Aside0.mk hr'
  have HN := Aside0.mk hn
  have OK := Aside0.mk hok
  have HP := Aside0.mk hP
  clear hP hn hr hr' hok hc hd hl
  go_enter Tryz.func29, Tryz.ntmps29
  go_wp2
  go_loopw [5] (fun v5 wr => ∃ (i : Nat), v5 = .int .i64 i ∧ i ≤ xs.length ∧ Aside0 (sames xs ys = sames (xs.drop i) (ys.drop i)) ∧ Aside0 (Below w.heap.size w wr)) (fun v5 _ => xs.length - (intOf v5).toNat)
  case atStart => exact ⟨0, rfl, Nat.zero_le _, ⟨rfl⟩, ⟨Below.refl _ _⟩⟩
  case round =>
    obtain ⟨i, rfl, hi, HA, HB⟩ := hrel
    by_cases hlt : i < xs.length
    · have hlt' : i < ys.length := by have := HL.out; omega
      obtain ⟨ad, c0, rfl, hcl, hK, hcell⟩ := elem_ (Kd.C_below HC.out HB.out) i hlt
      obtain ⟨bd, d0, rfl, hdl, hK', hdell⟩ := elem_ (Kd.C_below HD.out HB.out) i hlt'
      have hsz := szs39_get hlt
      have CA := Aside0.mk (fun (w' : World) (hK : k39.K w' xs[i] c0.toArray.toList) (hK' : k39.K w' ys[i] d0.toArray.toList) => HP.out (sz39 xs[i]) (by have := HN.out; omega) xs[i] ys[i] c0.toArray d0.toArray w' (Nat.le_refl _) hK hK' (OK.out _ (List.getElem_mem hlt)))
      have HK := Aside0.mk (show k39.K wr.drew xs[i] c0.toArray.toList from k39.K_below (Below.refl _ _).drew hK)
      have HK' := Aside0.mk (show k39.K wr.drew ys[i] d0.toArray.toList from k39.K_below (Below.refl _ _).drew hK')
      have HE := Aside0.mk hcell
      have HE' := Aside0.mk hdell
      have LC := Aside0.mk hcl
      have LD := Aside0.mk hdl
      have GD := Aside0.mk (HA.out.trans (sames_drop xs ys i hlt hlt'))
      obtain ⟨r, hr⟩ : ∃ r, r = same xs[i] ys[i] := ⟨_, rfl⟩
      rw [← hr] at CA GD
      clear hsz hK hK' hcell hdell hcl hdl HA hr
      go_wp2
      refine wp_region_still_tail 8 (by kernel_rfl) (by kernel_rfl) ?_
      simp only [List.take_succ_cons, List.take_zero, List.drop_succ_cons, List.drop_zero]
      still_step
      still_step
      still_step
      refine still_load_ 39 (.tmp 19) rfl rfl (ad.add (i * 19)) ?hx c0 _ Tryz.underlying39 ?hi HE.out ?_
      case hx => first | rfl | (go_simp; done) | (go_simp; rfl)
      case hi => rw [LC.out]; kernel_rfl
      still_step
      still_step
      still_step
      refine still_load_ 39 (.tmp 23) rfl rfl (bd.add (i * 19)) ?hx2 d0 _ Tryz.underlying39 ?hi2 HE'.out ?_
      case hx2 => first | rfl | (go_simp; done) | (go_simp; rfl)
      case hi2 => rw [LD.out]; kernel_rfl
      refine wpStill_nil ?_
      change wpList _ _ _ _ _ wr.drew
      have HBD := Aside0.mk (HB.out.drew)
      obtain ⟨wd, hwd⟩ : ∃ wd, wd = wr.drew := ⟨_, rfl⟩
      rw [← hwd] at HK HK' HBD ⊢
      clear hwd
      go_wp2_with (first
        | (go_at_call 10; refine (CA.out _ HK.out HK'.out).mono ?_; rintro e w2 ⟨rfl, hB2⟩; have HB2 := Aside0.mk (below_step HBD.out hB2); clear hB2))
      · go_ret
        exact ⟨by rw [GD.out]; have h : (!r) = true := (by assumption); have h2 : r = false := (by simpa using h); rw [h2]; rfl, HB2.out⟩
      · go_roundw
        case rel => exact ⟨i + 1, by go_num, by omega, ⟨by rw [GD.out]; have h : (!r) = false := (by assumption); have h2 : r = true := (by simpa using h); rw [h2]; rfl⟩, HB2⟩
        case measure => simp [intOf]; omega
    · have GE := Aside0.mk (HA.out.trans (sames_end xs ys i (by omega) (by have := HL.out; omega)))
      go_wp2
      go_ret
      exact ⟨by rw [GE.out]; rfl, HB.out⟩
theorem eqP_all (N : Nat) : EqP N := by
  induction N using Nat.strongRecOn with
  | _ N ih =>
    cases N with
    | zero => intro x y ca cb w hn; have := sz39_kids x; omega
    | succ N => exact eqPlan_step N (eqPlanS_step N (fun M hM => ih M (by omega)))
/-- **laws.eqPlan**: are two plans one? -/
theorem eqPlan_c (x y : S39) (ca cb : Array Value) (w : World) (hK : k39.K w x ca.toList) (hK' : k39.K w y cb.toList) (hok : Small39 x) :
    Calls Tryz.prog 10 #[.agg ca, .agg cb] w fun e w' => e = .returned (.bool (same x y)) ∧ Below w.heap.size w w' := eqP_all _ x y ca cb w (Nat.le_refl _) hK hK' hok
end Pl
theorem eqA35 (d:Nat) (w:World) (x0 y0:Int) (x1 y1:Bool) (x2 y2:Int) (x3 y3:Int) (x4 y4:Int) (x5 y5:Int) (x6 y6:Int) (x7 y7:Int) (x8 y8:Int) (x9 y9:Int) :
  (Op.equalIn (d + 3) 35 (.agg #[.int .i64 x0,.bool x1,.int .i64 x2,.int .i64 x3,.int .i64 x4,.int .i64 x5,.int .i64 x6,.int .i64 x7,.int .i64 x8,.int .i64 x9]) (.agg #[.int .i64 y0,.bool y1,.int .i64 y2,.int .i64 y3,.int .i64 y4,.int .i64 y5,.int .i64 y6,.int .i64 y7,.int .i64 y8,.int .i64 y9])).run Tryz.prog w=.ok (x0 == y0 && (x1 == y1 && ((x2 == y2 && (x3 == y3 && (x4 == y4 && (x5 == y5)))) && ((x6 == y6 && (x7 == y7 && (x8 == y8 && (x9 == y9)))))))) w:=by
 refine eqA_of Tryz.underlying35 (by kernel_rfl) ?_
 refine eqf_cons (by rfl) (by go_simp;rfl) (by go_simp;rfl) (by go_simp) ?_
 refine eqf_cons (by rfl) (by go_simp;rfl) (by go_simp;rfl) (by go_simp) ?_
 refine eqf_cons (by rfl) (by go_simp) (by go_simp) (eqA33 (d + 0) w _ _ _ _ _ _ _ _) ?_
 exact eqf_last (by rfl) (by go_simp) (by go_simp) (eqA33 (d + 0) w _ _ _ _ _ _ _ _)
namespace Pl
theorem test_bool (x y : S35) : (x.f0 == y.f0 && (x.f1 == y.f1 && ((x.f2.f0 == y.f2.f0 && (x.f2.f1 == y.f2.f1 && (x.f2.f2 == y.f2.f2 && (x.f2.f3 == y.f2.f3)))) && ((x.f3.f0 == y.f3.f0 && (x.f3.f1 == y.f3.f1 && (x.f3.f2 == y.f3.f2 && (x.f3.f3 == y.f3.f3)))))))) = decide (x = y) := by
  rw [Bool.eq_iff_iff]
  simp only [Bool.and_eq_true, beq_iff_eq, decide_eq_true_eq]
  constructor
  · rintro ⟨h0, h1, ⟨a0, a1, a2, a3⟩, b0, b1, b2, b3⟩
    exact ext_test h0 h1 (ext_cell a0 a1 a2 a3) (ext_cell b0 b1 b2 b3)
  · rintro rfl
    exact ⟨rfl, rfl, ⟨rfl, rfl, rfl, rfl⟩, rfl, rfl, rfl, rfl⟩
theorem eqT (d : Nat) (w : World) (x y : S35) : (Op.equalIn (d + 3) 35 (.agg (testCells x).toArray) (.agg (testCells y).toArray)).run Tryz.prog w = .ok (decide (x = y)) w := by
  rw [← test_bool]
  exact eqA35 d w _ _ _ _ _ _ _ _ _ _ _ _ _ _ _ _ _ _ _ _
def cellCells (x : S33) : List Value := [.int .i64 x.f0, .int .i64 x.f1, .int .i64 x.f2, .int .i64 x.f3]
theorem eqC (d : Nat) (w : World) (x y : S33) : (Op.equalIn (d + 2) 33 (.agg (cellCells x).toArray) (.agg (cellCells y).toArray)).run Tryz.prog w = .ok (decide (x = y)) w := by
  have h : (x.f0 == y.f0 && (x.f1 == y.f1 && (x.f2 == y.f2 && (x.f3 == y.f3)))) = decide (x = y) := by
    rw [Bool.eq_iff_iff]
    simp only [Bool.and_eq_true, beq_iff_eq, decide_eq_true_eq]
    exact ⟨fun ⟨a, b, c, d⟩ => ext_cell a b c d, fun e => by rw [e]; exact ⟨rfl, rfl, rfl, rfl⟩⟩
  rw [← h]
  exact eqA33 d w _ _ _ _ _ _ _ _
section
variable {P : Program} {ops : Array Oper} {rest : List Oper} {o : Oper} {a : Act} {Q : Exit → Act → World → Prop}
/-- A struct is loaded whole, by an operation that is guarded (and let by). -/
theorem loadW_ {W : World} (ty : TypeId) (x : Operand) (ho : o.op = .load ty x) (hw : Region.wanted o (yielded ops a.tmps) = true) (ad : Addr) (hx : a.eval x = .pointer (some ad)) (cs : List Value) (fs : Array Field) (hu : P.underlying ty = some (.struct fs)) (hi : (P.info? ty).map (·.size) = some cs.length)
    (hc : ∀ j v, cs[j]? = some v → W.cell? (ad.add j) = some v) (h : wpList P ops Q rest (a.put o.dst (.agg cs.toArray)) W) : wpList P ops Q (o :: rest) a W := by
  refine wpList_step fun K hK => ?_
  rw [if_pos hw]
  have hl : (loadCells ad cs.length).run P W = .ok cs.toArray W := run_loadCells_list (P := P) W ad cs hc
  have hr : (loadVar ty ad).run P W = .ok (.agg cs.toArray) W := by
    cases hq : P.info? ty with
    | none => simp [hq] at hi
    | some i =>
      have hs : i.size = cs.length := by simpa [hq] using hi
      have hagg : (isAgg ty).run P W = .ok true W := by
        unfold isAgg
        rw [Sem.run_bind, run_underlying hu W]
        simp
      simp [loadVar, Sem.run_bind, hagg, sizeOf, typeInfo, hq, hs, hl]
  unfold Oper.wp execOp
  simp only [ho, hx, Instr.loadAt, Instr.sureAddr, Sem.run_bind, Sem.run_pure, Result.andThen_ok, hr]
  exact hK _ _ h
end
end Pl

end Go.Proofs.YtlpgnkndjmfcjaaGreat.PFnExactPlanMany
