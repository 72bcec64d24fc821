/- How a map of seven interface values is made and looked up. The program's parts holds a part for each of the seven kinds. What each kind's part keeps of a plan. -/
import Derived.Test.YtlpgnkndjmfcjaaGreatPlRng
namespace Go.Proofs.YtlpgnkndjmfcjaaGreat.PFnPlanUses
open Go.RowKit Go.Proofs.YtlpgnkndjmfcjaaGreatW.PrintWords Go.Proofs.YtlpgnkndjmfcjaaGreatW.PrintLast Go.Proofs.YtlpgnkndjmfcjaaGreatW.PrintMore
attribute [local go_sem] max2_int min2_int max_two min_two max_three min_three max_four min_four   -- for this text's walks alone
set_option linter.unusedVariables false
set_option linter.unusedSimpArgs false
namespace Pl
/-! ### The map of the kinds of parts -/
section
variable {P : Program} {ops : Array Oper} {rest : List Oper} {o : Oper} {a : Act} {Q : Exit → Act → World → Prop}
/-- A new map is made. -/
theorem makeMap_ {W : World} (t : TypeId) (ho : o.op = .makeMap t none) (hgd : o.guard = none)
    (h : ∀ b, b = W.heap.size → ∀ w1, w1.heap[b]? = some (.map #[] 0) → Below W.heap.size W w1 → wpList P ops Q rest (a.put o.dst (.map (some b))) w1) : wpList P ops Q (o :: rest) a W := by
  refine Kd.event_run hgd ?_ (h _ rfl _ (blk_new W _) (below_alloc (Below.refl _ _) _))
  unfold execOp
  simp only [ho]
  simp [Instr.makeMap, run_newObj_alloc, go_sem]
theorem findKey_now {es : List MapEntry} {kt : TypeId} {k : Value} {d : TypeDesc} {r : Option (Nat × Value)} {W : World} (hu : P.underlying kt = some d) (hr : Instr.findNow d k es 0 = some r) : (Instr.findKey kt k es).run P W = .ok r W := by
  unfold Instr.findKey
  rw [Sem.run_bind, run_underlying hu W]
  simp [hr]
theorem checkKey_int {e : Bool} {n : Nat} {kt : TypeId} {q : Int} {W : World} (hu : P.underlying kt = some (.int .i64)) : (Instr.checkKey e (n + 1) kt (.int .i64 q)).run P W = .ok () W := by
  unfold Instr.checkKey
  rw [Sem.run_bind, run_underlying hu W]
  rfl
/-- A key that isn't there yet is put into a map. -/
theorem insert_ {W : World} (t : TypeId) (m k x : Operand) (ho : o.op = .insert t m k x) (hd : o.dst = none) (hgd : o.guard = none) (b : Nat) (hm : a.eval m = .map (some b)) (q : Int) (hk : a.eval k = .int .i64 q) (v : Value) (hx : a.eval x = v)
    (kt et : TypeId) (hu : P.underlying t = some (.map kt et)) (hki : P.underlying kt = some (.int .i64)) (es : Array MapEntry) (clock : Nat) (hb : W.heap[b]? = some (.map es clock)) (hn : Instr.findNow (.int .i64) (.int .i64 q) es.toList 0 = some none)
    (h : ∀ w1, w1.heap[b]? = some (.map (es.push { key := .int .i64 q, val := v, born := clock }) (clock + 1)) → W.grownBy w1 (some b) → wpList P ops Q rest a w1) : wpList P ops Q (o :: rest) a W := by
  have hlt : b < W.heap.size := (Array.getElem?_eq_some_iff.1 hb).1
  have hrun : (Instr.mapUpdate t (.map (some b)) (.int .i64 q) v).run P W = .ok () (W.putObj b (.map (es.push { key := .int .i64 q, val := v, born := clock }) (clock + 1))) := by
    have hg : (getObj b).run P W = .ok (.map es clock) W := by simp [getObj, Sem.run, hb]
    have hs : (setObj b (.map (es.push { key := .int .i64 q, val := v, born := clock }) (clock + 1))).run P W = .ok () (W.putObj b (.map (es.push { key := .int .i64 q, val := v, born := clock }) (clock + 1))) := by simp [setObj, Sem.run, hb, World.putObj]
    unfold Instr.mapUpdate
    rw [Sem.run_bind, run_underlying hu W]
    simp only [Result.andThen_ok, Sem.run_bind, hg, checkKey_int hki, findKey_now hki hn, hs]
  refine wpList_plain hgd fun K hK => ?_
  unfold Oper.wp execOp
  simp only [ho, hm, hk, hx, Sem.run_bind, Sem.run_pure, Result.andThen_ok, hrun]
  show K (a.put o.dst undef) _
  rw [hd]
  exact hK a _ (h _ (World.putObj_heap_same hlt) ⟨rfl, rfl, rfl, by simp, fun i _ hi => World.putObj_heap_other (fun e => hi (by rw [e]))⟩)
end
end Pl
namespace Pl
def partsEs : Array MapEntry := #[{ key := .int .i64 1, val := .iface 92 (.agg #[]), born := 0 }, { key := .int .i64 2, val := .iface 93 (.agg #[]), born := 1 }, { key := .int .i64 3, val := .iface 94 (.agg #[]), born := 2 }, { key := .int .i64 4, val := .iface 95 (.agg #[]), born := 3 }, { key := .int .i64 5, val := .iface 96 (.agg #[]), born := 4 }, { key := .int .i64 6, val := .iface 97 (.agg #[]), born := 5 }, { key := .int .i64 7, val := .iface 98 (.agg #[]), born := 6 }]
/-- What the map of the kinds holds for a number. -/
def partV (q : Int) : Option Value :=
  if q = 1 then some (.iface 92 (.agg #[])) else if q = 2 then some (.iface 93 (.agg #[])) else if q = 3 then some (.iface 94 (.agg #[])) else if q = 4 then some (.iface 95 (.agg #[])) else if q = 5 then some (.iface 96 (.agg #[])) else if q = 6 then some (.iface 97 (.agg #[])) else if q = 7 then some (.iface 98 (.agg #[])) else none
theorem parts_find (q : Int) : Instr.findNow (.int .i64) (.int .i64 q) partsEs.toList 0 = some (match partV q with | some v => some ((q - 1).toNat, v) | none => none) := by
  unfold partV
  by_cases h1 : q = 1
  · subst h1; rfl
  by_cases h2 : q = 2
  · subst h2; rfl
  by_cases h3 : q = 3
  · subst h3; rfl
  by_cases h4 : q = 4
  · subst h4; rfl
  by_cases h5 : q = 5
  · subst h5; rfl
  by_cases h6 : q = 6
  · subst h6; rfl
  by_cases h7 : q = 7
  · subst h7; rfl
  rw [if_neg h1, if_neg h2, if_neg h3, if_neg h4, if_neg h5, if_neg h6, if_neg h7]
  have b1 : (q == 1) = false := by simpa using h1
  have b2 : (q == 2) = false := by simpa using h2
  have b3 : (q == 3) = false := by simpa using h3
  have b4 : (q == 4) = false := by simpa using h4
  have b5 : (q == 5) = false := by simpa using h5
  have b6 : (q == 6) = false := by simpa using h6
  have b7 : (q == 7) = false := by simpa using h7
  simp [partsEs, Instr.findNow, Instr.sameNow, b1, b2, b3, b4, b5, b6, b7]
/-- A look into the map of the kinds. -/
theorem parts_look {W : World} {b : Nat} (hb : W.heap[b]? = some (.map partsEs 7)) (q : Int) (ok : Bool) : (Instr.lookup 81 (.map (some b)) (.int .i64 q) ok).run Tryz.prog W = .ok (if ok then .tuple #[(partV q).getD .nilIface, .bool (partV q).isSome] else (partV q).getD .nilIface) W := by
  have hg : (getObj b).run Tryz.prog W = .ok (.map partsEs 7) W := by simp [getObj, Sem.run, hb]
  have hz : (zeroValue 80).run Tryz.prog W = .ok .nilIface W := by have := Tryz.zeroValue80 W; exact this
  unfold Instr.lookup
  rw [Sem.run_bind, run_underlying Tryz.underlying81 W]
  simp only [Result.andThen_ok, Sem.run_bind, Sem.run_pure, hg, checkKey_int Tryz.underlying3, findKey_now Tryz.underlying3 (parts_find q)]
  cases hq : partV q with
  | none => simp only [Sem.run_bind, Sem.run_pure, Result.andThen_ok, hz]; cases ok <;> rfl
  | some v => simp only [Sem.run_bind, Sem.run_pure, Result.andThen_ok]; cases ok <;> rfl
set_option maxHeartbeats 4000000 in
set_option maxRecDepth 100000 in
/-- **impl.parts** -/
theorem parts_c (w : World) : Calls Tryz.prog 48 #[] w fun e w' => ∃ b, e = .returned (.map (some b)) ∧ w'.heap[b]? = some (.map partsEs 7) ∧ Below w.heap.size w w' := by
  go_enter Tryz.func48, Tryz.ntmps48
  go_wp2_with (first
    | ((with_reducible refine gate_dst (N := 1) rfl ?_); refine makeMap_ 81 rfl rfl ?_; intro b hg w1 hb hB; have M0 := Aside0.mk hb; have B0 := Aside0.mk hB; have G := Aside0.mk (show w.heap.size ≤ b by rw [hg]; exact Nat.le_refl _); clear hb hB hg)
    | ((with_reducible refine gate_ (.insert 81 (.tmp 1) (.const (.int .i64 1)) (.tmp 3)) rfl ?_); refine insert_ 81 (.tmp 1) (.const (.int .i64 1)) (.tmp 3) rfl rfl rfl b ?hm 1 rfl (.iface 92 (.agg #[])) ?hx _ _ Tryz.underlying81 Tryz.underlying3 _ _ M0.out rfl ?_; (case hm => first | rfl | (go_simp; done) | (go_simp; rfl)); (case hx => first | rfl | (go_simp; done) | (go_simp; rfl)); intro w2 hb hg; have M1 := Aside0.mk hb; have B1 := Aside0.mk (B0.out.grown hg B0.out.size (fun k e => by cases e; exact G.out)); clear hb hg M0 B0)
    | ((with_reducible refine gate_ (.insert 81 (.tmp 1) (.const (.int .i64 2)) (.tmp 5)) rfl ?_); refine insert_ 81 (.tmp 1) (.const (.int .i64 2)) (.tmp 5) rfl rfl rfl b ?hm 2 rfl (.iface 93 (.agg #[])) ?hx _ _ Tryz.underlying81 Tryz.underlying3 _ _ M1.out rfl ?_; (case hm => first | rfl | (go_simp; done) | (go_simp; rfl)); (case hx => first | rfl | (go_simp; done) | (go_simp; rfl)); intro w3 hb hg; have M2 := Aside0.mk hb; have B2 := Aside0.mk (B1.out.grown hg B1.out.size (fun k e => by cases e; exact G.out)); clear hb hg M1 B1)
    | ((with_reducible refine gate_ (.insert 81 (.tmp 1) (.const (.int .i64 3)) (.tmp 7)) rfl ?_); refine insert_ 81 (.tmp 1) (.const (.int .i64 3)) (.tmp 7) rfl rfl rfl b ?hm 3 rfl (.iface 94 (.agg #[])) ?hx _ _ Tryz.underlying81 Tryz.underlying3 _ _ M2.out rfl ?_; (case hm => first | rfl | (go_simp; done) | (go_simp; rfl)); (case hx => first | rfl | (go_simp; done) | (go_simp; rfl)); intro w4 hb hg; have M3 := Aside0.mk hb; have B3 := Aside0.mk (B2.out.grown hg B2.out.size (fun k e => by cases e; exact G.out)); clear hb hg M2 B2)
    | ((with_reducible refine gate_ (.insert 81 (.tmp 1) (.const (.int .i64 4)) (.tmp 9)) rfl ?_); refine insert_ 81 (.tmp 1) (.const (.int .i64 4)) (.tmp 9) rfl rfl rfl b ?hm 4 rfl (.iface 95 (.agg #[])) ?hx _ _ Tryz.underlying81 Tryz.underlying3 _ _ M3.out rfl ?_; (case hm => first | rfl | (go_simp; done) | (go_simp; rfl)); (case hx => first | rfl | (go_simp; done) | (go_simp; rfl)); intro w5 hb hg; have M4 := Aside0.mk hb; have B4 := Aside0.mk (B3.out.grown hg B3.out.size (fun k e => by cases e; exact G.out)); clear hb hg M3 B3)
    | ((with_reducible refine gate_ (.insert 81 (.tmp 1) (.const (.int .i64 5)) (.tmp 11)) rfl ?_); refine insert_ 81 (.tmp 1) (.const (.int .i64 5)) (.tmp 11) rfl rfl rfl b ?hm 5 rfl (.iface 96 (.agg #[])) ?hx _ _ Tryz.underlying81 Tryz.underlying3 _ _ M4.out rfl ?_; (case hm => first | rfl | (go_simp; done) | (go_simp; rfl)); (case hx => first | rfl | (go_simp; done) | (go_simp; rfl)); intro w6 hb hg; have M5 := Aside0.mk hb; have B5 := Aside0.mk (B4.out.grown hg B4.out.size (fun k e => by cases e; exact G.out)); clear hb hg M4 B4)
    | ((with_reducible refine gate_ (.insert 81 (.tmp 1) (.const (.int .i64 6)) (.tmp 13)) rfl ?_); refine insert_ 81 (.tmp 1) (.const (.int .i64 6)) (.tmp 13) rfl rfl rfl b ?hm 6 rfl (.iface 97 (.agg #[])) ?hx _ _ Tryz.underlying81 Tryz.underlying3 _ _ M5.out rfl ?_; (case hm => first | rfl | (go_simp; done) | (go_simp; rfl)); (case hx => first | rfl | (go_simp; done) | (go_simp; rfl)); intro w7 hb hg; have M6 := Aside0.mk hb; have B6 := Aside0.mk (B5.out.grown hg B5.out.size (fun k e => by cases e; exact G.out)); clear hb hg M5 B5)
    | ((with_reducible refine gate_ (.insert 81 (.tmp 1) (.const (.int .i64 7)) (.tmp 15)) rfl ?_); refine insert_ 81 (.tmp 1) (.const (.int .i64 7)) (.tmp 15) rfl rfl rfl b ?hm 7 rfl (.iface 98 (.agg #[])) ?hx _ _ Tryz.underlying81 Tryz.underlying3 _ _ M6.out rfl ?_; (case hm => first | rfl | (go_simp; done) | (go_simp; rfl)); (case hx => first | rfl | (go_simp; done) | (go_simp; rfl)); intro w8 hb hg; have M7 := Aside0.mk hb; have B7 := Aside0.mk (B6.out.grown hg B6.out.size (fun k e => by cases e; exact G.out)); clear hb hg M6 B6))
  go_ret
  exact ⟨b, rfl, M7.out, B7.out⟩
end Pl
namespace Pl
theorem one_all (cs : List Value) (h : cs.all Value.oneCell' = true) : ∀ q ∈ cs, q.oneCell' = true := List.all_eq_true.1 h
def zeroT : S35 := ⟨0, false, ⟨0, 0, 0, 0⟩, ⟨0, 0, 0, 0⟩⟩
def tableOnly (x : S39) : S39 := ⟨x.f0, x.f1, zeroT, [], 0, 0, [], 0, 0, []⟩
def whereOnly (x : S39) : S39 := ⟨x.f0, 0, x.f2, [], 0, 0, [], 0, 0, []⟩
def mapOnly (x : S39) : S39 := ⟨x.f0, 0, zeroT, x.f3, 0, 0, [], 0, 0, []⟩
def joinOnly (x : S39) : S39 := ⟨x.f0, 0, zeroT, [], x.f4, x.f5, [], 0, 0, []⟩
def bothOnly (x : S39) : S39 := ⟨x.f0, 0, zeroT, [], 0, 0, [], 0, 0, []⟩
def onceOnly (x : S39) : S39 := ⟨x.f0, 0, zeroT, [], 0, 0, [], 0, 0, []⟩
def groupOnly (x : S39) : S39 := ⟨x.f0, 0, zeroT, [], 0, 0, x.f6, x.f7, x.f8, []⟩
set_option maxHeartbeats 4000000 in
set_option maxRecDepth 100000 in
theorem tableOnly_c (x : S39) (cs : List Value) (w0 w : World) (hK : k39.K w0 x cs) : Calls Tryz.prog 86 #[.agg #[], .agg cs.toArray] w fun e w' => ∃ cs', e = .returned (.agg cs'.toArray) ∧ k39.K w0 (tableOnly x) cs' ∧ Below w.heap.size w w' := by
  obtain ⟨A12, c12, A15, c15, A18, c18, hcs, l12, g12, l15, g15, l18, g18⟩ := k39_open hK
  have E0 := Aside0.mk (show cs.toArray[0]? = some (.int .i64 x.f0) by rw [hcs]; rfl)
  have E1 := Aside0.mk (show cs.toArray[1]? = some (.int .i64 x.f1) by rw [hcs]; rfl)
  clear hcs l12 g12 l15 g15 l18 g18 hK
  go_enter Tryz.func86, Tryz.ntmps86
  go_wp2_with (first
    | ((with_reducible refine gate_dst (N := 2) rfl ?_); refine box_ 92 (.tmp 0) rfl rfl #[] rfl ?_; intro g0 hg w9 hb hB; have B0 := Aside0.mk hB; clear hg hb hB)
    | ((with_reducible refine gate_dst (N := 3) rfl ?_); refine box_ 39 (.tmp 1) rfl rfl cs.toArray rfl ?_; intro g hg w1 hb hB; have X1 := Aside0.mk hb; have q0 := (blk_cell hb 0).trans E0.out; have q1 := (blk_cell hb 1).trans E1.out; have B1 := Aside0.mk (below_step B0.out hB); clear hb hB B0 hg)
    | ((with_reducible refine gate_dst (N := 4) rfl ?_); refine alloc_ 39 rfl rfl zero39 _ _ info39 ?_; intro gr hg w2 hb hB; have Y2 := Aside0.mk hb; have X2 := Aside0.mk ((hB.block _ (blk_lt X1.out)).trans X1.out); have q0' := zhs hB q0; have q1' := zhs hB q1; have B2 := Aside0.mk (below_step B1.out hB); have GR := Aside0.mk (show w.heap.size ≤ gr by rw [hg]; exact B1.out.size); clear hb hB hg B1 X1 q0 q1)
    | ((with_reducible refine gate_ (.store 39 (.tmp 4) (.tmp 9)) rfl ?_); refine storeAll_ 39 (.tmp 4) (.tmp 9) rfl rfl rfl gr ?hp [.int .i64 x.f0, .int .i64 x.f1, .int .i64 0, .bool false, .int .i64 0, .int .i64 0, .int .i64 0, .int .i64 0, .int .i64 0, .int .i64 0, .int .i64 0, .int .i64 0, .slice none 0 0, .int .i64 0, .int .i64 0, .slice none 0 0, .int .i64 0, .int .i64 0, .slice none 0 0] ?hx2 ?ht (one_all _ rfl) zero39 _ Y2.out rfl ?_; (case hp => first | rfl | (go_simp; done) | (go_simp; rfl)); (case hx2 => first | rfl | (go_simp; done) | (go_simp; rfl)); (case ht => kernel_rfl); intro w3 hb hg; have Y3 := Aside0.mk hb; have B3 := Aside0.mk (B2.out.grown hg B2.out.size (fun k e => by cases e; exact GR.out)); clear hb hg Y2 B2))
  refine bodyPost_ret (v := .agg ([.int .i64 x.f0, .int .i64 x.f1, .int .i64 0, .bool false, .int .i64 0, .int .i64 0, .int .i64 0, .int .i64 0, .int .i64 0, .int .i64 0, .int .i64 0, .int .i64 0, .slice none 0 0, .int .i64 0, .int .i64 0, .slice none 0 0, .int .i64 0, .int .i64 0, .slice none 0 0] : List Value).toArray) (results_single (r := .cell 4 39) rfl (.cell gr 39 ([.int .i64 x.f0, .int .i64 x.f1, .int .i64 0, .bool false, .int .i64 0, .int .i64 0, .int .i64 0, .int .i64 0, .int .i64 0, .int .i64 0, .int .i64 0, .int .i64 0, .slice none 0 0, .int .i64 0, .int .i64 0, .slice none 0 0, .int .i64 0, .int .i64 0, .slice none 0 0] : List Value).toArray (0, 0) _ rfl Y3.out Tryz.underlying39 rfl (by kernel_rfl) .nil)) rfl ?_
  exact ⟨_, rfl, k39_mk _ (tableOnly x) (Nat.le_refl _) (Kd.C_nil _ _) (Nat.le_refl _) (Kd.C_nil _ _) (Nat.le_refl _) (Kd.C_nil _ _), B3.out⟩
set_option maxHeartbeats 4000000 in
set_option maxRecDepth 100000 in
theorem whereOnly_c (x : S39) (cs : List Value) (w0 w : World) (hK : k39.K w0 x cs) : Calls Tryz.prog 91 #[.agg #[], .agg cs.toArray] w fun e w' => ∃ cs', e = .returned (.agg cs'.toArray) ∧ k39.K w0 (whereOnly x) cs' ∧ Below w.heap.size w w' := by
  obtain ⟨A12, c12, A15, c15, A18, c18, hcs, l12, g12, l15, g15, l18, g18⟩ := k39_open hK
  have E0 := Aside0.mk (show cs.toArray[0]? = some (.int .i64 x.f0) by rw [hcs]; rfl)
  have HA := Aside0.mk (show cs = [.int .i64 x.f0, .int .i64 x.f1] ++ ([.int .i64 x.f2.f0, .bool x.f2.f1, .int .i64 x.f2.f2.f0, .int .i64 x.f2.f2.f1, .int .i64 x.f2.f2.f2, .int .i64 x.f2.f2.f3, .int .i64 x.f2.f3.f0, .int .i64 x.f2.f3.f1, .int .i64 x.f2.f3.f2, .int .i64 x.f2.f3.f3] ++ [.slice A12 x.f3.length c12, .int .i64 x.f4, .int .i64 x.f5, .slice A15 x.f6.length c15, .int .i64 x.f7, .int .i64 x.f8, .slice A18 x.f9.length c18]) from hcs)
  clear hcs l12 g12 l15 g15 l18 g18 hK
  go_enter Tryz.func91, Tryz.ntmps91
  go_wp2_with (first
    | ((with_reducible refine gate_dst (N := 2) rfl ?_); refine box_ 93 (.tmp 0) rfl rfl #[] rfl ?_; intro g0 hg w9 hb hB; have B0 := Aside0.mk hB; clear hg hb hB)
    | ((with_reducible refine gate_dst (N := 3) rfl ?_); refine box_ 39 (.tmp 1) rfl rfl cs.toArray rfl ?_; intro g hg w1 hb hB; have X1 := Aside0.mk hb; have q0 := (blk_cell hb 0).trans E0.out; have B1 := Aside0.mk (below_step B0.out hB); clear hb hB B0 hg)
    | ((with_reducible refine gate_dst (N := 4) rfl ?_); refine alloc_ 39 rfl rfl zero39 _ _ info39 ?_; intro gr hg w2 hb hB; have Y2 := Aside0.mk hb; have X2 := Aside0.mk ((hB.block _ (blk_lt X1.out)).trans X1.out); have q0' := zhs hB q0; have B2 := Aside0.mk (below_step B1.out hB); have GR := Aside0.mk (show w.heap.size ≤ gr by rw [hg]; exact B1.out.size); clear hb hB hg B1 X1 q0)
    | ((with_reducible refine gate_dst (N := 8) rfl ?_); refine load_ 35 (.tmp 7) rfl rfl ⟨g, 2, none⟩ ?hx [.int .i64 x.f2.f0, .bool x.f2.f1, .int .i64 x.f2.f2.f0, .int .i64 x.f2.f2.f1, .int .i64 x.f2.f2.f2, .int .i64 x.f2.f2.f3, .int .i64 x.f2.f3.f0, .int .i64 x.f2.f3.f1, .int .i64 x.f2.f3.f2, .int .i64 x.f2.f3.f3] _ Tryz.underlying35 ?hi (sub_ X2.out _ _ _ HA.out) ?_; (case hx => first | rfl | (go_simp; done) | (go_simp; rfl)); (case hi => kernel_rfl))
    | ((with_reducible refine gate_ (.store 39 (.tmp 4) (.tmp 9)) rfl ?_); refine storeAll_ 39 (.tmp 4) (.tmp 9) rfl rfl rfl gr ?hp [.int .i64 x.f0, .int .i64 0, .int .i64 x.f2.f0, .bool x.f2.f1, .int .i64 x.f2.f2.f0, .int .i64 x.f2.f2.f1, .int .i64 x.f2.f2.f2, .int .i64 x.f2.f2.f3, .int .i64 x.f2.f3.f0, .int .i64 x.f2.f3.f1, .int .i64 x.f2.f3.f2, .int .i64 x.f2.f3.f3, .slice none 0 0, .int .i64 0, .int .i64 0, .slice none 0 0, .int .i64 0, .int .i64 0, .slice none 0 0] ?hx2 ?ht (one_all _ rfl) zero39 _ Y2.out rfl ?_; (case hp => first | rfl | (go_simp; done) | (go_simp; rfl)); (case hx2 => first | rfl | (go_simp; done) | (go_simp; rfl)); (case ht => kernel_rfl); intro w3 hb hg; have Y3 := Aside0.mk hb; have B3 := Aside0.mk (B2.out.grown hg B2.out.size (fun k e => by cases e; exact GR.out)); clear hb hg Y2 B2))
  refine bodyPost_ret (v := .agg ([.int .i64 x.f0, .int .i64 0, .int .i64 x.f2.f0, .bool x.f2.f1, .int .i64 x.f2.f2.f0, .int .i64 x.f2.f2.f1, .int .i64 x.f2.f2.f2, .int .i64 x.f2.f2.f3, .int .i64 x.f2.f3.f0, .int .i64 x.f2.f3.f1, .int .i64 x.f2.f3.f2, .int .i64 x.f2.f3.f3, .slice none 0 0, .int .i64 0, .int .i64 0, .slice none 0 0, .int .i64 0, .int .i64 0, .slice none 0 0] : List Value).toArray) (results_single (r := .cell 4 39) rfl (.cell gr 39 ([.int .i64 x.f0, .int .i64 0, .int .i64 x.f2.f0, .bool x.f2.f1, .int .i64 x.f2.f2.f0, .int .i64 x.f2.f2.f1, .int .i64 x.f2.f2.f2, .int .i64 x.f2.f2.f3, .int .i64 x.f2.f3.f0, .int .i64 x.f2.f3.f1, .int .i64 x.f2.f3.f2, .int .i64 x.f2.f3.f3, .slice none 0 0, .int .i64 0, .int .i64 0, .slice none 0 0, .int .i64 0, .int .i64 0, .slice none 0 0] : List Value).toArray (0, 0) _ rfl Y3.out Tryz.underlying39 rfl (by kernel_rfl) .nil)) rfl ?_
  exact ⟨_, rfl, k39_mk _ (whereOnly x) (Nat.le_refl _) (Kd.C_nil _ _) (Nat.le_refl _) (Kd.C_nil _ _) (Nat.le_refl _) (Kd.C_nil _ _), B3.out⟩
set_option maxHeartbeats 4000000 in
set_option maxRecDepth 100000 in
theorem mapOnly_c (x : S39) (cs : List Value) (w0 w : World) (hK : k39.K w0 x cs) : Calls Tryz.prog 99 #[.agg #[], .agg cs.toArray] w fun e w' => ∃ cs', e = .returned (.agg cs'.toArray) ∧ k39.K w0 (mapOnly x) cs' ∧ Below w.heap.size w w' := by
  obtain ⟨A12, c12, A15, c15, A18, c18, hcs, l12, g12, l15, g15, l18, g18⟩ := k39_open hK
  have E0 := Aside0.mk (show cs.toArray[0]? = some (.int .i64 x.f0) by rw [hcs]; rfl)
  have E3 := Aside0.mk (show cs.toArray[12]? = some (.slice A12 x.f3.length c12) by rw [hcs]; rfl)
  have G12 := Aside0.mk g12
  have L12 := Aside0.mk l12
  clear hcs l12 g12 l15 g15 l18 g18 hK
  go_enter Tryz.func99, Tryz.ntmps99
  go_wp2_with (first
    | ((with_reducible refine gate_dst (N := 2) rfl ?_); refine box_ 94 (.tmp 0) rfl rfl #[] rfl ?_; intro g0 hg w9 hb hB; have B0 := Aside0.mk hB; clear hg hb hB)
    | ((with_reducible refine gate_dst (N := 3) rfl ?_); refine box_ 39 (.tmp 1) rfl rfl cs.toArray rfl ?_; intro g hg w1 hb hB; have X1 := Aside0.mk hb; have q0 := (blk_cell hb 0).trans E0.out; have q3 := (blk_cell hb 12).trans E3.out; have B1 := Aside0.mk (below_step B0.out hB); clear hb hB B0 hg)
    | ((with_reducible refine gate_dst (N := 4) rfl ?_); refine alloc_ 39 rfl rfl zero39 _ _ info39 ?_; intro gr hg w2 hb hB; have Y2 := Aside0.mk hb; have X2 := Aside0.mk ((hB.block _ (blk_lt X1.out)).trans X1.out); have q0' := zhs hB q0; have q3' := zhs hB q3; have B2 := Aside0.mk (below_step B1.out hB); have GR := Aside0.mk (show w.heap.size ≤ gr by rw [hg]; exact B1.out.size); clear hb hB hg B1 X1 q0 q3)
    | ((with_reducible refine gate_ (.store 39 (.tmp 4) (.tmp 9)) rfl ?_); refine storeAll_ 39 (.tmp 4) (.tmp 9) rfl rfl rfl gr ?hp [.int .i64 x.f0, .int .i64 0, .int .i64 0, .bool false, .int .i64 0, .int .i64 0, .int .i64 0, .int .i64 0, .int .i64 0, .int .i64 0, .int .i64 0, .int .i64 0, .slice A12 x.f3.length c12, .int .i64 0, .int .i64 0, .slice none 0 0, .int .i64 0, .int .i64 0, .slice none 0 0] ?hx2 ?ht (one_all _ rfl) zero39 _ Y2.out rfl ?_; (case hp => first | rfl | (go_simp; done) | (go_simp; rfl)); (case hx2 => first | rfl | (go_simp; done) | (go_simp; rfl)); (case ht => kernel_rfl); intro w3 hb hg; have Y3 := Aside0.mk hb; have B3 := Aside0.mk (B2.out.grown hg B2.out.size (fun k e => by cases e; exact GR.out)); clear hb hg Y2 B2))
  refine bodyPost_ret (v := .agg ([.int .i64 x.f0, .int .i64 0, .int .i64 0, .bool false, .int .i64 0, .int .i64 0, .int .i64 0, .int .i64 0, .int .i64 0, .int .i64 0, .int .i64 0, .int .i64 0, .slice A12 x.f3.length c12, .int .i64 0, .int .i64 0, .slice none 0 0, .int .i64 0, .int .i64 0, .slice none 0 0] : List Value).toArray) (results_single (r := .cell 4 39) rfl (.cell gr 39 ([.int .i64 x.f0, .int .i64 0, .int .i64 0, .bool false, .int .i64 0, .int .i64 0, .int .i64 0, .int .i64 0, .int .i64 0, .int .i64 0, .int .i64 0, .int .i64 0, .slice A12 x.f3.length c12, .int .i64 0, .int .i64 0, .slice none 0 0, .int .i64 0, .int .i64 0, .slice none 0 0] : List Value).toArray (0, 0) _ rfl Y3.out Tryz.underlying39 rfl (by kernel_rfl) .nil)) rfl ?_
  exact ⟨_, rfl, k39_mk _ (mapOnly x) L12.out G12.out (Nat.le_refl _) (Kd.C_nil _ _) (Nat.le_refl _) (Kd.C_nil _ _), B3.out⟩
set_option maxHeartbeats 4000000 in
set_option maxRecDepth 100000 in
theorem joinOnly_c (x : S39) (cs : List Value) (w0 w : World) (hK : k39.K w0 x cs) : Calls Tryz.prog 107 #[.agg #[], .agg cs.toArray] w fun e w' => ∃ cs', e = .returned (.agg cs'.toArray) ∧ k39.K w0 (joinOnly x) cs' ∧ Below w.heap.size w w' := by
  obtain ⟨A12, c12, A15, c15, A18, c18, hcs, l12, g12, l15, g15, l18, g18⟩ := k39_open hK
  have E0 := Aside0.mk (show cs.toArray[0]? = some (.int .i64 x.f0) by rw [hcs]; rfl)
  have E4 := Aside0.mk (show cs.toArray[13]? = some (.int .i64 x.f4) by rw [hcs]; rfl)
  have E5 := Aside0.mk (show cs.toArray[14]? = some (.int .i64 x.f5) by rw [hcs]; rfl)
  clear hcs l12 g12 l15 g15 l18 g18 hK
  go_enter Tryz.func107, Tryz.ntmps107
  go_wp2_with (first
    | ((with_reducible refine gate_dst (N := 2) rfl ?_); refine box_ 95 (.tmp 0) rfl rfl #[] rfl ?_; intro g0 hg w9 hb hB; have B0 := Aside0.mk hB; clear hg hb hB)
    | ((with_reducible refine gate_dst (N := 3) rfl ?_); refine box_ 39 (.tmp 1) rfl rfl cs.toArray rfl ?_; intro g hg w1 hb hB; have X1 := Aside0.mk hb; have q0 := (blk_cell hb 0).trans E0.out; have q4 := (blk_cell hb 13).trans E4.out; have q5 := (blk_cell hb 14).trans E5.out; have B1 := Aside0.mk (below_step B0.out hB); clear hb hB B0 hg)
    | ((with_reducible refine gate_dst (N := 4) rfl ?_); refine alloc_ 39 rfl rfl zero39 _ _ info39 ?_; intro gr hg w2 hb hB; have Y2 := Aside0.mk hb; have X2 := Aside0.mk ((hB.block _ (blk_lt X1.out)).trans X1.out); have q0' := zhs hB q0; have q4' := zhs hB q4; have q5' := zhs hB q5; have B2 := Aside0.mk (below_step B1.out hB); have GR := Aside0.mk (show w.heap.size ≤ gr by rw [hg]; exact B1.out.size); clear hb hB hg B1 X1 q0 q4 q5)
    | ((with_reducible refine gate_ (.store 39 (.tmp 4) (.tmp 11)) rfl ?_); refine storeAll_ 39 (.tmp 4) (.tmp 11) rfl rfl rfl gr ?hp [.int .i64 x.f0, .int .i64 0, .int .i64 0, .bool false, .int .i64 0, .int .i64 0, .int .i64 0, .int .i64 0, .int .i64 0, .int .i64 0, .int .i64 0, .int .i64 0, .slice none 0 0, .int .i64 x.f4, .int .i64 x.f5, .slice none 0 0, .int .i64 0, .int .i64 0, .slice none 0 0] ?hx2 ?ht (one_all _ rfl) zero39 _ Y2.out rfl ?_; (case hp => first | rfl | (go_simp; done) | (go_simp; rfl)); (case hx2 => first | rfl | (go_simp; done) | (go_simp; rfl)); (case ht => kernel_rfl); intro w3 hb hg; have Y3 := Aside0.mk hb; have B3 := Aside0.mk (B2.out.grown hg B2.out.size (fun k e => by cases e; exact GR.out)); clear hb hg Y2 B2))
  refine bodyPost_ret (v := .agg ([.int .i64 x.f0, .int .i64 0, .int .i64 0, .bool false, .int .i64 0, .int .i64 0, .int .i64 0, .int .i64 0, .int .i64 0, .int .i64 0, .int .i64 0, .int .i64 0, .slice none 0 0, .int .i64 x.f4, .int .i64 x.f5, .slice none 0 0, .int .i64 0, .int .i64 0, .slice none 0 0] : List Value).toArray) (results_single (r := .cell 4 39) rfl (.cell gr 39 ([.int .i64 x.f0, .int .i64 0, .int .i64 0, .bool false, .int .i64 0, .int .i64 0, .int .i64 0, .int .i64 0, .int .i64 0, .int .i64 0, .int .i64 0, .int .i64 0, .slice none 0 0, .int .i64 x.f4, .int .i64 x.f5, .slice none 0 0, .int .i64 0, .int .i64 0, .slice none 0 0] : List Value).toArray (0, 0) _ rfl Y3.out Tryz.underlying39 rfl (by kernel_rfl) .nil)) rfl ?_
  exact ⟨_, rfl, k39_mk _ (joinOnly x) (Nat.le_refl _) (Kd.C_nil _ _) (Nat.le_refl _) (Kd.C_nil _ _) (Nat.le_refl _) (Kd.C_nil _ _), B3.out⟩
set_option maxHeartbeats 4000000 in
set_option maxRecDepth 100000 in
theorem bothOnly_c (x : S39) (cs : List Value) (w0 w : World) (hK : k39.K w0 x cs) : Calls Tryz.prog 113 #[.agg #[], .agg cs.toArray] w fun e w' => ∃ cs', e = .returned (.agg cs'.toArray) ∧ k39.K w0 (bothOnly x) cs' ∧ Below w.heap.size w w' := by
  obtain ⟨A12, c12, A15, c15, A18, c18, hcs, l12, g12, l15, g15, l18, g18⟩ := k39_open hK
  have E0 := Aside0.mk (show cs.toArray[0]? = some (.int .i64 x.f0) by rw [hcs]; rfl)
  clear hcs l12 g12 l15 g15 l18 g18 hK
  go_enter Tryz.func113, Tryz.ntmps113
  go_wp2_with (first
    | ((with_reducible refine gate_dst (N := 2) rfl ?_); refine box_ 96 (.tmp 0) rfl rfl #[] rfl ?_; intro g0 hg w9 hb hB; have B0 := Aside0.mk hB; clear hg hb hB)
    | ((with_reducible refine gate_dst (N := 3) rfl ?_); refine box_ 39 (.tmp 1) rfl rfl cs.toArray rfl ?_; intro g hg w1 hb hB; have X1 := Aside0.mk hb; have q0 := (blk_cell hb 0).trans E0.out; have B1 := Aside0.mk (below_step B0.out hB); clear hb hB B0 hg)
    | ((with_reducible refine gate_dst (N := 4) rfl ?_); refine alloc_ 39 rfl rfl zero39 _ _ info39 ?_; intro gr hg w2 hb hB; have Y2 := Aside0.mk hb; have X2 := Aside0.mk ((hB.block _ (blk_lt X1.out)).trans X1.out); have q0' := zhs hB q0; have B2 := Aside0.mk (below_step B1.out hB); have GR := Aside0.mk (show w.heap.size ≤ gr by rw [hg]; exact B1.out.size); clear hb hB hg B1 X1 q0)
    | ((with_reducible refine gate_ (.store 39 (.tmp 4) (.tmp 7)) rfl ?_); refine storeAll_ 39 (.tmp 4) (.tmp 7) rfl rfl rfl gr ?hp [.int .i64 x.f0, .int .i64 0, .int .i64 0, .bool false, .int .i64 0, .int .i64 0, .int .i64 0, .int .i64 0, .int .i64 0, .int .i64 0, .int .i64 0, .int .i64 0, .slice none 0 0, .int .i64 0, .int .i64 0, .slice none 0 0, .int .i64 0, .int .i64 0, .slice none 0 0] ?hx2 ?ht (one_all _ rfl) zero39 _ Y2.out rfl ?_; (case hp => first | rfl | (go_simp; done) | (go_simp; rfl)); (case hx2 => first | rfl | (go_simp; done) | (go_simp; rfl)); (case ht => kernel_rfl); intro w3 hb hg; have Y3 := Aside0.mk hb; have B3 := Aside0.mk (B2.out.grown hg B2.out.size (fun k e => by cases e; exact GR.out)); clear hb hg Y2 B2))
  refine bodyPost_ret (v := .agg ([.int .i64 x.f0, .int .i64 0, .int .i64 0, .bool false, .int .i64 0, .int .i64 0, .int .i64 0, .int .i64 0, .int .i64 0, .int .i64 0, .int .i64 0, .int .i64 0, .slice none 0 0, .int .i64 0, .int .i64 0, .slice none 0 0, .int .i64 0, .int .i64 0, .slice none 0 0] : List Value).toArray) (results_single (r := .cell 4 39) rfl (.cell gr 39 ([.int .i64 x.f0, .int .i64 0, .int .i64 0, .bool false, .int .i64 0, .int .i64 0, .int .i64 0, .int .i64 0, .int .i64 0, .int .i64 0, .int .i64 0, .int .i64 0, .slice none 0 0, .int .i64 0, .int .i64 0, .slice none 0 0, .int .i64 0, .int .i64 0, .slice none 0 0] : List Value).toArray (0, 0) _ rfl Y3.out Tryz.underlying39 rfl (by kernel_rfl) .nil)) rfl ?_
  exact ⟨_, rfl, k39_mk _ (bothOnly x) (Nat.le_refl _) (Kd.C_nil _ _) (Nat.le_refl _) (Kd.C_nil _ _) (Nat.le_refl _) (Kd.C_nil _ _), B3.out⟩
set_option maxHeartbeats 4000000 in
set_option maxRecDepth 100000 in
theorem onceOnly_c (x : S39) (cs : List Value) (w0 w : World) (hK : k39.K w0 x cs) : Calls Tryz.prog 118 #[.agg #[], .agg cs.toArray] w fun e w' => ∃ cs', e = .returned (.agg cs'.toArray) ∧ k39.K w0 (onceOnly x) cs' ∧ Below w.heap.size w w' := by
  obtain ⟨A12, c12, A15, c15, A18, c18, hcs, l12, g12, l15, g15, l18, g18⟩ := k39_open hK
  have E0 := Aside0.mk (show cs.toArray[0]? = some (.int .i64 x.f0) by rw [hcs]; rfl)
  clear hcs l12 g12 l15 g15 l18 g18 hK
  go_enter Tryz.func118, Tryz.ntmps118
  go_wp2_with (first
    | ((with_reducible refine gate_dst (N := 2) rfl ?_); refine box_ 97 (.tmp 0) rfl rfl #[] rfl ?_; intro g0 hg w9 hb hB; have B0 := Aside0.mk hB; clear hg hb hB)
    | ((with_reducible refine gate_dst (N := 3) rfl ?_); refine box_ 39 (.tmp 1) rfl rfl cs.toArray rfl ?_; intro g hg w1 hb hB; have X1 := Aside0.mk hb; have q0 := (blk_cell hb 0).trans E0.out; have B1 := Aside0.mk (below_step B0.out hB); clear hb hB B0 hg)
    | ((with_reducible refine gate_dst (N := 4) rfl ?_); refine alloc_ 39 rfl rfl zero39 _ _ info39 ?_; intro gr hg w2 hb hB; have Y2 := Aside0.mk hb; have X2 := Aside0.mk ((hB.block _ (blk_lt X1.out)).trans X1.out); have q0' := zhs hB q0; have B2 := Aside0.mk (below_step B1.out hB); have GR := Aside0.mk (show w.heap.size ≤ gr by rw [hg]; exact B1.out.size); clear hb hB hg B1 X1 q0)
    | ((with_reducible refine gate_ (.store 39 (.tmp 4) (.tmp 7)) rfl ?_); refine storeAll_ 39 (.tmp 4) (.tmp 7) rfl rfl rfl gr ?hp [.int .i64 x.f0, .int .i64 0, .int .i64 0, .bool false, .int .i64 0, .int .i64 0, .int .i64 0, .int .i64 0, .int .i64 0, .int .i64 0, .int .i64 0, .int .i64 0, .slice none 0 0, .int .i64 0, .int .i64 0, .slice none 0 0, .int .i64 0, .int .i64 0, .slice none 0 0] ?hx2 ?ht (one_all _ rfl) zero39 _ Y2.out rfl ?_; (case hp => first | rfl | (go_simp; done) | (go_simp; rfl)); (case hx2 => first | rfl | (go_simp; done) | (go_simp; rfl)); (case ht => kernel_rfl); intro w3 hb hg; have Y3 := Aside0.mk hb; have B3 := Aside0.mk (B2.out.grown hg B2.out.size (fun k e => by cases e; exact GR.out)); clear hb hg Y2 B2))
  refine bodyPost_ret (v := .agg ([.int .i64 x.f0, .int .i64 0, .int .i64 0, .bool false, .int .i64 0, .int .i64 0, .int .i64 0, .int .i64 0, .int .i64 0, .int .i64 0, .int .i64 0, .int .i64 0, .slice none 0 0, .int .i64 0, .int .i64 0, .slice none 0 0, .int .i64 0, .int .i64 0, .slice none 0 0] : List Value).toArray) (results_single (r := .cell 4 39) rfl (.cell gr 39 ([.int .i64 x.f0, .int .i64 0, .int .i64 0, .bool false, .int .i64 0, .int .i64 0, .int .i64 0, .int .i64 0, .int .i64 0, .int .i64 0, .int .i64 0, .int .i64 0, .slice none 0 0, .int .i64 0, .int .i64 0, .slice none 0 0, .int .i64 0, .int .i64 0, .slice none 0 0] : List Value).toArray (0, 0) _ rfl Y3.out Tryz.underlying39 rfl (by kernel_rfl) .nil)) rfl ?_
  exact ⟨_, rfl, k39_mk _ (onceOnly x) (Nat.le_refl _) (Kd.C_nil _ _) (Nat.le_refl _) (Kd.C_nil _ _) (Nat.le_refl _) (Kd.C_nil _ _), B3.out⟩
set_option maxHeartbeats 4000000 in
set_option maxRecDepth 100000 in
theorem groupOnly_c (x : S39) (cs : List Value) (w0 w : World) (hK : k39.K w0 x cs) : Calls Tryz.prog 123 #[.agg #[], .agg cs.toArray] w fun e w' => ∃ cs', e = .returned (.agg cs'.toArray) ∧ k39.K w0 (groupOnly x) cs' ∧ Below w.heap.size w w' := by
  obtain ⟨A12, c12, A15, c15, A18, c18, hcs, l12, g12, l15, g15, l18, g18⟩ := k39_open hK
  have E0 := Aside0.mk (show cs.toArray[0]? = some (.int .i64 x.f0) by rw [hcs]; rfl)
  have E6 := Aside0.mk (show cs.toArray[15]? = some (.slice A15 x.f6.length c15) by rw [hcs]; rfl)
  have E7 := Aside0.mk (show cs.toArray[16]? = some (.int .i64 x.f7) by rw [hcs]; rfl)
  have E8 := Aside0.mk (show cs.toArray[17]? = some (.int .i64 x.f8) by rw [hcs]; rfl)
  have G15 := Aside0.mk g15
  have L15 := Aside0.mk l15
  clear hcs l12 g12 l15 g15 l18 g18 hK
  go_enter Tryz.func123, Tryz.ntmps123
  go_wp2_with (first
    | ((with_reducible refine gate_dst (N := 2) rfl ?_); refine box_ 98 (.tmp 0) rfl rfl #[] rfl ?_; intro g0 hg w9 hb hB; have B0 := Aside0.mk hB; clear hg hb hB)
    | ((with_reducible refine gate_dst (N := 3) rfl ?_); refine box_ 39 (.tmp 1) rfl rfl cs.toArray rfl ?_; intro g hg w1 hb hB; have X1 := Aside0.mk hb; have q0 := (blk_cell hb 0).trans E0.out; have q6 := (blk_cell hb 15).trans E6.out; have q7 := (blk_cell hb 16).trans E7.out; have q8 := (blk_cell hb 17).trans E8.out; have B1 := Aside0.mk (below_step B0.out hB); clear hb hB B0 hg)
    | ((with_reducible refine gate_dst (N := 4) rfl ?_); refine alloc_ 39 rfl rfl zero39 _ _ info39 ?_; intro gr hg w2 hb hB; have Y2 := Aside0.mk hb; have X2 := Aside0.mk ((hB.block _ (blk_lt X1.out)).trans X1.out); have q0' := zhs hB q0; have q6' := zhs hB q6; have q7' := zhs hB q7; have q8' := zhs hB q8; have B2 := Aside0.mk (below_step B1.out hB); have GR := Aside0.mk (show w.heap.size ≤ gr by rw [hg]; exact B1.out.size); clear hb hB hg B1 X1 q0 q6 q7 q8)
    | ((with_reducible refine gate_ (.store 39 (.tmp 4) (.tmp 13)) rfl ?_); refine storeAll_ 39 (.tmp 4) (.tmp 13) rfl rfl rfl gr ?hp [.int .i64 x.f0, .int .i64 0, .int .i64 0, .bool false, .int .i64 0, .int .i64 0, .int .i64 0, .int .i64 0, .int .i64 0, .int .i64 0, .int .i64 0, .int .i64 0, .slice none 0 0, .int .i64 0, .int .i64 0, .slice A15 x.f6.length c15, .int .i64 x.f7, .int .i64 x.f8, .slice none 0 0] ?hx2 ?ht (one_all _ rfl) zero39 _ Y2.out rfl ?_; (case hp => first | rfl | (go_simp; done) | (go_simp; rfl)); (case hx2 => first | rfl | (go_simp; done) | (go_simp; rfl)); (case ht => kernel_rfl); intro w3 hb hg; have Y3 := Aside0.mk hb; have B3 := Aside0.mk (B2.out.grown hg B2.out.size (fun k e => by cases e; exact GR.out)); clear hb hg Y2 B2))
  refine bodyPost_ret (v := .agg ([.int .i64 x.f0, .int .i64 0, .int .i64 0, .bool false, .int .i64 0, .int .i64 0, .int .i64 0, .int .i64 0, .int .i64 0, .int .i64 0, .int .i64 0, .int .i64 0, .slice none 0 0, .int .i64 0, .int .i64 0, .slice A15 x.f6.length c15, .int .i64 x.f7, .int .i64 x.f8, .slice none 0 0] : List Value).toArray) (results_single (r := .cell 4 39) rfl (.cell gr 39 ([.int .i64 x.f0, .int .i64 0, .int .i64 0, .bool false, .int .i64 0, .int .i64 0, .int .i64 0, .int .i64 0, .int .i64 0, .int .i64 0, .int .i64 0, .int .i64 0, .slice none 0 0, .int .i64 0, .int .i64 0, .slice A15 x.f6.length c15, .int .i64 x.f7, .int .i64 x.f8, .slice none 0 0] : List Value).toArray (0, 0) _ rfl Y3.out Tryz.underlying39 rfl (by kernel_rfl) .nil)) rfl ?_
  exact ⟨_, rfl, k39_mk _ (groupOnly x) (Nat.le_refl _) (Kd.C_nil _ _) L15.out G15.out (Nat.le_refl _) (Kd.C_nil _ _), B3.out⟩
end Pl

end Go.Proofs.YtlpgnkndjmfcjaaGreat.PFnPlanUses
