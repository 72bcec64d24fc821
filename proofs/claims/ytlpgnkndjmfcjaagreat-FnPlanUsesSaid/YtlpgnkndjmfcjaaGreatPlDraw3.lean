/- The given specification's draws of cells and tests. Rows of plans that are written out, and loads of what is not laid open. The boxes of the copy of a plan, and a store in a region that draws its order. -/
import Derived.Test.YtlpgnkndjmfcjaaGreatPlSpecmany
import Derived.Great.BuildSlice
namespace Go.Proofs.YtlpgnkndjmfcjaaGreat.PFnPlanUses
open Go.RowKit Go.Proofs.YtlpgnkndjmfcjaaGreatW.PrintWords Go.Proofs.YtlpgnkndjmfcjaaGreatW.PrintLast Go.Proofs.YtlpgnkndjmfcjaaGreatW.PrintMore
attribute [local go_sem] max2_int min2_int max_two min_two max_three min_three max_four min_four   -- for this text's walks alone
set_option linter.unusedVariables false
set_option linter.unusedSimpArgs false
namespace Pl
section
variable {P : Program} {ops : Array Oper} {rest : List Oper} {o : Oper} {a : Act} {Q : Exit → Act → World → Prop}
/-- A struct is put together. -/
theorem build_ {W : World} (ty : TypeId) (fs : Array (Nat × Operand)) (ho : o.op = .build ty fs) (hgd : o.guard = none) (vs : Array (Nat × Value)) (hvs : (fs.map fun (i, x) => (i, a.eval x)) = vs) (v : Value) (hrun : ∀ W, (Instr.build ty vs).run P W = .ok v W)
    (h : wpList P ops Q rest (a.put o.dst v) W) : wpList P ops Q (o :: rest) a W := by
  refine Kd.event_run hgd ?_ h
  unfold execOp
  simp only [ho]
  rw [hvs]
  simp [Sem.run_bind, Sem.run_pure, Result.andThen_ok, hrun]
end
def zeroC : List Value := [.int .i64 0, .int .i64 0, .int .i64 0, .int .i64 0]
set_option maxHeartbeats 8000000 in
set_option maxRecDepth 100000 in
/-- **spec.l3Cell** draws some cell. -/
theorem l3Cell_c {w0 : World} {g : Nat} {b : List Int} {c : Nat} {w : World} (h : RdW w0 g b (c + 3) w) (n : Int) :
    Calls Tryz.prog 57 #[.pointer (some ⟨g, 0, none⟩), .int .i64 n] w fun e w' => (∃ a1 a2 a3 a4 : Int, e = .returned (.agg #[.int .i64 a1, .int .i64 a2, .int .i64 a3, .int .i64 a4])) ∧ RdW w0 g b c w' ∧ KeepBut w w' g none := by
  have RD3 := Aside0.mk h
  clear h
  go_enter Tryz.func57, Tryz.ntmps57
  go_wp2_with (first
    | ((with_reducible refine gate_dst (N := 4) rfl ?_); refine alloc_ 33 rfl rfl zeroC _ _ info33 ?_; intro gr hg wq hb hB; have NG := Aside0.mk (show gr ≠ g by rw [hg]; exact Nat.ne_of_gt RD3.out.lt); have GE := Aside0.mk (show w.heap.size ≤ gr by rw [hg]; exact Nat.le_refl _); have GB := Aside0.mk (show w0.heap.size ≤ gr by rw [hg]; exact RD3.out.bel.size); have XR := Aside0.mk hb; have KB := Aside0.mk (KeepBut.below_ hB g); have RDq := Aside0.mk (RD3.out.below hB); clear RD3; have RD3 := RDq; clear RDq hb hB hg)
    | (go_at_call 33; refine (pick_c RD3.out _).mono ?_; rintro e wq ⟨⟨v3, rfl, hv3⟩, hRD, hk⟩; have RD2 := Aside0.mk hRD; clear RD3 hRD; have KB_ := Aside0.mk (KeepBut.tr KB.out hk); have XR_ := Aside0.mk (KeepBut.blk hk XR.out NG.out); clear KB XR; have KB := KB_; have XR := XR_; clear KB_ XR_; clear hk)
    | ((with_reducible refine gate_dst (N := 10) rfl ?_); refine Kd.R_lit (Kd.int .i64) _ 3 ?hg (N := 10) ?hd (xs := ([0, 1, 2, (-1), 5] : List Int)) (inner := [.int .i64 0, .int .i64 1, .int .i64 2, .int .i64 (-1), .int .i64 5]) (ok := fun k => k ≠ g) (okp := fun k => k ≠ g) ?hr ?hp (fun _ hk => hk) (Nat.ne_of_gt RD2.out.lt) (Below.refl _ _) (Nat.le_refl _) (by simp) ?_; (case hd => rfl); (case hg => rfl); (case hr => first | (go_simp; done) | (go_simp; rfl)); (case hp => exact (Reps.one (show Kd.M (Kd.int .i64) _ _ _ 0 [.int .i64 0] from rfl) (Reps.one (show Kd.M (Kd.int .i64) _ _ _ 1 [.int .i64 1] from rfl) (Reps.one (show Kd.M (Kd.int .i64) _ _ _ 2 [.int .i64 2] from rfl) (Reps.one (show Kd.M (Kd.int .i64) _ _ _ (-1) [.int .i64 (-1)] from rfl) (Reps.one (show Kd.M (Kd.int .i64) _ _ _ 5 [.int .i64 5] from rfl) (Reps.none _ _))))))); intro v0 wq ho hB hg_ hnew_; obtain ⟨A10, m10, rfl, hc, hr⟩ := Kd.R_reads ho; have HC10 := Aside0.mk hc; have HR10 := Aside0.mk hr; have HF10 := Aside0.mk (show ∀ ad, A10 = some ad → 0 < ([0, 1, 2, (-1), 5] : List Int).length → ad.block ≠ g from fun ad e _ => ho.1 ad.block (by rw [e]; rfl)); clear ho hg_ hnew_ hc hr; have RDq := Aside0.mk (RD2.out.below hB); clear RD2; have RD2 := RDq; clear RDq; have KB_ := Aside0.mk (KeepBut.tr KB.out (KeepBut.below_ hB _)); have XR_ := Aside0.mk ((hB.block _ (blk_lt XR.out)).trans XR.out); clear KB XR; have KB := KB_; have XR := XR_; clear KB_ XR_; clear hB)
    | (go_at_call 45; refine (num_c RD2.out A10 m10 ([0, 1, 2, (-1), 5] : List Int) (by simp) HR10.out HC10.out HF10.out).mono ?_; rintro e wq ⟨⟨n2, rfl⟩, hRD, hk⟩; have RD1 := Aside0.mk hRD; clear RD2 hRD HR10 HC10 HF10; have KB_ := Aside0.mk (KeepBut.tr KB.out hk); have XR_ := Aside0.mk (KeepBut.blk hk XR.out NG.out); clear KB XR; have KB := KB_; have XR := XR_; clear KB_ XR_; clear hk)
    | ((with_reducible refine gate_dst (N := 12) rfl ?_); refine build_ 33 _ rfl rfl #[(0, .int .i64 2), (3, .int .i64 n2)] ?hvs (.agg #[.int .i64 2, .int .i64 0, .int .i64 0, .int .i64 n2]) ?hrun ?_; (case hvs => first | rfl | (go_simp; done) | (go_simp; rfl)); (case hrun => intro W; kernel_rfl))
    | ((with_reducible refine gate_ (.store 33 (.tmp 4) (.tmp 12)) rfl ?_); refine storeAll_ 33 (.tmp 4) (.tmp 12) rfl rfl rfl gr ?hp [.int .i64 2, .int .i64 0, .int .i64 0, .int .i64 n2] ?hx2 ?ht ?h1 zeroC _ XR.out ?hf ?_; (case hp => first | rfl | (go_simp; done) | (go_simp; rfl)); (case hx2 => first | rfl | (go_simp; done) | (go_simp; rfl)); (case ht => kernel_rfl); (case h1 => simp [Value.oneCell']); (case hf => rfl); intro wz hb hg; have XZ := Aside0.mk hb; have RZ := Aside0.mk ((RD1.out.less (c' := c) (by omega)).grown hg (by intro e; injection e with e; exact NG.out e.symm) (fun k e => by injection e with e; rw [← e]; exact GB.out)); have KZ := Aside0.mk (KeepBut.new_ KB.out hg GE.out); clear hb hg RD1 XR KB)
    | (go_at_call 33; refine (pick_c RD2.out _).mono ?_; rintro e wq ⟨⟨v2, rfl, hv2⟩, hRD, hk⟩; have RD1 := Aside0.mk hRD; clear RD2 hRD; have KB_ := Aside0.mk (KeepBut.tr KB.out hk); have XR_ := Aside0.mk (KeepBut.blk hk XR.out NG.out); clear KB XR; have KB := KB_; have XR := XR_; clear KB_ XR_; clear hk)
    | ((with_reducible refine gate_dst (N := 25) rfl ?_); refine build_ 33 _ rfl rfl #[(0, .int .i64 1), (1, .int .i64 v2)] ?hvs (.agg #[.int .i64 1, .int .i64 v2, .int .i64 0, .int .i64 0]) ?hrun ?_; (case hvs => first | rfl | (go_simp; done) | (go_simp; rfl)); (case hrun => intro W; kernel_rfl))
    | ((with_reducible refine gate_ (.store 33 (.tmp 4) (.tmp 25)) rfl ?_); refine storeAll_ 33 (.tmp 4) (.tmp 25) rfl rfl rfl gr ?hp [.int .i64 1, .int .i64 v2, .int .i64 0, .int .i64 0] ?hx2 ?ht ?h1 zeroC _ XR.out ?hf ?_; (case hp => first | rfl | (go_simp; done) | (go_simp; rfl)); (case hx2 => first | rfl | (go_simp; done) | (go_simp; rfl)); (case ht => kernel_rfl); (case h1 => simp [Value.oneCell']); (case hf => rfl); intro wz hb hg; have XZ := Aside0.mk hb; have RZ := Aside0.mk ((RD1.out.less (c' := c) (by omega)).grown hg (by intro e; injection e with e; exact NG.out e.symm) (fun k e => by injection e with e; rw [← e]; exact GB.out)); have KZ := Aside0.mk (KeepBut.new_ KB.out hg GE.out); clear hb hg RD1 XR KB)
    | (go_at_call 33; refine (pick_c RD1.out _).mono ?_; rintro e wq ⟨⟨v1, rfl, hv1⟩, hRD, hk⟩; have RD0 := Aside0.mk hRD; clear RD1 hRD; have KB_ := Aside0.mk (KeepBut.tr KB.out hk); have XR_ := Aside0.mk (KeepBut.blk hk XR.out NG.out); clear KB XR; have KB := KB_; have XR := XR_; clear KB_ XR_; clear hk)
    | ((with_reducible refine gate_dst (N := 21) rfl ?_); refine build_ 33 _ rfl rfl #[(0, .int .i64 3), (1, .int .i64 v2), (2, .int .i64 v1)] ?hvs (.agg #[.int .i64 3, .int .i64 v2, .int .i64 v1, .int .i64 0]) ?hrun ?_; (case hvs => first | rfl | (go_simp; done) | (go_simp; rfl)); (case hrun => intro W; kernel_rfl))
    | ((with_reducible refine gate_ (.store 33 (.tmp 4) (.tmp 21)) rfl ?_); refine storeAll_ 33 (.tmp 4) (.tmp 21) rfl rfl rfl gr ?hp [.int .i64 3, .int .i64 v2, .int .i64 v1, .int .i64 0] ?hx2 ?ht ?h1 zeroC _ XR.out ?hf ?_; (case hp => first | rfl | (go_simp; done) | (go_simp; rfl)); (case hx2 => first | rfl | (go_simp; done) | (go_simp; rfl)); (case ht => kernel_rfl); (case h1 => simp [Value.oneCell']); (case hf => rfl); intro wz hb hg; have XZ := Aside0.mk hb; have RZ := Aside0.mk ((RD0.out.less (c' := c) (by omega)).grown hg (by intro e; injection e with e; exact NG.out e.symm) (fun k e => by injection e with e; rw [← e]; exact GB.out)); have KZ := Aside0.mk (KeepBut.new_ KB.out hg GE.out); clear hb hg RD0 XR KB))
  all_goals exact bodyPost_ret (results_cell_row rfl _ _ gr _ _ _ _ rfl XZ.out Tryz.underlying33 rfl (by kernel_rfl)) rfl ⟨⟨_, _, _, _, rfl⟩, RZ.out, KZ.out⟩
def zeroTs : List Value := [.int .i64 0, .bool false, .int .i64 0, .int .i64 0, .int .i64 0, .int .i64 0, .int .i64 0, .int .i64 0, .int .i64 0, .int .i64 0]
theorem infoT : (Tryz.prog.info? 35).map (fun i => (i.zero, i.size, i.bytes)) = some (some (.agg zeroTs.toArray), 10, 80) := by kernel_rfl
set_option maxHeartbeats 8000000 in
set_option maxRecDepth 100000 in
/-- **spec.l3Test** draws some test. -/
theorem l3Test_c {w0 : World} {g : Nat} {b : List Int} {c : Nat} {w : World} (h : RdW w0 g b (c + 8) w) (n : Int) :
    Calls Tryz.prog 60 #[.pointer (some ⟨g, 0, none⟩), .int .i64 n] w fun e w' => (∃ y : S35, e = .returned (.agg (testCells y).toArray)) ∧ RdW w0 g b c w' ∧ KeepBut w w' g none := by
  have RD8 := Aside0.mk h
  clear h
  go_enter Tryz.func60, Tryz.ntmps60
  go_wp2_with (first
    | ((with_reducible refine gate_dst (N := 4) rfl ?_); refine alloc_ 35 rfl rfl zeroTs _ _ infoT ?_; intro gr hg wq hb hB; have NG := Aside0.mk (show gr ≠ g by rw [hg]; exact Nat.ne_of_gt RD8.out.lt); have GE := Aside0.mk (show w.heap.size ≤ gr by rw [hg]; exact Nat.le_refl _); have GB := Aside0.mk (show w0.heap.size ≤ gr by rw [hg]; exact RD8.out.bel.size); have XR := Aside0.mk hb; have KB := Aside0.mk (KeepBut.below_ hB g); have RDq := Aside0.mk (RD8.out.below hB); clear RD8; have RD8 := RDq; clear RDq hb hB hg)
    | (go_at_call 33; refine (pick_c RD8.out _).mono ?_; rintro e wq ⟨⟨v8, rfl, hv8⟩, hRD, hk⟩; have RD7 := Aside0.mk hRD; clear RD8 hRD; have KB_ := Aside0.mk (KeepBut.tr KB.out hk); have XR_ := Aside0.mk (KeepBut.blk hk XR.out NG.out); clear KB XR; have KB := KB_; have XR := XR_; clear KB_ XR_; clear hk)
    | (go_at_call 33; refine (pick_c RD7.out _).mono ?_; rintro e wq ⟨⟨v7, rfl, hv7⟩, hRD, hk⟩; have RD6 := Aside0.mk hRD; clear RD7 hRD; have KB_ := Aside0.mk (KeepBut.tr KB.out hk); have XR_ := Aside0.mk (KeepBut.blk hk XR.out NG.out); clear KB XR; have KB := KB_; have XR := XR_; clear KB_ XR_; clear hk)
    | (go_at_call 57; refine (l3Cell_c RD6.out _).mono ?_; rintro e wq ⟨⟨a1, a2, a3, a4, rfl⟩, hRD, hk⟩; have RD3 := Aside0.mk hRD; clear RD6 hRD; have KB_ := Aside0.mk (KeepBut.tr KB.out hk); have XR_ := Aside0.mk (KeepBut.blk hk XR.out NG.out); clear KB XR; have KB := KB_; have XR := XR_; clear KB_ XR_; clear hk)
    | (go_at_call 57; refine (l3Cell_c RD3.out _).mono ?_; rintro e wq ⟨⟨b1, b2, b3, b4, rfl⟩, hRD, hk⟩; have RD0 := Aside0.mk hRD; clear RD3 hRD; have KB_ := Aside0.mk (KeepBut.tr KB.out hk); have XR_ := Aside0.mk (KeepBut.blk hk XR.out NG.out); clear KB XR; have KB := KB_; have XR := XR_; clear KB_ XR_; clear hk)
    | ((with_reducible refine gate_dst (N := 17) rfl ?_); refine build_ 35 _ rfl rfl #[(0, .int .i64 (1 + v8)), (1, .bool (v7 == 0)), (2, .agg #[.int .i64 a1, .int .i64 a2, .int .i64 a3, .int .i64 a4]), (3, .agg #[.int .i64 b1, .int .i64 b2, .int .i64 b3, .int .i64 b4])] ?hvs (.agg #[.int .i64 (1 + v8), .bool (v7 == 0), .int .i64 a1, .int .i64 a2, .int .i64 a3, .int .i64 a4, .int .i64 b1, .int .i64 b2, .int .i64 b3, .int .i64 b4]) ?hrun ?_; (case hvs => first | rfl | (go_simp; done) | (go_simp; rfl)); (case hrun => intro W; kernel_rfl))
    | ((with_reducible refine gate_ (.store 35 (.tmp 4) (.tmp 17)) rfl ?_); refine storeAll_ 35 (.tmp 4) (.tmp 17) rfl rfl rfl gr ?hp [.int .i64 (1 + v8), .bool (v7 == 0), .int .i64 a1, .int .i64 a2, .int .i64 a3, .int .i64 a4, .int .i64 b1, .int .i64 b2, .int .i64 b3, .int .i64 b4] ?hx2 ?ht ?h1 zeroTs _ XR.out ?hf ?_; (case hp => first | rfl | (go_simp; done) | (go_simp; rfl)); (case hx2 => first | rfl | (go_simp; done) | (go_simp; rfl)); (case ht => kernel_rfl); (case h1 => simp [Value.oneCell']); (case hf => rfl); intro wz hb hg; have XZ := Aside0.mk hb; have RZ := Aside0.mk ((RD0.out.less (c' := c) (by omega)).grown hg (by intro e; injection e with e; exact NG.out e.symm) (fun k e => by injection e with e; rw [← e]; exact GB.out)); have KZ := Aside0.mk (KeepBut.new_ KB.out hg GE.out); clear hb hg RD0 XR KB))
  exact bodyPost_ret (results_cell_row rfl _ _ gr _ _ _ _ rfl XZ.out Tryz.underlying35 rfl (by kernel_rfl)) rfl ⟨⟨⟨1 + v8, v7 == 0, ⟨a1, a2, a3, a4⟩, ⟨b1, b2, b3, b4⟩⟩, rfl⟩, RZ.out, KZ.out⟩
/-- A cell lies at the block. -/
def CellAt (W : World) (q : Nat) : Prop := ∃ c1 c2 c3 c4 : Int, W.heap[q]? = some (.cells [.int .i64 c1, .int .i64 c2, .int .i64 c3, .int .i64 c4].toArray 33 (0, 0))
theorem CellAt.keep {w w1 : World} {g q : Nat} (h : CellAt w q) (hk : KeepBut w w1 g none) (hn : q ≠ g) : CellAt w1 q := by obtain ⟨a, b, c, d, h⟩ := h; exact ⟨a, b, c, d, KeepBut.blk hk h hn⟩
theorem CellAt.below {w w1 : World} {q : Nat} (h : CellAt w q) (hb : Below w.heap.size w w1) : CellAt w1 q := by obtain ⟨a, b, c, d, h⟩ := h; exact ⟨a, b, c, d, (hb.block _ (blk_lt h)).trans h⟩
set_option maxHeartbeats 16000000 in
set_option maxRecDepth 100000 in
/-- **spec.l3CellBent** draws some cell. -/
theorem l3CellBent_c {w0 : World} {g : Nat} {b : List Int} {c : Nat} {w : World} (h : RdW w0 g b (c + 5) w) (n : Int) :
    Calls Tryz.prog 46 #[.pointer (some ⟨g, 0, none⟩), .int .i64 n] w fun e w' => (∃ a1 a2 a3 a4 : Int, e = .returned (.agg #[.int .i64 a1, .int .i64 a2, .int .i64 a3, .int .i64 a4])) ∧ RdW w0 g b c w' ∧ KeepBut w w' g none := by
  have RD5 := Aside0.mk h
  clear h
  go_enter Tryz.func46, Tryz.ntmps46
  go_wp2_with (first
    | ((with_reducible refine gate_dst (N := 4) rfl ?_); refine alloc_ 33 rfl rfl zeroC _ _ info33 ?_; intro gr hg wq hb hB; have NG := Aside0.mk (show gr ≠ g by rw [hg]; exact Nat.ne_of_gt RD5.out.lt); have GE := Aside0.mk (show w.heap.size ≤ gr by rw [hg]; exact Nat.le_refl _); have GB := Aside0.mk (show w0.heap.size ≤ gr by rw [hg]; exact RD5.out.bel.size); have XR := Aside0.mk hb; have KB := Aside0.mk (KeepBut.below_ hB g); have RDq := Aside0.mk (RD5.out.below hB); clear RD5; have RD5 := RDq; clear RDq hb hB hg)
    | (go_at_call 57; refine (l3Cell_c RD5.out _).mono ?_; rintro e wq ⟨⟨a1, a2, a3, a4, rfl⟩, hRD, hk⟩; have RD2 := Aside0.mk hRD; clear RD5 hRD; have KB_ := Aside0.mk (KeepBut.tr KB.out hk); have XR_ := Aside0.mk (KeepBut.blk hk XR.out NG.out); clear KB XR; have KB := KB_; have XR := XR_; clear KB_ XR_; clear hk)
    | ((with_reducible refine gate_dst (N := 5) rfl ?_); refine alloc_ 33 rfl rfl zeroC _ _ info33 ?_; intro gc hg wq hb hB; have NC := Aside0.mk (show gc ≠ g by rw [hg]; exact Nat.ne_of_gt RD2.out.lt); have GEC := Aside0.mk (show w.heap.size ≤ gc by rw [hg]; exact KB.out.1); have GBC := Aside0.mk (show w0.heap.size ≤ gc by rw [hg]; exact RD2.out.bel.size); have NRC := Aside0.mk (show gr ≠ gc by rw [hg]; exact Nat.ne_of_lt (blk_lt XR.out)); have XC := Aside0.mk hb; have RDq := Aside0.mk (RD2.out.below hB); clear RD2; have RD2 := RDq; clear RDq; have KB_ := Aside0.mk (KeepBut.tr KB.out (KeepBut.below_ hB _)); have XR_ := Aside0.mk ((hB.block _ (blk_lt XR.out)).trans XR.out); clear KB XR; have KB := KB_; have XR := XR_; clear KB_ XR_; clear hb hB hg)
    | ((with_reducible refine gate_ (.store 33 (.tmp 5) (.tmp 8)) rfl ?_); refine storeAll_ 33 (.tmp 5) (.tmp 8) rfl rfl rfl gc ?hp [.int .i64 a1, .int .i64 a2, .int .i64 a3, .int .i64 a4] ?hx2 ?ht ?h1 zeroC _ XC.out ?hf ?_; (case hp => first | rfl | (go_simp; done) | (go_simp; rfl)); (case hx2 => first | rfl | (go_simp; done) | (go_simp; rfl)); (case ht => kernel_rfl); (case h1 => simp [Value.oneCell']); (case hf => rfl); intro wq hb hg; have XD := Aside0.mk (show CellAt wq gc from ⟨a1, a2, a3, a4, hb⟩); have RDq := Aside0.mk (RD2.out.grown hg (by intro e; injection e with e; exact NC.out e.symm) (fun k e => by injection e with e; rw [← e]; exact GBC.out)); clear RD2; have RD2 := RDq; clear RDq; have KB_ := Aside0.mk (KeepBut.new_ KB.out hg GEC.out); have XR_ := Aside0.mk ((hg.block gr (blk_lt XR.out) (by intro e; injection e with e; exact NRC.out e)).trans XR.out); clear KB XR; have KB := KB_; have XR := XR_; clear KB_ XR_; clear XC hb hg)
    | (go_at_call 33; refine (pick_c RD2.out _).mono ?_; rintro e wq ⟨⟨v2, rfl, hv2⟩, hRD, hk⟩; have RD1 := Aside0.mk hRD; clear RD2 hRD; have KB_ := Aside0.mk (KeepBut.tr KB.out hk); have XR_ := Aside0.mk (KeepBut.blk hk XR.out NG.out); have XD_ := Aside0.mk (CellAt.keep XD.out hk NC.out); clear KB XR XD; have KB := KB_; have XR := XR_; have XD := XD_; clear KB_ XR_ XD_; clear hk)
    | ((with_reducible refine gate_dst (N := 14) rfl ?_); refine Kd.R_lit (Kd.int .i64) _ 3 ?hg (N := 14) ?hd (xs := ([0, 4, 1, 2] : List Int)) (inner := [.int .i64 0, .int .i64 4, .int .i64 1, .int .i64 2]) (ok := fun k => k ≠ g) (okp := fun k => k ≠ g) ?hr ?hp (fun _ hk => hk) (Nat.ne_of_gt RD1.out.lt) (Below.refl _ _) (Nat.le_refl _) (by simp) ?_; (case hd => rfl); (case hg => rfl); (case hr => first | (go_simp; done) | (go_simp; rfl)); (case hp => exact (Reps.one (show Kd.M (Kd.int .i64) _ _ _ 0 [.int .i64 0] from rfl) (Reps.one (show Kd.M (Kd.int .i64) _ _ _ 4 [.int .i64 4] from rfl) (Reps.one (show Kd.M (Kd.int .i64) _ _ _ 1 [.int .i64 1] from rfl) (Reps.one (show Kd.M (Kd.int .i64) _ _ _ 2 [.int .i64 2] from rfl) (Reps.none _ _)))))); intro v0 wq ho hB hg_ hnew_; obtain ⟨A14, m14, rfl, hc, hr⟩ := Kd.R_reads ho; have HC14 := Aside0.mk hc; have HR14 := Aside0.mk hr; have HF14 := Aside0.mk (show ∀ ad, A14 = some ad → 0 < ([0, 4, 1, 2] : List Int).length → ad.block ≠ g from fun ad e _ => ho.1 ad.block (by rw [e]; rfl)); clear ho hg_ hnew_ hc hr; have RDq := Aside0.mk (RD1.out.below hB); clear RD1; have RD1 := RDq; clear RDq; have KB_ := Aside0.mk (KeepBut.tr KB.out (KeepBut.below_ hB _)); have XR_ := Aside0.mk ((hB.block _ (blk_lt XR.out)).trans XR.out); have XD_ := Aside0.mk (CellAt.below XD.out hB); clear KB XR XD; have KB := KB_; have XR := XR_; have XD := XD_; clear KB_ XR_ XD_; clear hB)
    | (go_at_call 45; refine (num_c RD1.out A14 m14 ([0, 4, 1, 2] : List Int) (by simp) HR14.out HC14.out HF14.out).mono ?_; rintro e wq ⟨⟨n1, rfl⟩, hRD, hk⟩; have RD0 := Aside0.mk hRD; clear RD1 hRD HR14 HC14 HF14; have KB_ := Aside0.mk (KeepBut.tr KB.out hk); have XR_ := Aside0.mk (KeepBut.blk hk XR.out NG.out); have XD_ := Aside0.mk (CellAt.keep XD.out hk NC.out); clear KB XR XD; have KB := KB_; have XR := XR_; have XD := XD_; clear KB_ XR_ XD_; clear hk)
    | ((with_reducible refine gate_ (.store 3 (.tmp 16) (.tmp 15)) rfl ?_); obtain ⟨c1, c2, c3, c4, hX⟩ := XD.out; refine store_ 3 (.tmp 16) (.tmp 15) rfl rfl rfl gc 0 ?hp (.int .i64 n1) ?hx [.int .i64 n1] ?hu ?ht ?h1 [.int .i64 c1, .int .i64 c2, .int .i64 c3, .int .i64 c4] _ hX ?hf ?_; (case hp => first | rfl | (go_simp; done) | (go_simp; rfl)); (case hx => first | rfl | (go_simp; done) | (go_simp; rfl)); (case hu => rfl); (case ht => kernel_rfl); (case h1 => simp [Value.oneCell']); (case hf => simp); intro wq hb hg; clear XD hX; have XD := Aside0.mk (show CellAt wq gc from ⟨n1, c2, c3, c4, hb⟩); have RDq := Aside0.mk (RD0.out.grown hg (by intro e; injection e with e; exact NC.out e.symm) (fun k e => by injection e with e; rw [← e]; exact GBC.out)); clear RD0; have RD0 := RDq; clear RDq; have KB_ := Aside0.mk (KeepBut.new_ KB.out hg GEC.out); have XR_ := Aside0.mk ((hg.block gr (blk_lt XR.out) (by intro e; injection e with e; exact NRC.out e)).trans XR.out); clear KB XR; have KB := KB_; have XR := XR_; clear KB_ XR_; clear hb hg)
    | ((with_reducible refine gate_dst (N := 21) rfl ?_); refine Kd.R_lit (Kd.int .i64) _ 3 ?hg (N := 21) ?hd (xs := ([(-1), n, 6] : List Int)) (inner := [.int .i64 (-1), .int .i64 n, .int .i64 6]) (ok := fun k => k ≠ g) (okp := fun k => k ≠ g) ?hr ?hp (fun _ hk => hk) (Nat.ne_of_gt RD1.out.lt) (Below.refl _ _) (Nat.le_refl _) (by simp) ?_; (case hd => rfl); (case hg => rfl); (case hr => first | (go_simp; done) | (go_simp; rfl)); (case hp => exact (Reps.one (show Kd.M (Kd.int .i64) _ _ _ (-1) [.int .i64 (-1)] from rfl) (Reps.one (show Kd.M (Kd.int .i64) _ _ _ n [.int .i64 n] from rfl) (Reps.one (show Kd.M (Kd.int .i64) _ _ _ 6 [.int .i64 6] from rfl) (Reps.none _ _))))); intro v0 wq ho hB hg_ hnew_; obtain ⟨A21, m21, rfl, hc, hr⟩ := Kd.R_reads ho; have HC21 := Aside0.mk hc; have HR21 := Aside0.mk hr; have HF21 := Aside0.mk (show ∀ ad, A21 = some ad → 0 < ([(-1), n, 6] : List Int).length → ad.block ≠ g from fun ad e _ => ho.1 ad.block (by rw [e]; rfl)); clear ho hg_ hnew_ hc hr; have RDq := Aside0.mk (RD1.out.below hB); clear RD1; have RD1 := RDq; clear RDq; have KB_ := Aside0.mk (KeepBut.tr KB.out (KeepBut.below_ hB _)); have XR_ := Aside0.mk ((hB.block _ (blk_lt XR.out)).trans XR.out); have XD_ := Aside0.mk (CellAt.below XD.out hB); clear KB XR XD; have KB := KB_; have XR := XR_; have XD := XD_; clear KB_ XR_ XD_; clear hB)
    | (go_at_call 45; refine (num_c RD1.out A21 m21 ([(-1), n, 6] : List Int) (by simp) HR21.out HC21.out HF21.out).mono ?_; rintro e wq ⟨⟨n1, rfl⟩, hRD, hk⟩; have RD0 := Aside0.mk hRD; clear RD1 hRD HR21 HC21 HF21; have KB_ := Aside0.mk (KeepBut.tr KB.out hk); have XR_ := Aside0.mk (KeepBut.blk hk XR.out NG.out); have XD_ := Aside0.mk (CellAt.keep XD.out hk NC.out); clear KB XR XD; have KB := KB_; have XR := XR_; have XD := XD_; clear KB_ XR_ XD_; clear hk)
    | ((with_reducible refine gate_ (.store 3 (.tmp 23) (.tmp 22)) rfl ?_); obtain ⟨c1, c2, c3, c4, hX⟩ := XD.out; refine store_ 3 (.tmp 23) (.tmp 22) rfl rfl rfl gc 1 ?hp (.int .i64 n1) ?hx [.int .i64 n1] ?hu ?ht ?h1 [.int .i64 c1, .int .i64 c2, .int .i64 c3, .int .i64 c4] _ hX ?hf ?_; (case hp => first | rfl | (go_simp; done) | (go_simp; rfl)); (case hx => first | rfl | (go_simp; done) | (go_simp; rfl)); (case hu => rfl); (case ht => kernel_rfl); (case h1 => simp [Value.oneCell']); (case hf => simp); intro wq hb hg; clear XD hX; have XD := Aside0.mk (show CellAt wq gc from ⟨c1, n1, c3, c4, hb⟩); have RDq := Aside0.mk (RD0.out.grown hg (by intro e; injection e with e; exact NC.out e.symm) (fun k e => by injection e with e; rw [← e]; exact GBC.out)); clear RD0; have RD0 := RDq; clear RDq; have KB_ := Aside0.mk (KeepBut.new_ KB.out hg GEC.out); have XR_ := Aside0.mk ((hg.block gr (blk_lt XR.out) (by intro e; injection e with e; exact NRC.out e)).trans XR.out); clear KB XR; have KB := KB_; have XR := XR_; clear KB_ XR_; clear hb hg)
    | ((with_reducible refine gate_dst (N := 27) rfl ?_); refine Kd.R_lit (Kd.int .i64) _ 3 ?hg (N := 27) ?hd (xs := ([1000000001, 1, (-1000000000)] : List Int)) (inner := [.int .i64 1000000001, .int .i64 1, .int .i64 (-1000000000)]) (ok := fun k => k ≠ g) (okp := fun k => k ≠ g) ?hr ?hp (fun _ hk => hk) (Nat.ne_of_gt RD1.out.lt) (Below.refl _ _) (Nat.le_refl _) (by simp) ?_; (case hd => rfl); (case hg => rfl); (case hr => first | (go_simp; done) | (go_simp; rfl)); (case hp => exact (Reps.one (show Kd.M (Kd.int .i64) _ _ _ 1000000001 [.int .i64 1000000001] from rfl) (Reps.one (show Kd.M (Kd.int .i64) _ _ _ 1 [.int .i64 1] from rfl) (Reps.one (show Kd.M (Kd.int .i64) _ _ _ (-1000000000) [.int .i64 (-1000000000)] from rfl) (Reps.none _ _))))); intro v0 wq ho hB hg_ hnew_; obtain ⟨A27, m27, rfl, hc, hr⟩ := Kd.R_reads ho; have HC27 := Aside0.mk hc; have HR27 := Aside0.mk hr; have HF27 := Aside0.mk (show ∀ ad, A27 = some ad → 0 < ([1000000001, 1, (-1000000000)] : List Int).length → ad.block ≠ g from fun ad e _ => ho.1 ad.block (by rw [e]; rfl)); clear ho hg_ hnew_ hc hr; have RDq := Aside0.mk (RD1.out.below hB); clear RD1; have RD1 := RDq; clear RDq; have KB_ := Aside0.mk (KeepBut.tr KB.out (KeepBut.below_ hB _)); have XR_ := Aside0.mk ((hB.block _ (blk_lt XR.out)).trans XR.out); have XD_ := Aside0.mk (CellAt.below XD.out hB); clear KB XR XD; have KB := KB_; have XR := XR_; have XD := XD_; clear KB_ XR_ XD_; clear hB)
    | (go_at_call 45; refine (num_c RD1.out A27 m27 ([1000000001, 1, (-1000000000)] : List Int) (by simp) HR27.out HC27.out HF27.out).mono ?_; rintro e wq ⟨⟨n1, rfl⟩, hRD, hk⟩; have RD0 := Aside0.mk hRD; clear RD1 hRD HR27 HC27 HF27; have KB_ := Aside0.mk (KeepBut.tr KB.out hk); have XR_ := Aside0.mk (KeepBut.blk hk XR.out NG.out); have XD_ := Aside0.mk (CellAt.keep XD.out hk NC.out); clear KB XR XD; have KB := KB_; have XR := XR_; have XD := XD_; clear KB_ XR_ XD_; clear hk)
    | ((with_reducible refine gate_ (.store 3 (.tmp 29) (.tmp 28)) rfl ?_); obtain ⟨c1, c2, c3, c4, hX⟩ := XD.out; refine store_ 3 (.tmp 29) (.tmp 28) rfl rfl rfl gc 3 ?hp (.int .i64 n1) ?hx [.int .i64 n1] ?hu ?ht ?h1 [.int .i64 c1, .int .i64 c2, .int .i64 c3, .int .i64 c4] _ hX ?hf ?_; (case hp => first | rfl | (go_simp; done) | (go_simp; rfl)); (case hx => first | rfl | (go_simp; done) | (go_simp; rfl)); (case hu => rfl); (case ht => kernel_rfl); (case h1 => simp [Value.oneCell']); (case hf => simp); intro wq hb hg; clear XD hX; have XD := Aside0.mk (show CellAt wq gc from ⟨c1, c2, c3, n1, hb⟩); have RDq := Aside0.mk (RD0.out.grown hg (by intro e; injection e with e; exact NC.out e.symm) (fun k e => by injection e with e; rw [← e]; exact GBC.out)); clear RD0; have RD0 := RDq; clear RDq; have KB_ := Aside0.mk (KeepBut.new_ KB.out hg GEC.out); have XR_ := Aside0.mk ((hg.block gr (blk_lt XR.out) (by intro e; injection e with e; exact NRC.out e)).trans XR.out); clear KB XR; have KB := KB_; have XR := XR_; clear KB_ XR_; clear hb hg)
    | ((with_reducible refine gate_dst (N := 33) rfl ?_); refine Kd.R_lit (Kd.int .i64) _ 3 ?hg (N := 33) ?hd (xs := ([1, (-1), 6] : List Int)) (inner := [.int .i64 1, .int .i64 (-1), .int .i64 6]) (ok := fun k => k ≠ g) (okp := fun k => k ≠ g) ?hr ?hp (fun _ hk => hk) (Nat.ne_of_gt RD1.out.lt) (Below.refl _ _) (Nat.le_refl _) (by simp) ?_; (case hd => rfl); (case hg => rfl); (case hr => first | (go_simp; done) | (go_simp; rfl)); (case hp => exact (Reps.one (show Kd.M (Kd.int .i64) _ _ _ 1 [.int .i64 1] from rfl) (Reps.one (show Kd.M (Kd.int .i64) _ _ _ (-1) [.int .i64 (-1)] from rfl) (Reps.one (show Kd.M (Kd.int .i64) _ _ _ 6 [.int .i64 6] from rfl) (Reps.none _ _))))); intro v0 wq ho hB hg_ hnew_; obtain ⟨A33, m33, rfl, hc, hr⟩ := Kd.R_reads ho; have HC33 := Aside0.mk hc; have HR33 := Aside0.mk hr; have HF33 := Aside0.mk (show ∀ ad, A33 = some ad → 0 < ([1, (-1), 6] : List Int).length → ad.block ≠ g from fun ad e _ => ho.1 ad.block (by rw [e]; rfl)); clear ho hg_ hnew_ hc hr; have RDq := Aside0.mk (RD1.out.below hB); clear RD1; have RD1 := RDq; clear RDq; have KB_ := Aside0.mk (KeepBut.tr KB.out (KeepBut.below_ hB _)); have XR_ := Aside0.mk ((hB.block _ (blk_lt XR.out)).trans XR.out); have XD_ := Aside0.mk (CellAt.below XD.out hB); clear KB XR XD; have KB := KB_; have XR := XR_; have XD := XD_; clear KB_ XR_ XD_; clear hB)
    | (go_at_call 45; refine (num_c RD1.out A33 m33 ([1, (-1), 6] : List Int) (by simp) HR33.out HC33.out HF33.out).mono ?_; rintro e wq ⟨⟨n1, rfl⟩, hRD, hk⟩; have RD0 := Aside0.mk hRD; clear RD1 hRD HR33 HC33 HF33; have KB_ := Aside0.mk (KeepBut.tr KB.out hk); have XR_ := Aside0.mk (KeepBut.blk hk XR.out NG.out); have XD_ := Aside0.mk (CellAt.keep XD.out hk NC.out); clear KB XR XD; have KB := KB_; have XR := XR_; have XD := XD_; clear KB_ XR_ XD_; clear hk)
    | ((with_reducible refine gate_ (.store 3 (.tmp 35) (.tmp 34)) rfl ?_); obtain ⟨c1, c2, c3, c4, hX⟩ := XD.out; refine store_ 3 (.tmp 35) (.tmp 34) rfl rfl rfl gc 2 ?hp (.int .i64 n1) ?hx [.int .i64 n1] ?hu ?ht ?h1 [.int .i64 c1, .int .i64 c2, .int .i64 c3, .int .i64 c4] _ hX ?hf ?_; (case hp => first | rfl | (go_simp; done) | (go_simp; rfl)); (case hx => first | rfl | (go_simp; done) | (go_simp; rfl)); (case hu => rfl); (case ht => kernel_rfl); (case h1 => simp [Value.oneCell']); (case hf => simp); intro wq hb hg; clear XD hX; have XD := Aside0.mk (show CellAt wq gc from ⟨c1, c2, n1, c4, hb⟩); have RDq := Aside0.mk (RD0.out.grown hg (by intro e; injection e with e; exact NC.out e.symm) (fun k e => by injection e with e; rw [← e]; exact GBC.out)); clear RD0; have RD0 := RDq; clear RDq; have KB_ := Aside0.mk (KeepBut.new_ KB.out hg GEC.out); have XR_ := Aside0.mk ((hg.block gr (blk_lt XR.out) (by intro e; injection e with e; exact NRC.out e)).trans XR.out); clear KB XR; have KB := KB_; have XR := XR_; clear KB_ XR_; clear hb hg)
    | ((with_reducible refine gate_dst (N := 36) rfl ?_); obtain ⟨c1, c2, c3, c4, hX⟩ := XD.out; refine loadVar_ 33 (.tmp 5) rfl rfl gc ?hx [.int .i64 c1, .int .i64 c2, .int .i64 c3, .int .i64 c4] _ Tryz.underlying33 ?hi _ hX ?_; (case hx => first | rfl | (go_simp; done) | (go_simp; rfl)); (case hi => kernel_rfl); clear XD hX)
    | ((with_reducible refine gate_ (.store 33 (.tmp 4) (.tmp 36)) rfl ?_); refine storeAll_ 33 (.tmp 4) (.tmp 36) rfl rfl rfl gr ?hp [.int .i64 c1, .int .i64 c2, .int .i64 c3, .int .i64 c4] ?hx2 ?ht ?h1 zeroC _ XR.out ?hf ?_; (case hp => first | rfl | (go_simp; done) | (go_simp; rfl)); (case hx2 => first | rfl | (go_simp; done) | (go_simp; rfl)); (case ht => kernel_rfl); (case h1 => simp [Value.oneCell']); (case hf => rfl); intro wz hb hg; have XZ := Aside0.mk hb; have RZ := Aside0.mk ((RD0.out.less (c' := c) (by omega)).grown hg (by intro e; injection e with e; exact NG.out e.symm) (fun k e => by injection e with e; rw [← e]; exact GB.out)); have KZ := Aside0.mk (KeepBut.new_ KB.out hg GE.out); clear hb hg RD0 XR KB)
    | ((with_reducible refine gate_ (.store 33 (.tmp 4) (.tmp 36)) rfl ?_); refine storeAll_ 33 (.tmp 4) (.tmp 36) rfl rfl rfl gr ?hp [.int .i64 c1, .int .i64 c2, .int .i64 c3, .int .i64 c4] ?hx2 ?ht ?h1 zeroC _ XR.out ?hf ?_; (case hp => first | rfl | (go_simp; done) | (go_simp; rfl)); (case hx2 => first | rfl | (go_simp; done) | (go_simp; rfl)); (case ht => kernel_rfl); (case h1 => simp [Value.oneCell']); (case hf => rfl); intro wz hb hg; have XZ := Aside0.mk hb; have RZ := Aside0.mk ((RD1.out.less (c' := c) (by omega)).grown hg (by intro e; injection e with e; exact NG.out e.symm) (fun k e => by injection e with e; rw [← e]; exact GB.out)); have KZ := Aside0.mk (KeepBut.new_ KB.out hg GE.out); clear hb hg RD1 XR KB))
  all_goals exact bodyPost_ret (results_cell_row rfl _ _ gr _ _ _ _ rfl XZ.out Tryz.underlying33 rfl (by kernel_rfl)) rfl ⟨⟨_, _, _, _, rfl⟩, RZ.out, KZ.out⟩
end Pl
namespace Pl
/-! ### Rows of plans that are written out; loads of what is not laid open -/
theorem fold_seg : ∀ (l : List Value) (k off : Nat) (pre mid post : List Value) (A : Array Value), A.toList = pre ++ (mid ++ post) → pre.length = off + k → mid.length = l.length →
    ((l.zipIdx k).foldl (fun cs (p : Value × Nat) => cs.setIfInBounds (off + p.2) p.1) A).toList = pre ++ (l ++ post)
  | [], k, off, pre, mid, post, A, hA, _, hm => by
    have : mid = [] := List.eq_nil_of_length_eq_zero (by simpa using hm)
    subst this
    simpa using hA
  | c :: l, k, off, pre, [], post, A, hA, hp, hm => by simp at hm
  | c :: l, k, off, pre, m :: mid, post, A, hA, hp, hm => by
    rw [List.zipIdx_cons, List.foldl_cons]
    have h := fold_seg l (k + 1) off (pre ++ [c]) mid post (A.setIfInBounds (off + k) c) (by
      rw [Array.toList_setIfInBounds, hA, ← hp, List.set_append_right _ _ (Nat.le_refl _), Nat.sub_self]
      simp) (by simp; omega) (by simpa using hm)
    simpa using h
theorem fold_arr (l : List Value) (off : Nat) (A : Array Value) (pre mid post : List Value) (hA : A.toList = pre ++ (mid ++ post)) (hp : pre.length = off) (hm : mid.length = l.length) :
    (l.toArray.zipIdx.foldl (fun cs (p : Value × Nat) => cs.setIfInBounds (off + p.2) p.1) A).toList = pre ++ (l ++ post) := by
  rw [← Array.foldl_toList, Array.toList_zipIdx]
  exact fold_seg l 0 off pre mid post A hA (by simpa using hp) hm
section
variable {P : Program}
theorem fill1 {n : Nat} (c : List Value) (hl : c.length = n) (A : Array Value) (hA : A.size = n) : Instr.fill (fun i => some (i * n, n)) A [(0, .agg c.toArray)] = some c.toArray := by
  unfold Instr.fill
  have h1 : ¬ ((Value.agg c.toArray).cells.size ≠ n || 0 * n + (Value.agg c.toArray).cells.size > A.size) = true := by simp [Value.cells, hl, hA]
  simp only [if_neg h1]
  unfold Instr.fill
  congr 1
  apply Array.toList_inj.1
  have := fold_arr c (0 * n) A [] A.toList [] (by simp) (by simp) (by simp [hl, hA])
  simpa [Value.cells] using this
theorem fill2 {n : Nat} (c d : List Value) (hc : c.length = n) (hd : d.length = n) (A : Array Value) (hA : A.size = 2 * n) : Instr.fill (fun i => some (i * n, n)) A [(0, .agg c.toArray), (1, .agg d.toArray)] = some (c ++ d).toArray := by
  unfold Instr.fill
  have h1 : ¬ ((Value.agg c.toArray).cells.size ≠ n || 0 * n + (Value.agg c.toArray).cells.size > A.size) = true := by simp [Value.cells, hc, hA]; omega
  simp only [if_neg h1]
  have e1 := fold_arr c (0 * n) A [] (A.toList.take n) (A.toList.drop n) (by simp) (by simp) (by simp [hc, hA]; omega)
  obtain ⟨B, hB⟩ : ∃ B, B = (Value.agg c.toArray).cells.zipIdx.foldl (fun cs (p : Value × Nat) => cs.setIfInBounds (0 * n + p.2) p.1) A := ⟨_, rfl⟩
  have hBl : B.toList = c ++ A.toList.drop n := by rw [hB]; simpa [Value.cells] using e1
  have hBs : B.size = 2 * n := by rw [← Array.length_toList, hBl]; simp [hc, hA]; omega
  show Instr.fill _ ((Value.agg c.toArray).cells.zipIdx.foldl (fun cs (p : Value × Nat) => cs.setIfInBounds (0 * n + p.2) p.1) A) _ = _
  rw [← hB]
  unfold Instr.fill
  have h2 : ¬ ((Value.agg d.toArray).cells.size ≠ n || 1 * n + (Value.agg d.toArray).cells.size > B.size) = true := by simp [Value.cells, hd, hBs]; omega
  simp only [if_neg h2]
  unfold Instr.fill
  congr 1
  apply Array.toList_inj.1
  have := fold_arr d (1 * n) B c (A.toList.drop n) [] (by simpa using hBl) (by simp [hc]) (by simp [hd, hA]; omega)
  simpa [Value.cells] using this
theorem exec_lit1 {o : Oper} {a : Act} {W : World} (t e : TypeId) (x : Operand) (ho : o.op = .buildSlice t 1 #[(0, x)]) (hu : P.underlying t = some (.slice e)) (z : Value) (n b : Nat) (hi : (P.info? e).map (fun i => (i.zero, i.size, i.bytes)) = some (some z, n, b)) (h0 : 0 < n) (hs : n ≤ 1000)
    (c : List Value) (hc : c.length = n) (hx : a.eval x = .agg c.toArray) : (execOp a.eval o).run P W = .ok (.value (.slice (some ⟨W.heap.size, 0, none⟩) 1 1)) (W.alloc (.cells c.toArray e)) := by
  obtain ⟨ie, hie, h⟩ := Option.map_eq_some_iff.1 hi
  simp only [Prod.mk.injEq] at h
  obtain ⟨hz, hn, -⟩ := h
  subst hn
  unfold execOp
  simp only [ho]
  have hr := run_buildSlice (P := P) W t e 1 #[(0, .agg c.toArray)] c.toArray ie z hu hie hz (by omega) (by omega) (fill1 c hc _ (by simp))
  simp [hx, Sem.run_bind, Sem.run_pure, Result.andThen_ok, hr]
theorem exec_lit2 {o : Oper} {a : Act} {W : World} (t e : TypeId) (x y : Operand) (ho : o.op = .buildSlice t 2 #[(0, x), (1, y)]) (hu : P.underlying t = some (.slice e)) (z : Value) (n b : Nat) (hi : (P.info? e).map (fun i => (i.zero, i.size, i.bytes)) = some (some z, n, b)) (h0 : 0 < n) (hs : n ≤ 1000)
    (c d : List Value) (hc : c.length = n) (hd : d.length = n) (hx : a.eval x = .agg c.toArray) (hy : a.eval y = .agg d.toArray) : (execOp a.eval o).run P W = .ok (.value (.slice (some ⟨W.heap.size, 0, none⟩) 2 2)) (W.alloc (.cells (c ++ d).toArray e)) := by
  obtain ⟨ie, hie, h⟩ := Option.map_eq_some_iff.1 hi
  simp only [Prod.mk.injEq] at h
  obtain ⟨hz, hn, -⟩ := h
  subst hn
  unfold execOp
  simp only [ho]
  have hr := run_buildSlice (P := P) W t e 2 #[(0, .agg c.toArray), (1, .agg d.toArray)] (c ++ d).toArray ie z hu hie hz (by omega) (by omega) (fill2 c d hc hd _ (by simp))
  simp [hx, hy, Sem.run_bind, Sem.run_pure, Result.andThen_ok, hr]
/-- A struct is loaded whole from an element, in every world that holds it. -/
theorem yieldsIf_loadA {ops : Array Oper} {S : World → Prop} {op : Oper} {a : Act} (hw : Region.wanted op (yielded ops a.tmps) = true) (ty : TypeId) (x : Operand) (ho : op.op = .load ty x)
    (ad : Addr) (hx : a.eval x = .pointer (some ad)) (cs : List Value) (fs : Array Field) (hS : ∀ w, S w → ∀ j v, cs[j]? = some v → w.cell? (ad.add j) = some v)
    (hu : P.underlying ty = some (.struct fs)) (hi : (P.info? ty).map (·.size) = some cs.length) : YieldsIf P ops S op (.agg cs.toArray) a :=
  .inl ⟨hw, fun W hW => by
    have hl : (loadCells ad cs.length).run P W = .ok cs.toArray W := run_loadCells_list (P := P) W ad cs (hS W hW)
    have hr : (loadVar ty ad).run P W = .ok (.agg cs.toArray) W := by
      cases hq : P.info? ty with
      | none => simp [hq] at hi
      | some i =>
        have hs : i.size = cs.length := by simpa [hq] using hi
        have hagg : (isAgg ty).run P W = .ok true W := by
          unfold isAgg
          rw [Sem.run_bind, run_underlying hu W]
          simp
        simp [loadVar, Sem.run_bind, hagg, sizeOf, typeInfo, hq, hs, hl]
    unfold execOp
    simp only [ho, hx, Instr.loadAt, Instr.sureAddr, Sem.run_bind, Sem.run_pure, Result.andThen_ok, hr]⟩
end
end Pl
namespace Pl
/-- The cells of a plan, its three rows named. -/
def planV (x : S39) (v12 v15 v18 : Value) : List Value := [.int .i64 x.f0, .int .i64 x.f1, .int .i64 x.f2.f0, .bool x.f2.f1, .int .i64 x.f2.f2.f0, .int .i64 x.f2.f2.f1, .int .i64 x.f2.f2.f2, .int .i64 x.f2.f2.f3, .int .i64 x.f2.f3.f0, .int .i64 x.f2.f3.f1, .int .i64 x.f2.f3.f2, .int .i64 x.f2.f3.f3, v12, .int .i64 x.f4, .int .i64 x.f5, v15, .int .i64 x.f7, .int .i64 x.f8, v18]
/-- l4Copy's walk: its boxes. -/
structure CS (w : World) (gb gr go : Nat) (cs cur : List Value) (W : World) : Prop where
  hb : W.heap[gb]? = some (.cells cs.toArray 39 (0, 0))
  ho : W.heap[go]? = some (.cells cur.toArray 39 (0, 0))
  hr : W.heap[gr]? = some (.cells zero39.toArray 39 (0, 0))
  bel : Below w.heap.size w W
  ge : w.heap.size ≤ gb
  lb : gb < gr
  lr : gr < go
theorem CS.call {w : World} {gb gr go : Nat} {cs cur : List Value} {W W1 : World} (h : CS w gb gr go cs cur W) (hb : Below W.heap.size W W1) : CS w gb gr go cs cur W1 :=
  ⟨(hb.block _ (blk_lt h.hb)).trans h.hb, (hb.block _ (blk_lt h.ho)).trans h.ho, (hb.block _ (blk_lt h.hr)).trans h.hr, below_step h.bel hb, h.ge, h.lb, h.lr⟩
theorem CS.row {w : World} {gb gr go : Nat} {cs cur : List Value} {W W1 : World} {row : Option Nat} (h : CS w gb gr go cs cur W) (hg : W.grownBy W1 row) (hn : ∀ k, row = some k → go < k) : CS w gb gr go cs cur W1 := by
  have h1 := h.lb; have h2 := h.lr; have h3 := h.ge
  exact ⟨(hg.block _ (blk_lt h.hb) (fun e => by have := hn _ e.symm; omega)).trans h.hb, (hg.block _ (blk_lt h.ho) (fun e => by have := hn _ e.symm; omega)).trans h.ho, (hg.block _ (blk_lt h.hr) (fun e => by have := hn _ e.symm; omega)).trans h.hr,
    h.bel.grown hg h.bel.size (fun k e => by have := hn _ e; omega), h.ge, h.lb, h.lr⟩
theorem CS.put {w : World} {gb gr go : Nat} {cs cur cur' : List Value} {W W1 : World} (h : CS w gb gr go cs cur W) (hg : W.grownBy W1 (some go)) (hb : W1.heap[go]? = some (.cells cur'.toArray 39 (0, 0))) : CS w gb gr go cs cur' W1 := by
  have h1 := h.lb; have h2 := h.lr; have h3 := h.ge
  exact ⟨(hg.block _ (blk_lt h.hb) (by intro e; injection e with e; omega)).trans h.hb, hb, (hg.block _ (blk_lt h.hr) (by intro e; injection e with e; omega)).trans h.hr,
    h.bel.grown hg h.bel.size (fun k e => by injection e with e; omega), h.ge, h.lb, h.lr⟩
theorem CS.drew {w : World} {gb gr go : Nat} {cs cur : List Value} {W : World} (h : CS w gb gr go cs cur W) : CS w gb gr go cs cur W.drew := h.call (below_drew (Below.refl _ _))
theorem CS.cb {w : World} {gb gr go : Nat} {cs cur : List Value} {W : World} (h : CS w gb gr go cs cur W) {j : Nat} {v : Value} (hv : cs[j]? = some v) : W.cell? ⟨gb, j, none⟩ = some v := by rw [blk_cell h.hb]; simpa using hv
theorem CS.co {w : World} {gb gr go : Nat} {cs cur : List Value} {W : World} (h : CS w gb gr go cs cur W) {j : Nat} {v : Value} (hv : cur[j]? = some v) : W.cell? ⟨go, j, none⟩ = some v := by rw [blk_cell h.ho]; simpa using hv
/-- A row of the call's own lies beyond the boxes. -/
theorem R_own_gt {α : Type} {d : Kd α} {e base go : Nat} {W : World} {v : Value} {xs : List α} (h : d.R e W base (fun k => go < k) v xs) : ∀ k, v.ownBlock = some k → go < k := fun k hk => h.1 k hk
theorem R_own_lt {α : Type} {d : Kd α} {e base : Nat} {ok : Nat → Prop} {W : World} {v : Value} {xs : List α} (h : d.R e W base ok v xs) : ∀ k, v.ownBlock = some k → k < W.heap.size := fun k hk => ((Kd.R_bound h).1 k hk).2.2.1
/-- A row of the call's own beside another that grows: apart by what lies where. -/
theorem R_aside {α : Type} {d : Kd α} {e base n : Nat} {ok : Nat → Prop} {W W1 : World} {v : Value} {xs : List α} {row : Option Nat} (h : d.R e W base ok v xs) (hg : W.grownBy W1 row) (hn : ∀ k, ok k → k < n) (hr : ∀ k, row = some k → n ≤ k) : d.R e W1 base ok v xs :=
  Kd.R_grown h hg (fun k hk e => by have := hr k e.symm; have := hn k hk; omega)
section
variable {P : Program} {ops : Array Oper} {o : Oper} {a : Act} {Q : Exit → Act → World → Prop} {Kc : Act → World → Prop}
/-- A store in a region that draws its order. -/
theorem store_step {W : World} (t : TypeId) (p x : Operand) (ho : o.op = .store t p x) (hd : o.dst = none) (hw : Region.wanted o (yielded ops a.tmps) = true) (g o' : Nat) (hp : a.eval p = .pointer (some ⟨g, o', none⟩)) (u : Value) (hx : a.eval x = u) (seg : List Value) (hu : u.cells.toList = seg)
    (ht : (P.info? t).map (·.size) = some seg.length) (h1 : ∀ q ∈ seg, q.oneCell' = true) (cur : List Value) (e : TypeId) (hh : W.heap[g]? = some (.cells cur.toArray e (0, 0))) (hfit : o' + seg.length ≤ cur.length)
    (h : ∀ w1, w1.heap[g]? = some (.cells (cur.take o' ++ seg ++ cur.drop (o' + seg.length)).toArray e (0, 0)) → W.grownBy w1 (some g) → Kc a w1) : if Region.wanted o (yielded ops a.tmps) = true then Oper.wp P o a W Kc Q else Kc (a.put none undef) W := by
  have hrun := run_store_run (P := P) t u seg hh hu ht (by simpa using hfit) h1
  obtain ⟨cur', h3, h4, h5⟩ := setCells_row seg o' W cur.toArray hh (by simpa using hfit)
  obtain ⟨s1, s2, s3, s4⟩ := setCells_same g seg o' W
  rw [if_pos hw]
  unfold Oper.wp execOp
  simp only [ho, hp, hx, Sem.run_bind, Sem.run_pure, Result.andThen_ok, hrun]
  show Kc (a.put o.dst undef) _
  rw [hd]
  refine h _ ?_ ⟨s1, s2, s3, by rw [s4]; exact Nat.le_refl _, fun k _ hk => setCells_far _ _ k (fun he => hk (by rw [he]))⟩
  rw [h3]
  congr 2
  apply Array.toList_inj.1
  rw [h5]
end
end Pl

end Go.Proofs.YtlpgnkndjmfcjaaGreat.PFnPlanUses
