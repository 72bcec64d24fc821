/- The program's shaped at a known kind: so many plans under it and nothing kept that its kind has no use for. The program's shaped at every plan. What the program and the given specification say of columns, cells, tests and keys. -/
import Derived.Test.YtlpgnkndjmfcjaaGreatPlParts
namespace Go.Proofs.YtlpgnkndjmfcjaaGreat.PFnPlanUses
open Go.RowKit Go.Proofs.YtlpgnkndjmfcjaaGreatW.PrintWords Go.Proofs.YtlpgnkndjmfcjaaGreatW.PrintLast Go.Proofs.YtlpgnkndjmfcjaaGreatW.PrintMore
attribute [local go_sem] max2_int min2_int max_two min_two max_three min_three max_four min_four   -- for this text's walks alone
set_option linter.unusedVariables false
set_option linter.unusedSimpArgs false
namespace Pl
/-- a plan without the plans under it -/
def noKids (x : S39) : S39 := ⟨x.f0, x.f1, x.f2, x.f3, x.f4, x.f5, x.f6, x.f7, x.f8, []⟩
theorem noKids_K {w : World} {x : S39} {cs : List Value} (hK : k39.K w x cs) : k39.K w (noKids x) (cs.take 18 ++ .slice none 0 0 :: cs.drop 19) := by
  obtain ⟨A12, c12, A15, c15, A18, c18, hcs, l12, g12, l15, g15, l18, g18⟩ := k39_open hK
  rw [hcs]
  exact k39_mk w (noKids x) l12 g12 l15 g15 (Nat.le_refl _) (Kd.C_nil _ _)
theorem cut_len {cs : List Value} (h : cs.length = 19) : (cs.take 18 ++ Value.slice none 0 0 :: cs.drop 19).length = 19 := by simp [h]
theorem noKids_small {x : S39} (h : Small39 x) : Small39 (noKids x) :=
  Small39.mk _ h.out.1 h.out.2.1 (Nat.zero_le _) (fun y hy => by cases hy)
/-- shaped, of a kind that has so many plans under it and keeps so much. -/
noncomputable def shB (x : S39) (n : Nat) (onl : S39 → S39) : Bool := decide (x.f9.length = n) && same (noKids x) (noKids (onl x))
theorem shB_no {x : S39} {n : Nat} {onl : S39 → S39} (h : ¬ x.f9.length = n) : shB x n onl = false := by simp [shB, h]
theorem shB_yes {x : S39} {n : Nat} {onl : S39 → S39} (h : x.f9.length = n) : shB x n onl = same (noKids x) (noKids (onl x)) := by simp [shB, h]
theorem cell_of_range {W : World} {g e : Nat} {cs : List Value} (h : W.heap[g]? = some (.cells cs.toArray e (0, 0))) {j : Nat} {v : Value} (hv : cs[j]? = some v) : W.cell? ⟨g, j, none⟩ = some v := by
  rw [blk_cell h]; simpa using hv
theorem range_ {W : World} {g e : Nat} {cs : List Value} (h : W.heap[g]? = some (.cells cs.toArray e (0, 0))) : W.rangeAt g 0 cs := fun j v hj => by
  rw [Nat.zero_add, blk_cell h]; simpa using hj
/-- The run of a store of a whole struct into a variable. -/
theorem storeRun {P : Program} {W : World} (t : TypeId) {g : Nat} {seg cur : List Value} {e : TypeId} (hh : W.heap[g]? = some (.cells cur.toArray e (0, 0))) (hl : seg.length = cur.length) (h1 : ∀ q ∈ seg, q.oneCell' = true) (ht : (P.info? t).map (·.size) = some seg.length) :
    ∃ w1, (Instr.storeAt t (.pointer (some ⟨g, 0, none⟩)) (.agg seg.toArray)).run P W = .ok () w1 ∧ w1.heap[g]? = some (.cells seg.toArray e (0, 0)) ∧ W.grownBy w1 (some g) := by
  have hrun := run_store_run (P := P) t (.agg seg.toArray) seg (g := g) (o := 0) hh rfl ht (by simp [hl]) h1
  obtain ⟨cur', h3, h4, h5⟩ := setCells_row seg 0 W cur.toArray hh (by simp [hl])
  obtain ⟨s1, s2, s3, s4⟩ := setCells_same g seg 0 W
  refine ⟨_, hrun, ?_, s1, s2, s3, by rw [s4]; exact Nat.le_refl _, fun k _ hk => setCells_far _ _ k (fun he => hk (by rw [he]))⟩
  rw [h3]
  congr 2
  apply Array.toList_inj.1
  rw [h5]
  simp [hl]
section
variable {P : Program} {ops : Array Oper} {Q : Exit → Act → World → Prop} {K : Act → World → Prop}
/-- A variable is laid, as one step of a region that draws. -/
theorem zAl_ {oi : Oper} {N : Option Tmp} {a : Act} {W : World} (hw : Region.wanted oi (yielded ops a.tmps) = true) (hN : oi.dst = N) (ty : TypeId) (ho : oi.op = .alloc ty) (z : List Value) (n b : Nat) (hi : (P.info? ty).map (fun i => (i.zero, i.size, i.bytes)) = some (some (.agg z.toArray), n, b))
    (h : ∀ g, g = W.heap.size → ∀ w1, w1.heap[g]? = some (.cells z.toArray ty (0, 0)) → Below W.heap.size W w1 → K (a.put N (.pointer (some ⟨g, 0, none⟩))) w1) : if Region.wanted oi (yielded ops a.tmps) = true then Oper.wp P oi a W K Q else K (a.put N undef) W := by
  refine value_ hw hN ?_ (h _ rfl _ (blk_new W _) (below_alloc (Below.refl _ _) _))
  obtain ⟨i, hi1, hi2⟩ := Option.map_eq_some_iff.1 hi
  simp only [Prod.mk.injEq] at hi2
  obtain ⟨hz, -, -⟩ := hi2
  unfold execOp
  simp only [ho]
  simp [Instr.alloc, zeroValue, typeInfo, hi1, hz, go_sem]
/-- A method called through an interface, as one step of a region that draws. -/
theorem zInv_ {oi : Oper} {N : Option Tmp} {a : Act} {W : World} {recv : Operand} {name : String} {xs : Array Operand} {ts : Array TypeId} {T : TypeId} {v v' : Value} {f : FuncId} {args : Array Value} (hw : Region.wanted oi (yielded ops a.tmps) = true) (hN : oi.dst = N)
    (hop : oi.op = .call { callee := .invoke recv name, args := xs, argTypes := ts }) (hx : a.eval recv = .iface T v) {M : Nat} (hM : P.types.size + Made.depth = M) (hm : (method M T v name).run P W = .ok (f, v') W) (hc : ∀ vs W, (callFunc f vs).run P W = .ok (.enter f vs) W) (hargs : xs.map a.eval = args)
    (h : Calls P f (#[v'] ++ args) W fun e w' => ∃ v, e = .returned v ∧ K (a.put N v) w') : if Region.wanted oi (yielded ops a.tmps) = true then Oper.wp P oi a W K Q else K (a.put N undef) W := by
  refine call_ f (#[v'] ++ args) hw hN ?_ h
  unfold execOp
  have h0 : (#[Value.iface T v] ++ args)[0]? = some (.iface T v) := by simp [Array.getElem?_append]
  have h1 : (#[Value.iface T v] ++ args).extract 1 (#[Value.iface T v] ++ args).size = args := by
    apply Array.toList_inj.1; simp
  have hcm : (callMethod (.iface T v) name args).run P W = .ok (.enter f (#[v'] ++ args)) W := by
    unfold callMethod
    simp [hM, hm, hc]
  simp only [hop, resolve, invoke, hx, hargs, Sem.run_bind, Sem.run_pure, Result.andThen_ok, h0, h1, hcm]
theorem zLk_ {oi : Oper} {a : Act} {W : World} {t : TypeId} {m x : Operand} {ok : Bool} {v u r : Value} (ho : oi.op = .lookup t m x ok) (hm : a.eval m = v) (hx : a.eval x = u) (hr : (Instr.lookup t v u ok).run P W = .ok r W) : (execOp a.eval oi).run P W = .ok (.value r) W := by
  unfold execOp
  simp only [ho, hm, hx, Sem.run_bind, Sem.run_pure, Result.andThen_ok, hr]
theorem zSt_ {oi : Oper} {a : Act} {W w1 : World} {t : TypeId} {p x : Operand} {v u : Value} (ho : oi.op = .store t p x) (hp : a.eval p = v) (hx : a.eval x = u) (hr : (Instr.storeAt t v u).run P W = .ok () w1) : (execOp a.eval oi).run P W = .ok .skip w1 := by
  unfold execOp
  simp only [ho, hp, hx, Sem.run_bind, Sem.run_pure, Result.andThen_ok, hr]
end
set_option maxHeartbeats 8000000 in
set_option maxRecDepth 100000 in
/-- **impl.shaped**, of a kind that the map of the kinds holds. -/
theorem shaped_known (T FK FO n : Nat) (onl : S39 → S39) (hn : n ≤ 2)
    (hmk : ∀ W, (method 246 T (.agg #[]) "loop.example/milldam/impl.kids").run Tryz.prog W = .ok (FK, .agg #[]) W) (hmo : ∀ W, (method 246 T (.agg #[]) "loop.example/milldam/impl.only").run Tryz.prog W = .ok (FO, .agg #[]) W)
    (hck : ∀ vs W, (callFunc FK vs).run Tryz.prog W = .ok (.enter FK vs) W) (hco : ∀ vs W, (callFunc FO vs).run Tryz.prog W = .ok (.enter FO vs) W)
    (hk : ∀ W, Calls Tryz.prog FK #[.agg #[]] W fun e w' => e = .returned (.int .i64 n) ∧ Below W.heap.size W w')
    (ho : ∀ x cs w0 W, k39.K w0 x cs → Calls Tryz.prog FO #[.agg #[], .agg cs.toArray] W fun e w' => ∃ cs', e = .returned (.agg cs'.toArray) ∧ k39.K w0 (onl x) cs' ∧ Below W.heap.size W w')
    (x : S39) (hp : partV x.f0 = some (.iface T (.agg #[]))) (cs : List Value) (w : World) (hK : k39.K w x cs) (hsm : Small39 x) :
    Calls Tryz.prog 47 #[.agg cs.toArray] w fun e w' => e = .returned (.bool (shB x n onl)) ∧ Below w.heap.size w w' := by
  have LC := Aside0.mk (show cs.length = 19 from k39.K_len hK)
  have OC := Aside0.mk (show ∀ q ∈ cs, q.oneCell' = true from k39.K_one hK)
  obtain ⟨A12, c12, A15, c15, A18, c18, hcs, l12, g12, l15, g15, l18, g18⟩ := k39_open hK
  have E0 := Aside0.mk (show cs[0]? = some (.int .i64 x.f0) by rw [hcs]; rfl)
  have E18 := Aside0.mk (show cs[18]? = some (.slice A18 x.f9.length c18) by rw [hcs]; rfl)
  have HK := Aside0.mk hK
  have SM := Aside0.mk hsm
  have HP := Aside0.mk hp
  have KK := Aside0.mk hk
  have KO := Aside0.mk ho
  have S9 := hsm.out.2.2.1
  have H2 := Aside0.mk hn
  clear hcs l12 g12 l15 g15 l18 g18 hK hsm hp hk ho hn
  go_enter Tryz.func47, Tryz.ntmps47
  go_wp2_with ((with_reducible refine gate_dst (N := 1) rfl ?_); refine box_ 39 (.tmp 0) rfl rfl cs.toArray rfl ?_; intro g hg w1 hbx hB; have X1 := Aside0.mk hbx; have B1 := Aside0.mk hB; have G1 := Aside0.mk (Nat.le_of_eq hg.symm); clear hbx hB hg)
  refine start_ (n := 9) (S := fun w' => w'.heap[g]? = some (.cells cs.toArray 39 (0, 0)) ∧ w'.cell? ⟨g, 0, none⟩ = some (.int .i64 x.f0) ∧ Below w.heap.size w w') (ds := []) (zm 9 0) (by kernel_rfl) rfl rfl ⟨X1.out, (cell_of_range X1.out E0.out), (below_drew B1.out)⟩ (fun hHeld => ?_)
  refine zpk 1 9 9 2 ?_
  refine ztk 2 10 9 6 ?_
  refine one_ (i := 0) (N := some 8) (zm 9 7) rfl rfl (by kernel_rfl) (by decide) (fun K hK => ?_)
  refine goes_ Tryz.func48 (by kernel_rfl) rfl #[] (by rfl) rfl rfl (by simp only [List.map_toArray, List.map_nil]) ?_
  refine (parts_c _).mono ?_
  rintro e w2 ⟨b, rfl, hm, hb⟩
  refine ⟨_, rfl, ?_⟩
  have HM := Aside0.mk hm
  clear hm
  refine hK.out _ _ ⟨((hb.block _ (blk_lt hHeld.1)).trans hHeld.1), (pw_cell_below hb hHeld.2.1), (below_step hHeld.2.2 hb)⟩ (fun hHeld => ?_)
  clear hK K
  refine norm_ (a' := ?_) ?_ ?_
  rotate_left
  · show Act.put _ (some 8) _ = _
    simp only [Act.put, List.setIfInBounds_toArray, List.set_cons_zero, List.set_cons_succ, i64_w, i32_w]
    rfl
  refine one_ (i := 3) (N := some 11) (zm 9 15) rfl rfl (by kernel_rfl) (by decide) (fun K hK => ?_)
  refine value_ (w1 := _) (v := .tuple #[.iface T (.agg #[]), .bool true]) (by rfl) rfl (zLk_ rfl rfl rfl (by have h := parts_look HM.out x.f0 true; rw [HP.out] at h; exact h)) ?_
  refine hK.out _ _ ⟨hHeld.1, hHeld.2.1, hHeld.2.2⟩ (fun hHeld => ?_)
  clear hK K
  refine norm_ (a' := ?_) ?_ ?_
  rotate_left
  · show Act.put _ (some 11) _ = _
    simp only [Act.put, List.setIfInBounds_toArray, List.set_cons_zero, List.set_cons_succ, i64_w, i32_w]
    rfl
  refine zpk 4 7 9 31 ?_
  refine zpk 5 12 9 63 ?_
  refine zpk 6 13 9 127 ?_
  refine zpk 7 3 9 255 ?_
  refine zpk 8 4 9 511 ?_
  refine done_ (by kernel_rfl) ?_
  skip
  have X2 := Aside0.mk hHeld.1
  have B2 := Aside0.mk hHeld.2.2
  clear hHeld HM X1 B1
  go_wp2
  refine start_ (n := 10) (S := fun w' => w'.heap[g]? = some (.cells cs.toArray 39 (0, 0)) ∧ w'.cell? ⟨g, 18, none⟩ = some (.slice A18 x.f9.length c18) ∧ Below w.heap.size w w') (ds := []) (zm 10 0) (by kernel_rfl) rfl rfl ⟨X2.out, (cell_of_range X2.out E18.out), (below_drew B2.out)⟩ (fun hHeld => ?_)
  refine zpk 0 14 10 1 ?_
  refine zpk 1 15 10 3 ?_
  refine zpk 2 16 10 7 ?_
  refine zpk 3 17 10 15 ?_
  refine zpk 6 20 10 79 ?_
  refine ztk 4 18 10 95 ?_
  refine zpk 5 19 10 127 ?_
  refine one_ (i := 7) (N := some 21) (zm 10 255) rfl rfl (by kernel_rfl) (by decide) (fun K hK => ?_)
  refine zInv_ (by rfl) rfl rfl rfl (M := 246) (by kernel_rfl) (hmk _) hck (args := #[]) (by simp only [List.map_toArray, List.map_nil]) ?_
  refine calls_of_args (by rfl) ((KK.out _).mono ?_)
  rintro e w3 ⟨rfl, hb⟩
  refine ⟨_, rfl, ?_⟩
  refine hK.out _ _ ⟨((hb.block _ (blk_lt hHeld.1)).trans hHeld.1), (pw_cell_below hb hHeld.2.1), (below_step hHeld.2.2 hb)⟩ (fun hHeld => ?_)
  clear hK K
  refine norm_ (a' := ?_) ?_ ?_
  rotate_left
  · show Act.put _ (some 21) _ = _
    simp only [Act.put, List.setIfInBounds_toArray, List.set_cons_zero, List.set_cons_succ, i64_w, i32_w]
    rfl
  refine zpk 8 22 10 511 ?_
  refine zpk 9 23 10 1023 ?_
  refine done_ (by kernel_rfl) ?_
  skip
  have X3 := Aside0.mk hHeld.1
  have B3 := Aside0.mk hHeld.2.2
  clear hHeld X2 B2
  by_cases hl : x.f9.length = n
  rotate_left
  · have NO := Aside0.mk (shB_no (onl := onl) hl)
    have q1 : ((x.f9.length : Int) != (n : Int)) = true := by simp; omega
    clear hl
    go_wp2
    go_ret
    exact ⟨by rw [NO.out]; rfl, B3.out⟩
  have YY := Aside0.mk (shB_yes (onl := onl) hl)
  have q1 : ((x.f9.length : Int) != (n : Int)) = false := by simp; omega
  clear hl
  go_wp2
  clear q1
  refine start_ (n := 8) (S := fun w' => w'.heap[g]? = some (.cells cs.toArray 39 (0, 0)) ∧ Below w.heap.size w w') (ds := []) (zm 8 0) (by kernel_rfl) rfl rfl ⟨X3.out, (below_drew B3.out)⟩ (fun hHeld => ?_)
  refine zpk 1 25 8 2 ?_
  refine take_ (i := 0) (N := some 24) (v := _) (a' := ?_) (zm 8 3) rfl rfl (by kernel_rfl) (fun _ _ _ h => h) (yieldsIf_load_mid (by rfl) 39 (.tmp 1) rfl g 0 rfl cs _ (fun W h => range_ h.1) Tryz.underlying39 rfl (by rw [LC.out]; kernel_rfl)) hHeld ?_ ?_
  rotate_left
  · simp only [Act.put, List.setIfInBounds_toArray, List.set_cons_zero, List.set_cons_succ, i64_w, i32_w]
    rfl
  refine take_ (i := 2) (N := some 26) (v := _) (a' := ?_) (zm 8 7) rfl rfl (by kernel_rfl) (fun _ _ _ h => h) (yieldsIf_load_mid (by rfl) 39 (.tmp 1) rfl g 0 rfl cs _ (fun W h => range_ h.1) Tryz.underlying39 rfl (by rw [LC.out]; kernel_rfl)) hHeld ?_ ?_
  rotate_left
  · simp only [Act.put, List.setIfInBounds_toArray, List.set_cons_zero, List.set_cons_succ, i64_w, i32_w]
    rfl
  refine join_ (σ := List Value × Nat × Nat) 2 (zm 8 63) (fun s => [(27, .agg s.1.toArray), (5, .pointer (some ⟨s.2.1, 0, none⟩)), (6, .pointer (some ⟨s.2.2, 0, none⟩))]) (fun s w' => (w'.heap[g]? = some (.cells cs.toArray 39 (0, 0)) ∧ Below w.heap.size w w') ∧ k39.K w (onl x) s.1 ∧ w'.heap[s.2.1]? = some (.cells zero39.toArray 39 (0, 0)) ∧ w'.heap[s.2.2]? = some (.cells zero39.toArray 39 (0, 0)) ∧ s.2.1 ≠ s.2.2 ∧ (w.heap.size ≤ s.2.1 ∧ g ≠ s.2.1) ∧ (w.heap.size ≤ s.2.2 ∧ g ≠ s.2.2)) ?_ ?_
  rotate_left
  · intro hCont
    refine three_ (i := 3) (j := 4) (k := 5) (Ni := some 27) (Nj := some 5) (Nk := some 6) (zm 8 15) (zm 8 23) (zm 8 39) rfl rfl rfl rfl rfl rfl (by kernel_rfl) (by decide) (by decide) (by decide) (fun K hK => ?_) (fun K hK => ?_) (fun K hK => ?_)
    · skip
      refine zInv_ (by rfl) rfl rfl rfl (M := 246) (by kernel_rfl) (hmo _) hco (args := #[.agg cs.toArray]) (by simp only [List.map_toArray, List.map_cons, List.map_nil]; rfl) ?_
      refine calls_of_args (by rfl) ((KO.out x cs w _ HK.out).mono ?_)
      rintro e w4 ⟨cs', rfl, hk, hb⟩
      refine ⟨_, rfl, ?_⟩
      have ZK := Aside0.mk hk
      clear hk
      refine hK.out _ _ ⟨((hb.block _ (blk_lt hHeld.1)).trans hHeld.1), (below_step hHeld.2 hb)⟩ (fun hHeld => ?_)
      clear hK K
      refine norm_ (a' := ?_) ?_ ?_
      rotate_left
      · show Act.put _ (some 27) _ = _
        simp only [Act.put, List.setIfInBounds_toArray, List.set_cons_zero, List.set_cons_succ, i64_w, i32_w]
        rfl
      refine two_ (i := 4) (j := 5) (Ni := some 5) (Nj := some 6) (zm 8 31) (zm 8 47) rfl rfl rfl rfl (by kernel_rfl) (by decide) (by decide) (fun K hK => ?_) (fun K hK => ?_)
      · skip
        refine zAl_ (by rfl) rfl 39 rfl zero39 _ _ info39 (fun g5 hg w4 hz hb => ?_)
        have Z5 := Aside0.mk hz
        have ZG5 := Aside0.mk (show w.heap.size ≤ g5 ∧ g ≠ g5 by have := hHeld.2.size; have := blk_lt hHeld.1; omega)
        clear hz hg
        refine hK.out _ _ ⟨((hb.block _ (blk_lt hHeld.1)).trans hHeld.1), (below_step hHeld.2 hb)⟩ (fun hHeld => ?_)
        clear hK K
        refine norm_ (a' := ?_) ?_ ?_
        rotate_left
        · show Act.put _ (some 5) _ = _
          simp only [Act.put, List.setIfInBounds_toArray, List.set_cons_zero, List.set_cons_succ, i64_w, i32_w]
          rfl
        refine one_ (i := 5) (N := some 6) (zm 8 63) rfl rfl (by kernel_rfl) (by decide) (fun K hK => ?_)
        refine zAl_ (by rfl) rfl 39 rfl zero39 _ _ info39 (fun g6 hg w4 hz hb => ?_)
        have ZN := Aside0.mk (show g5 ≠ g6 by have := blk_lt Z5.out; omega)
        have Z5 := Aside0.mk ((hb.block _ (blk_lt Z5.out)).trans Z5.out)
        have Z6 := Aside0.mk hz
        have ZG6 := Aside0.mk (show w.heap.size ≤ g6 ∧ g ≠ g6 by have := hHeld.2.size; have := blk_lt hHeld.1; omega)
        clear hz hg
        refine hK.out _ _ ⟨((hb.block _ (blk_lt hHeld.1)).trans hHeld.1), (below_step hHeld.2 hb)⟩ (fun hHeld => ?_)
        clear hK K
        refine norm_ (a' := ?_) ?_ ?_
        rotate_left
        · show Act.put _ (some 6) _ = _
          simp only [Act.put, List.setIfInBounds_toArray, List.set_cons_zero, List.set_cons_succ, i64_w, i32_w]
          rfl
        exact norm_ (by first | (simp only [putAll, Act.put, List.setIfInBounds_toArray, List.set_cons_zero, List.set_cons_succ]; done) | (simp only [putAll, Act.put, List.setIfInBounds_toArray, List.set_cons_zero, List.set_cons_succ]; rfl)) (hCont (cs', g5, g6) _ ⟨hHeld, ZK.out, Z5.out, Z6.out, ZN.out, ZG5.out, ZG6.out⟩)
      · skip
        refine zAl_ (by rfl) rfl 39 rfl zero39 _ _ info39 (fun g6 hg w4 hz hb => ?_)
        have Z6 := Aside0.mk hz
        have ZG6 := Aside0.mk (show w.heap.size ≤ g6 ∧ g ≠ g6 by have := hHeld.2.size; have := blk_lt hHeld.1; omega)
        clear hz hg
        refine hK.out _ _ ⟨((hb.block _ (blk_lt hHeld.1)).trans hHeld.1), (below_step hHeld.2 hb)⟩ (fun hHeld => ?_)
        clear hK K
        refine norm_ (a' := ?_) ?_ ?_
        rotate_left
        · show Act.put _ (some 6) _ = _
          simp only [Act.put, List.setIfInBounds_toArray, List.set_cons_zero, List.set_cons_succ, i64_w, i32_w]
          rfl
        refine one_ (i := 4) (N := some 5) (zm 8 63) rfl rfl (by kernel_rfl) (by decide) (fun K hK => ?_)
        refine zAl_ (by rfl) rfl 39 rfl zero39 _ _ info39 (fun g5 hg w4 hz hb => ?_)
        have ZN := Aside0.mk (show g5 ≠ g6 by have := blk_lt Z6.out; omega)
        have Z6 := Aside0.mk ((hb.block _ (blk_lt Z6.out)).trans Z6.out)
        have Z5 := Aside0.mk hz
        have ZG5 := Aside0.mk (show w.heap.size ≤ g5 ∧ g ≠ g5 by have := hHeld.2.size; have := blk_lt hHeld.1; omega)
        clear hz hg
        refine hK.out _ _ ⟨((hb.block _ (blk_lt hHeld.1)).trans hHeld.1), (below_step hHeld.2 hb)⟩ (fun hHeld => ?_)
        clear hK K
        refine norm_ (a' := ?_) ?_ ?_
        rotate_left
        · show Act.put _ (some 5) _ = _
          simp only [Act.put, List.setIfInBounds_toArray, List.set_cons_zero, List.set_cons_succ, i64_w, i32_w]
          rfl
        exact norm_ (by first | (simp only [putAll, Act.put, List.setIfInBounds_toArray, List.set_cons_zero, List.set_cons_succ]; done) | (simp only [putAll, Act.put, List.setIfInBounds_toArray, List.set_cons_zero, List.set_cons_succ]; rfl)) (hCont (cs', g5, g6) _ ⟨hHeld, ZK.out, Z5.out, Z6.out, ZN.out, ZG5.out, ZG6.out⟩)
    · skip
      refine zAl_ (by rfl) rfl 39 rfl zero39 _ _ info39 (fun g5 hg w4 hz hb => ?_)
      have Z5 := Aside0.mk hz
      have ZG5 := Aside0.mk (show w.heap.size ≤ g5 ∧ g ≠ g5 by have := hHeld.2.size; have := blk_lt hHeld.1; omega)
      clear hz hg
      refine hK.out _ _ ⟨((hb.block _ (blk_lt hHeld.1)).trans hHeld.1), (below_step hHeld.2 hb)⟩ (fun hHeld => ?_)
      clear hK K
      refine norm_ (a' := ?_) ?_ ?_
      rotate_left
      · show Act.put _ (some 5) _ = _
        simp only [Act.put, List.setIfInBounds_toArray, List.set_cons_zero, List.set_cons_succ, i64_w, i32_w]
        rfl
      refine two_ (i := 3) (j := 5) (Ni := some 27) (Nj := some 6) (zm 8 31) (zm 8 55) rfl rfl rfl rfl (by kernel_rfl) (by decide) (by decide) (fun K hK => ?_) (fun K hK => ?_)
      · skip
        refine zInv_ (by rfl) rfl rfl rfl (M := 246) (by kernel_rfl) (hmo _) hco (args := #[.agg cs.toArray]) (by simp only [List.map_toArray, List.map_cons, List.map_nil]; rfl) ?_
        refine calls_of_args (by rfl) ((KO.out x cs w _ HK.out).mono ?_)
        rintro e w4 ⟨cs', rfl, hk, hb⟩
        refine ⟨_, rfl, ?_⟩
        have Z5 := Aside0.mk ((hb.block _ (blk_lt Z5.out)).trans Z5.out)
        have ZK := Aside0.mk hk
        clear hk
        refine hK.out _ _ ⟨((hb.block _ (blk_lt hHeld.1)).trans hHeld.1), (below_step hHeld.2 hb)⟩ (fun hHeld => ?_)
        clear hK K
        refine norm_ (a' := ?_) ?_ ?_
        rotate_left
        · show Act.put _ (some 27) _ = _
          simp only [Act.put, List.setIfInBounds_toArray, List.set_cons_zero, List.set_cons_succ, i64_w, i32_w]
          rfl
        refine one_ (i := 5) (N := some 6) (zm 8 63) rfl rfl (by kernel_rfl) (by decide) (fun K hK => ?_)
        refine zAl_ (by rfl) rfl 39 rfl zero39 _ _ info39 (fun g6 hg w4 hz hb => ?_)
        have ZN := Aside0.mk (show g5 ≠ g6 by have := blk_lt Z5.out; omega)
        have Z5 := Aside0.mk ((hb.block _ (blk_lt Z5.out)).trans Z5.out)
        have Z6 := Aside0.mk hz
        have ZG6 := Aside0.mk (show w.heap.size ≤ g6 ∧ g ≠ g6 by have := hHeld.2.size; have := blk_lt hHeld.1; omega)
        clear hz hg
        refine hK.out _ _ ⟨((hb.block _ (blk_lt hHeld.1)).trans hHeld.1), (below_step hHeld.2 hb)⟩ (fun hHeld => ?_)
        clear hK K
        refine norm_ (a' := ?_) ?_ ?_
        rotate_left
        · show Act.put _ (some 6) _ = _
          simp only [Act.put, List.setIfInBounds_toArray, List.set_cons_zero, List.set_cons_succ, i64_w, i32_w]
          rfl
        exact norm_ (by first | (simp only [putAll, Act.put, List.setIfInBounds_toArray, List.set_cons_zero, List.set_cons_succ]; done) | (simp only [putAll, Act.put, List.setIfInBounds_toArray, List.set_cons_zero, List.set_cons_succ]; rfl)) (hCont (cs', g5, g6) _ ⟨hHeld, ZK.out, Z5.out, Z6.out, ZN.out, ZG5.out, ZG6.out⟩)
      · skip
        refine zAl_ (by rfl) rfl 39 rfl zero39 _ _ info39 (fun g6 hg w4 hz hb => ?_)
        have ZN := Aside0.mk (show g5 ≠ g6 by have := blk_lt Z5.out; omega)
        have Z5 := Aside0.mk ((hb.block _ (blk_lt Z5.out)).trans Z5.out)
        have Z6 := Aside0.mk hz
        have ZG6 := Aside0.mk (show w.heap.size ≤ g6 ∧ g ≠ g6 by have := hHeld.2.size; have := blk_lt hHeld.1; omega)
        clear hz hg
        refine hK.out _ _ ⟨((hb.block _ (blk_lt hHeld.1)).trans hHeld.1), (below_step hHeld.2 hb)⟩ (fun hHeld => ?_)
        clear hK K
        refine norm_ (a' := ?_) ?_ ?_
        rotate_left
        · show Act.put _ (some 6) _ = _
          simp only [Act.put, List.setIfInBounds_toArray, List.set_cons_zero, List.set_cons_succ, i64_w, i32_w]
          rfl
        refine one_ (i := 3) (N := some 27) (zm 8 63) rfl rfl (by kernel_rfl) (by decide) (fun K hK => ?_)
        refine zInv_ (by rfl) rfl rfl rfl (M := 246) (by kernel_rfl) (hmo _) hco (args := #[.agg cs.toArray]) (by simp only [List.map_toArray, List.map_cons, List.map_nil]; rfl) ?_
        refine calls_of_args (by rfl) ((KO.out x cs w _ HK.out).mono ?_)
        rintro e w4 ⟨cs', rfl, hk, hb⟩
        refine ⟨_, rfl, ?_⟩
        have Z5 := Aside0.mk ((hb.block _ (blk_lt Z5.out)).trans Z5.out)
        have Z6 := Aside0.mk ((hb.block _ (blk_lt Z6.out)).trans Z6.out)
        have ZK := Aside0.mk hk
        clear hk
        refine hK.out _ _ ⟨((hb.block _ (blk_lt hHeld.1)).trans hHeld.1), (below_step hHeld.2 hb)⟩ (fun hHeld => ?_)
        clear hK K
        refine norm_ (a' := ?_) ?_ ?_
        rotate_left
        · show Act.put _ (some 27) _ = _
          simp only [Act.put, List.setIfInBounds_toArray, List.set_cons_zero, List.set_cons_succ, i64_w, i32_w]
          rfl
        exact norm_ (by first | (simp only [putAll, Act.put, List.setIfInBounds_toArray, List.set_cons_zero, List.set_cons_succ]; done) | (simp only [putAll, Act.put, List.setIfInBounds_toArray, List.set_cons_zero, List.set_cons_succ]; rfl)) (hCont (cs', g5, g6) _ ⟨hHeld, ZK.out, Z5.out, Z6.out, ZN.out, ZG5.out, ZG6.out⟩)
    · skip
      refine zAl_ (by rfl) rfl 39 rfl zero39 _ _ info39 (fun g6 hg w4 hz hb => ?_)
      have Z6 := Aside0.mk hz
      have ZG6 := Aside0.mk (show w.heap.size ≤ g6 ∧ g ≠ g6 by have := hHeld.2.size; have := blk_lt hHeld.1; omega)
      clear hz hg
      refine hK.out _ _ ⟨((hb.block _ (blk_lt hHeld.1)).trans hHeld.1), (below_step hHeld.2 hb)⟩ (fun hHeld => ?_)
      clear hK K
      refine norm_ (a' := ?_) ?_ ?_
      rotate_left
      · show Act.put _ (some 6) _ = _
        simp only [Act.put, List.setIfInBounds_toArray, List.set_cons_zero, List.set_cons_succ, i64_w, i32_w]
        rfl
      refine two_ (i := 3) (j := 4) (Ni := some 27) (Nj := some 5) (zm 8 47) (zm 8 55) rfl rfl rfl rfl (by kernel_rfl) (by decide) (by decide) (fun K hK => ?_) (fun K hK => ?_)
      · skip
        refine zInv_ (by rfl) rfl rfl rfl (M := 246) (by kernel_rfl) (hmo _) hco (args := #[.agg cs.toArray]) (by simp only [List.map_toArray, List.map_cons, List.map_nil]; rfl) ?_
        refine calls_of_args (by rfl) ((KO.out x cs w _ HK.out).mono ?_)
        rintro e w4 ⟨cs', rfl, hk, hb⟩
        refine ⟨_, rfl, ?_⟩
        have Z6 := Aside0.mk ((hb.block _ (blk_lt Z6.out)).trans Z6.out)
        have ZK := Aside0.mk hk
        clear hk
        refine hK.out _ _ ⟨((hb.block _ (blk_lt hHeld.1)).trans hHeld.1), (below_step hHeld.2 hb)⟩ (fun hHeld => ?_)
        clear hK K
        refine norm_ (a' := ?_) ?_ ?_
        rotate_left
        · show Act.put _ (some 27) _ = _
          simp only [Act.put, List.setIfInBounds_toArray, List.set_cons_zero, List.set_cons_succ, i64_w, i32_w]
          rfl
        refine one_ (i := 4) (N := some 5) (zm 8 63) rfl rfl (by kernel_rfl) (by decide) (fun K hK => ?_)
        refine zAl_ (by rfl) rfl 39 rfl zero39 _ _ info39 (fun g5 hg w4 hz hb => ?_)
        have ZN := Aside0.mk (show g5 ≠ g6 by have := blk_lt Z6.out; omega)
        have Z6 := Aside0.mk ((hb.block _ (blk_lt Z6.out)).trans Z6.out)
        have Z5 := Aside0.mk hz
        have ZG5 := Aside0.mk (show w.heap.size ≤ g5 ∧ g ≠ g5 by have := hHeld.2.size; have := blk_lt hHeld.1; omega)
        clear hz hg
        refine hK.out _ _ ⟨((hb.block _ (blk_lt hHeld.1)).trans hHeld.1), (below_step hHeld.2 hb)⟩ (fun hHeld => ?_)
        clear hK K
        refine norm_ (a' := ?_) ?_ ?_
        rotate_left
        · show Act.put _ (some 5) _ = _
          simp only [Act.put, List.setIfInBounds_toArray, List.set_cons_zero, List.set_cons_succ, i64_w, i32_w]
          rfl
        exact norm_ (by first | (simp only [putAll, Act.put, List.setIfInBounds_toArray, List.set_cons_zero, List.set_cons_succ]; done) | (simp only [putAll, Act.put, List.setIfInBounds_toArray, List.set_cons_zero, List.set_cons_succ]; rfl)) (hCont (cs', g5, g6) _ ⟨hHeld, ZK.out, Z5.out, Z6.out, ZN.out, ZG5.out, ZG6.out⟩)
      · skip
        refine zAl_ (by rfl) rfl 39 rfl zero39 _ _ info39 (fun g5 hg w4 hz hb => ?_)
        have ZN := Aside0.mk (show g5 ≠ g6 by have := blk_lt Z6.out; omega)
        have Z6 := Aside0.mk ((hb.block _ (blk_lt Z6.out)).trans Z6.out)
        have Z5 := Aside0.mk hz
        have ZG5 := Aside0.mk (show w.heap.size ≤ g5 ∧ g ≠ g5 by have := hHeld.2.size; have := blk_lt hHeld.1; omega)
        clear hz hg
        refine hK.out _ _ ⟨((hb.block _ (blk_lt hHeld.1)).trans hHeld.1), (below_step hHeld.2 hb)⟩ (fun hHeld => ?_)
        clear hK K
        refine norm_ (a' := ?_) ?_ ?_
        rotate_left
        · show Act.put _ (some 5) _ = _
          simp only [Act.put, List.setIfInBounds_toArray, List.set_cons_zero, List.set_cons_succ, i64_w, i32_w]
          rfl
        refine one_ (i := 3) (N := some 27) (zm 8 63) rfl rfl (by kernel_rfl) (by decide) (fun K hK => ?_)
        refine zInv_ (by rfl) rfl rfl rfl (M := 246) (by kernel_rfl) (hmo _) hco (args := #[.agg cs.toArray]) (by simp only [List.map_toArray, List.map_cons, List.map_nil]; rfl) ?_
        refine calls_of_args (by rfl) ((KO.out x cs w _ HK.out).mono ?_)
        rintro e w4 ⟨cs', rfl, hk, hb⟩
        refine ⟨_, rfl, ?_⟩
        have Z5 := Aside0.mk ((hb.block _ (blk_lt Z5.out)).trans Z5.out)
        have Z6 := Aside0.mk ((hb.block _ (blk_lt Z6.out)).trans Z6.out)
        have ZK := Aside0.mk hk
        clear hk
        refine hK.out _ _ ⟨((hb.block _ (blk_lt hHeld.1)).trans hHeld.1), (below_step hHeld.2 hb)⟩ (fun hHeld => ?_)
        clear hK K
        refine norm_ (a' := ?_) ?_ ?_
        rotate_left
        · show Act.put _ (some 27) _ = _
          simp only [Act.put, List.setIfInBounds_toArray, List.set_cons_zero, List.set_cons_succ, i64_w, i32_w]
          rfl
        exact norm_ (by first | (simp only [putAll, Act.put, List.setIfInBounds_toArray, List.set_cons_zero, List.set_cons_succ]; done) | (simp only [putAll, Act.put, List.setIfInBounds_toArray, List.set_cons_zero, List.set_cons_succ]; rfl)) (hCont (cs', g5, g6) _ ⟨hHeld, ZK.out, Z5.out, Z6.out, ZN.out, ZG5.out, ZG6.out⟩)
  rintro ⟨cs', g5, g6⟩ w5 ⟨hHeld, hk, h5, h6, hne, hg5, hg6⟩
  have ZK := Aside0.mk (show k39.K w (onl x) cs' from hk)
  have Z5 := Aside0.mk (show w5.heap[g5]? = some (.cells zero39.toArray 39 (0, 0)) from h5)
  have Z6 := Aside0.mk (show w5.heap[g6]? = some (.cells zero39.toArray 39 (0, 0)) from h6)
  have ZN := Aside0.mk (show g5 ≠ g6 from hne)
  have ZG5 := Aside0.mk (show w.heap.size ≤ g5 ∧ g ≠ g5 from hg5)
  have ZG6 := Aside0.mk (show w.heap.size ≤ g6 ∧ g ≠ g6 from hg6)
  clear hk h5 h6 hne hg5 hg6
  refine norm_ (a' := ?_) ?_ ?_
  rotate_left
  · simp only [putAll, Act.put, List.setIfInBounds_toArray, List.set_cons_zero, List.set_cons_succ]
    rfl
  refine one_ (i := 6) (N := none) (zm 8 127) rfl rfl (by kernel_rfl) (by decide) (fun K hK => ?_)
  have LK := Aside0.mk (show cs'.length = 19 from k39.K_len ZK.out)
  have OK := Aside0.mk (show ∀ q ∈ cs', q.oneCell' = true from k39.K_one ZK.out)
  obtain ⟨w6, hrun, hh, hgr⟩ := storeRun (P := Tryz.prog) 39 Z5.out (seg := cs) (by rw [LC.out]; rfl) OC.out (by rw [LC.out]; kernel_rfl)
  refine skip_ (w1 := w6) (by rfl) rfl ?_ ?_
  · exact zSt_ (t := 39) (p := .tmp 5) (x := .tmp 24) rfl rfl rfl hrun
  have Z6 := Aside0.mk ((hgr.block _ (blk_lt Z6.out) (by intro e; injection e with e; exact ZN.out e.symm)).trans Z6.out)
  have Y5 := Aside0.mk hh
  clear hrun hh Z5
  refine hK.out _ _ ⟨((hgr.block _ (blk_lt hHeld.1) (by intro e; injection e with e; exact ZG5.out.2 e)).trans hHeld.1), (hHeld.2.grown hgr hHeld.2.size (fun k e => by cases e; exact ZG5.out.1))⟩ (fun hHeld => ?_)
  clear hK K
  refine one_ (i := 7) (N := none) (zm 8 255) rfl rfl (by kernel_rfl) (by decide) (fun K hK => ?_)
  obtain ⟨w7, hrun, hh, hgr⟩ := storeRun (P := Tryz.prog) 39 Z6.out (seg := cs') (by rw [LK.out]; rfl) OK.out (by rw [LK.out]; kernel_rfl)
  refine skip_ (w1 := w7) (by rfl) rfl ?_ ?_
  · exact zSt_ (t := 39) (p := .tmp 6) (x := .tmp 27) rfl rfl rfl hrun
  have Y5 := Aside0.mk ((hgr.block _ (blk_lt Y5.out) (by intro e; injection e with e; exact ZN.out e)).trans Y5.out)
  have Y6 := Aside0.mk hh
  clear hrun hh Z6
  refine hK.out _ _ ⟨((hgr.block _ (blk_lt hHeld.1) (by intro e; injection e with e; exact ZG6.out.2 e)).trans hHeld.1), (hHeld.2.grown hgr hHeld.2.size (fun k e => by cases e; exact ZG6.out.1))⟩ (fun hHeld => ?_)
  clear hK K
  refine done_ (by kernel_rfl) ?_
  have B7 := Aside0.mk hHeld.2
  have PS := Aside0.mk (fun (W : World) (hb : Below w.heap.size w W) => implPlanSame_c (noKids x) (noKids (onl x)) (cs.take 18 ++ Value.slice none 0 0 :: cs.drop 19).toArray (cs'.take 18 ++ Value.slice none 0 0 :: cs'.drop 19).toArray W (show k39.K W (noKids x) (cs.take 18 ++ Value.slice none 0 0 :: cs.drop 19).toArray.toList from k39.K_below hb (noKids_K HK.out)) (show k39.K W (noKids (onl x)) (cs'.take 18 ++ Value.slice none 0 0 :: cs'.drop 19).toArray.toList from k39.K_below hb (noKids_K ZK.out)) (noKids_small SM.out))
  clear hHeld
  go_wp2_with (first
    | ((with_reducible refine gate_ (.store 37 (.tmp 28) (.const (.slice none 0 0))) rfl ?_); refine store_ 37 (.tmp 28) (.const (.slice none 0 0)) rfl rfl rfl g5 18 ?hp (.slice none 0 0) rfl [.slice none 0 0] rfl ?ht (one_all _ rfl) cs _ Y5.out (by rw [LC.out]; decide) ?_; (case hp => first | rfl | (go_simp; done) | (go_simp; rfl)); (case ht => kernel_rfl); intro w8 hb hg; rw [List.append_assoc] at hb; have B8 := Aside0.mk (B7.out.grown hg B7.out.size (fun k e => by cases e; exact ZG5.out.1)); have V5 := Aside0.mk (show w8.heap[g5]? = some (.cells (cs.take 18 ++ Value.slice none 0 0 :: cs.drop 19).toArray 39 (0, 0)) from hb); have V6 := Aside0.mk ((hg.block _ (blk_lt Y6.out) (by intro e; injection e with e; exact ZN.out e.symm)).trans Y6.out); clear hb hg Y5 Y6 B7)
    | ((with_reducible refine gate_ (.store 37 (.tmp 29) (.const (.slice none 0 0))) rfl ?_); refine store_ 37 (.tmp 29) (.const (.slice none 0 0)) rfl rfl rfl g6 18 ?hp (.slice none 0 0) rfl [.slice none 0 0] rfl ?ht (one_all _ rfl) cs' _ V6.out (by rw [LK.out]; decide) ?_; (case hp => first | rfl | (go_simp; done) | (go_simp; rfl)); (case ht => kernel_rfl); intro w9 hb hg; rw [List.append_assoc] at hb; have B9 := Aside0.mk (B8.out.grown hg B8.out.size (fun k e => by cases e; exact ZG6.out.1)); have U5 := Aside0.mk ((hg.block _ (blk_lt V5.out) (by intro e; injection e with e; exact ZN.out e)).trans V5.out); have U6 := Aside0.mk (show w9.heap[g6]? = some (.cells (cs'.take 18 ++ Value.slice none 0 0 :: cs'.drop 19).toArray 39 (0, 0)) from hb); clear hb hg V5 V6 B8)
    | ((with_reducible refine gate_dst (N := 30) rfl ?_); refine loadVar_ 39 (.tmp 5) rfl rfl g5 ?hx (cs.take 18 ++ Value.slice none 0 0 :: cs.drop 19) _ Tryz.underlying39 ?hi _ U5.out ?_; (case hx => first | rfl | (go_simp; done) | (go_simp; rfl)); (case hi => rw [cut_len LC.out]; kernel_rfl))
    | ((with_reducible refine gate_dst (N := 31) rfl ?_); refine loadVar_ 39 (.tmp 6) rfl rfl g6 ?hx (cs'.take 18 ++ Value.slice none 0 0 :: cs'.drop 19) _ Tryz.underlying39 ?hi _ U6.out ?_; (case hx => first | rfl | (go_simp; done) | (go_simp; rfl)); (case hi => rw [cut_len LK.out]; kernel_rfl))
    | (go_at_call 58; refine (PS.out _ B9.out).mono ?_; rintro e w10 ⟨rfl, hb⟩; have B10 := Aside0.mk (below_step B9.out hb); clear hb))
  go_ret
  exact ⟨by rw [YY.out]; rfl, B10.out⟩
end Pl
namespace Pl
theorem tableKids_c (w : World) : Calls Tryz.prog 85 #[.agg #[]] w fun e w' => e = .returned (.int .i64 (0 : Nat)) ∧ Below w.heap.size w w' := by
  go_enter Tryz.func85, Tryz.ntmps85
  go_wp2_with ((with_reducible refine gate_dst (N := 1) rfl ?_); refine box_ 92 (.tmp 0) rfl rfl #[] rfl ?_; intro g hg w1 hb hB; have B1 := Aside0.mk hB; clear hg hb hB)
  go_ret
  exact ⟨rfl, B1.out⟩
theorem whereKids_c (w : World) : Calls Tryz.prog 90 #[.agg #[]] w fun e w' => e = .returned (.int .i64 (1 : Nat)) ∧ Below w.heap.size w w' := by
  go_enter Tryz.func90, Tryz.ntmps90
  go_wp2_with ((with_reducible refine gate_dst (N := 1) rfl ?_); refine box_ 93 (.tmp 0) rfl rfl #[] rfl ?_; intro g hg w1 hb hB; have B1 := Aside0.mk hB; clear hg hb hB)
  go_ret
  exact ⟨rfl, B1.out⟩
theorem mapKids_c (w : World) : Calls Tryz.prog 98 #[.agg #[]] w fun e w' => e = .returned (.int .i64 (1 : Nat)) ∧ Below w.heap.size w w' := by
  go_enter Tryz.func98, Tryz.ntmps98
  go_wp2_with ((with_reducible refine gate_dst (N := 1) rfl ?_); refine box_ 94 (.tmp 0) rfl rfl #[] rfl ?_; intro g hg w1 hb hB; have B1 := Aside0.mk hB; clear hg hb hB)
  go_ret
  exact ⟨rfl, B1.out⟩
theorem joinKids_c (w : World) : Calls Tryz.prog 106 #[.agg #[]] w fun e w' => e = .returned (.int .i64 (2 : Nat)) ∧ Below w.heap.size w w' := by
  go_enter Tryz.func106, Tryz.ntmps106
  go_wp2_with ((with_reducible refine gate_dst (N := 1) rfl ?_); refine box_ 95 (.tmp 0) rfl rfl #[] rfl ?_; intro g hg w1 hb hB; have B1 := Aside0.mk hB; clear hg hb hB)
  go_ret
  exact ⟨rfl, B1.out⟩
theorem bothKids_c (w : World) : Calls Tryz.prog 112 #[.agg #[]] w fun e w' => e = .returned (.int .i64 (2 : Nat)) ∧ Below w.heap.size w w' := by
  go_enter Tryz.func112, Tryz.ntmps112
  go_wp2_with ((with_reducible refine gate_dst (N := 1) rfl ?_); refine box_ 96 (.tmp 0) rfl rfl #[] rfl ?_; intro g hg w1 hb hB; have B1 := Aside0.mk hB; clear hg hb hB)
  go_ret
  exact ⟨rfl, B1.out⟩
theorem onceKids_c (w : World) : Calls Tryz.prog 117 #[.agg #[]] w fun e w' => e = .returned (.int .i64 (1 : Nat)) ∧ Below w.heap.size w w' := by
  go_enter Tryz.func117, Tryz.ntmps117
  go_wp2_with ((with_reducible refine gate_dst (N := 1) rfl ?_); refine box_ 97 (.tmp 0) rfl rfl #[] rfl ?_; intro g hg w1 hb hB; have B1 := Aside0.mk hB; clear hg hb hB)
  go_ret
  exact ⟨rfl, B1.out⟩
theorem groupKids_c (w : World) : Calls Tryz.prog 122 #[.agg #[]] w fun e w' => e = .returned (.int .i64 (1 : Nat)) ∧ Below w.heap.size w w' := by
  go_enter Tryz.func122, Tryz.ntmps122
  go_wp2_with ((with_reducible refine gate_dst (N := 1) rfl ?_); refine box_ 98 (.tmp 0) rfl rfl #[] rfl ?_; intro g hg w1 hb hB; have B1 := Aside0.mk hB; clear hg hb hB)
  go_ret
  exact ⟨rfl, B1.out⟩
/-- shaped -/
noncomputable def shapedB (x : S39) : Bool :=
  if x.f0 = 1 then shB x 0 tableOnly else if x.f0 = 2 then shB x 1 whereOnly else if x.f0 = 3 then shB x 1 mapOnly else if x.f0 = 4 then shB x 2 joinOnly else if x.f0 = 5 then shB x 2 bothOnly else if x.f0 = 6 then shB x 1 onceOnly else if x.f0 = 7 then shB x 1 groupOnly else false
set_option maxHeartbeats 8000000 in
set_option maxRecDepth 100000 in
theorem shaped_none (x : S39) (hp : partV x.f0 = none) (cs : List Value) (w : World) (hK : k39.K w x cs) :
    Calls Tryz.prog 47 #[.agg cs.toArray] w fun e w' => e = .returned (.bool false) ∧ Below w.heap.size w w' := by
  obtain ⟨A12, c12, A15, c15, A18, c18, hcs, l12, g12, l15, g15, l18, g18⟩ := k39_open hK
  have E0 := Aside0.mk (show cs[0]? = some (.int .i64 x.f0) by rw [hcs]; rfl)
  have HP := Aside0.mk hp
  clear hcs l12 g12 l15 g15 l18 g18 hK hp
  go_enter Tryz.func47, Tryz.ntmps47
  go_wp2_with ((with_reducible refine gate_dst (N := 1) rfl ?_); refine box_ 39 (.tmp 0) rfl rfl cs.toArray rfl ?_; intro g hg w1 hbx hB; have X1 := Aside0.mk hbx; have B1 := Aside0.mk hB; clear hbx hB hg)
  refine start_ (n := 9) (S := fun w' => w'.cell? ⟨g, 0, none⟩ = some (.int .i64 x.f0) ∧ Below w.heap.size w w') (ds := []) (zm 9 0) (by kernel_rfl) rfl rfl ⟨(cell_of_range X1.out E0.out), (below_drew B1.out)⟩ (fun hHeld => ?_)
  refine zpk 1 9 9 2 ?_
  refine ztk 2 10 9 6 ?_
  refine one_ (i := 0) (N := some 8) (zm 9 7) rfl rfl (by kernel_rfl) (by decide) (fun K hK => ?_)
  refine goes_ Tryz.func48 (by kernel_rfl) rfl #[] (by rfl) rfl rfl (by simp only [List.map_toArray, List.map_nil]) ?_
  refine (parts_c _).mono ?_
  rintro e w2 ⟨b, rfl, hm, hb⟩
  refine ⟨_, rfl, ?_⟩
  have HM := Aside0.mk hm
  clear hm
  refine hK.out _ _ ⟨(pw_cell_below hb hHeld.1), (below_step hHeld.2 hb)⟩ (fun hHeld => ?_)
  clear hK K
  refine norm_ (a' := ?_) ?_ ?_
  rotate_left
  · show Act.put _ (some 8) _ = _
    simp only [Act.put, List.setIfInBounds_toArray, List.set_cons_zero, List.set_cons_succ, i64_w, i32_w]
    rfl
  refine one_ (i := 3) (N := some 11) (zm 9 15) rfl rfl (by kernel_rfl) (by decide) (fun K hK => ?_)
  refine value_ (w1 := _) (v := .tuple #[.nilIface, .bool false]) (by rfl) rfl (zLk_ rfl rfl rfl (by have h := parts_look HM.out x.f0 true; rw [HP.out] at h; exact h)) ?_
  refine hK.out _ _ ⟨hHeld.1, hHeld.2⟩ (fun hHeld => ?_)
  clear hK K
  refine norm_ (a' := ?_) ?_ ?_
  rotate_left
  · show Act.put _ (some 11) _ = _
    simp only [Act.put, List.setIfInBounds_toArray, List.set_cons_zero, List.set_cons_succ, i64_w, i32_w]
    rfl
  refine zpk 4 7 9 31 ?_
  refine zpk 5 12 9 63 ?_
  refine zpk 6 13 9 127 ?_
  refine zpk 7 3 9 255 ?_
  refine zpk 8 4 9 511 ?_
  refine done_ (by kernel_rfl) ?_
  have B2 := Aside0.mk hHeld.2
  clear hHeld HM X1 B1
  go_wp2
  refine start_ (n := 10) (S := fun w' => Below w.heap.size w w') (ds := []) (zm 10 0) (by kernel_rfl) rfl rfl ((below_drew B2.out)) (fun hHeld => ?_)
  refine zpk 0 14 10 1 ?_
  refine zpk 1 15 10 3 ?_
  refine zpk 2 16 10 7 ?_
  refine zqk 3 17 10 15 ?_
  refine zqk 4 18 10 31 ?_
  refine zqk 5 19 10 63 ?_
  refine zqk 6 20 10 127 ?_
  refine zqk 7 21 10 255 ?_
  refine zqk 8 22 10 511 ?_
  refine zpk 9 23 10 1023 ?_
  refine done_ (by kernel_rfl) ?_
  have B3 := Aside0.mk hHeld
  clear hHeld B2
  go_wp2
  go_ret
  exact ⟨rfl, B3.out⟩
/-- **impl.shaped** -/
theorem shaped_c (x : S39) (cs : List Value) (w : World) (hK : k39.K w x cs) (hsm : Small39 x) :
    Calls Tryz.prog 47 #[.agg cs.toArray] w fun e w' => e = .returned (.bool (shapedB x)) ∧ Below w.heap.size w w' := by
  unfold shapedB
  by_cases h1 : x.f0 = 1
  · rw [if_pos h1]
    exact shaped_known 92 85 86 0 tableOnly (by decide) (fun _ => by kernel_rfl) (fun _ => by kernel_rfl) (enters_v Tryz.func85 (by kernel_rfl) rfl) (enters_v Tryz.func86 (by kernel_rfl) rfl) tableKids_c tableOnly_c x (by unfold partV; rw [if_pos h1]) cs w hK hsm
  by_cases h2 : x.f0 = 2
  · rw [if_neg h1]; rw [if_pos h2]
    exact shaped_known 93 90 91 1 whereOnly (by decide) (fun _ => by kernel_rfl) (fun _ => by kernel_rfl) (enters_v Tryz.func90 (by kernel_rfl) rfl) (enters_v Tryz.func91 (by kernel_rfl) rfl) whereKids_c whereOnly_c x (by unfold partV; rw [if_neg h1]; rw [if_pos h2]) cs w hK hsm
  by_cases h3 : x.f0 = 3
  · rw [if_neg h1]; rw [if_neg h2]; rw [if_pos h3]
    exact shaped_known 94 98 99 1 mapOnly (by decide) (fun _ => by kernel_rfl) (fun _ => by kernel_rfl) (enters_v Tryz.func98 (by kernel_rfl) rfl) (enters_v Tryz.func99 (by kernel_rfl) rfl) mapKids_c mapOnly_c x (by unfold partV; rw [if_neg h1]; rw [if_neg h2]; rw [if_pos h3]) cs w hK hsm
  by_cases h4 : x.f0 = 4
  · rw [if_neg h1]; rw [if_neg h2]; rw [if_neg h3]; rw [if_pos h4]
    exact shaped_known 95 106 107 2 joinOnly (by decide) (fun _ => by kernel_rfl) (fun _ => by kernel_rfl) (enters_v Tryz.func106 (by kernel_rfl) rfl) (enters_v Tryz.func107 (by kernel_rfl) rfl) joinKids_c joinOnly_c x (by unfold partV; rw [if_neg h1]; rw [if_neg h2]; rw [if_neg h3]; rw [if_pos h4]) cs w hK hsm
  by_cases h5 : x.f0 = 5
  · rw [if_neg h1]; rw [if_neg h2]; rw [if_neg h3]; rw [if_neg h4]; rw [if_pos h5]
    exact shaped_known 96 112 113 2 bothOnly (by decide) (fun _ => by kernel_rfl) (fun _ => by kernel_rfl) (enters_v Tryz.func112 (by kernel_rfl) rfl) (enters_v Tryz.func113 (by kernel_rfl) rfl) bothKids_c bothOnly_c x (by unfold partV; rw [if_neg h1]; rw [if_neg h2]; rw [if_neg h3]; rw [if_neg h4]; rw [if_pos h5]) cs w hK hsm
  by_cases h6 : x.f0 = 6
  · rw [if_neg h1]; rw [if_neg h2]; rw [if_neg h3]; rw [if_neg h4]; rw [if_neg h5]; rw [if_pos h6]
    exact shaped_known 97 117 118 1 onceOnly (by decide) (fun _ => by kernel_rfl) (fun _ => by kernel_rfl) (enters_v Tryz.func117 (by kernel_rfl) rfl) (enters_v Tryz.func118 (by kernel_rfl) rfl) onceKids_c onceOnly_c x (by unfold partV; rw [if_neg h1]; rw [if_neg h2]; rw [if_neg h3]; rw [if_neg h4]; rw [if_neg h5]; rw [if_pos h6]) cs w hK hsm
  by_cases h7 : x.f0 = 7
  · rw [if_neg h1]; rw [if_neg h2]; rw [if_neg h3]; rw [if_neg h4]; rw [if_neg h5]; rw [if_neg h6]; rw [if_pos h7]
    exact shaped_known 98 122 123 1 groupOnly (by decide) (fun _ => by kernel_rfl) (fun _ => by kernel_rfl) (enters_v Tryz.func122 (by kernel_rfl) rfl) (enters_v Tryz.func123 (by kernel_rfl) rfl) groupKids_c groupOnly_c x (by unfold partV; rw [if_neg h1]; rw [if_neg h2]; rw [if_neg h3]; rw [if_neg h4]; rw [if_neg h5]; rw [if_neg h6]; rw [if_pos h7]) cs w hK hsm
  rw [if_neg h1]; rw [if_neg h2]; rw [if_neg h3]; rw [if_neg h4]; rw [if_neg h5]; rw [if_neg h6]; rw [if_neg h7]
  exact shaped_none x (by unfold partV; rw [if_neg h1]; rw [if_neg h2]; rw [if_neg h3]; rw [if_neg h4]; rw [if_neg h5]; rw [if_neg h6]; rw [if_neg h7]) cs w hK
end Pl
/-! ## What the leaf functions of a plan's form tell -/
namespace Pl
/-- a column's number within the width and below six -/
def colB (a w : Int) : Bool := decide (0 ≤ a) && decide (a < w) && decide (a < 6)
/-- a cell's value within its bounds -/
def numB (n : Int) : Bool := decide (-1000000000 ≤ n) && decide (n ≤ 1000000000)
/-- what a cell's form is measured by -/
def cellB (k a b n w : Int) : Bool :=
  if k = 1 then colB a w && decide (b = 0) && decide (n = 0)
  else if k = 2 then decide (a = 0) && decide (b = 0) && numB n
  else if k = 3 then colB a w && colB b w && decide (n = 0) else false
theorem spec_l3Col_f (a w : Int) : spec_l3Col.f a w = some (colB a w) := by
  unfold spec_l3Col.f colB
  by_cases h0 : a ≥ 0 <;> by_cases h1 : a < w <;> simp [h0, h1]
theorem spec_l1Cell_f (n : Int) : spec_l1Cell.f n = some (numB n) := by
  unfold spec_l1Cell.f numB
  by_cases h0 : n ≥ -1000000000 <;> simp [h0]
theorem impl_isCell_f (n : Int) : impl_isCell.f n = some (numB n) := by
  unfold impl_isCell.f numB
  by_cases h0 : n ≥ -1000000000 <;> simp [h0]
theorem impl_isPlace_f (a w : Int) : impl_isPlace.f a w = some (colB a w) := by
  unfold impl_isPlace.f colB mn
  by_cases h0 : a ≥ 0
  · rw [if_pos h0]
    refine congrArg some ?_
    rw [Bool.eq_iff_iff]
    simp only [Bool.and_eq_true, decide_eq_true_eq]
    split <;> omega
  · rw [if_neg h0]
    refine congrArg some ?_
    rw [Bool.eq_iff_iff]
    simp only [Bool.and_eq_true, decide_eq_true_eq, Bool.false_eq_true, false_iff]
    omega
theorem beq_dec (n : Int) : (n == 0) = decide (n = 0) := by rw [Bool.eq_iff_iff]; simp
theorem spec_CellOk_f (k a b n w : Int) : spec_CellOk.f k a b n w = some (cellB k a b n w) := by
  unfold spec_CellOk.f cellB
  simp only [spec_l3Col_f, spec_l1Cell_f, Option.bind_some, beq_dec]
  by_cases k1 : k = 1
  · simp only [k1, if_true]; by_cases hc : colB a w = true <;> by_cases hb : b = 0 <;> simp [hc, hb]
  by_cases k2 : k = 2
  · subst k2; simp; by_cases hc : a = 0 <;> by_cases hb : b = 0 <;> simp [hc, hb]
  by_cases k3 : k = 3
  · subst k3; simp; by_cases hc : colB a w = true <;> by_cases hb : colB b w = true <;> simp [hc, hb]
  simp [k1, k2, k3]
theorem impl_CellOk_f (k a b n w : Int) : impl_CellOk.f k a b n w = some (cellB k a b n w) := by
  unfold impl_CellOk.f cellB impl_colReckoning_ok.f impl_numReckoning_ok.f impl_sumReckoning_ok.f
  simp only [impl_isPlace_f, impl_isCell_f, Option.bind_some]
  by_cases k1 : k = 1
  · simp only [k1, if_true]; by_cases hc : n = 0 <;> by_cases hb : b = 0 <;> simp [hc, hb]
  by_cases k2 : k = 2
  · subst k2; simp; by_cases hc : a = 0 <;> by_cases hb : b = 0 <;> simp [hc, hb]
  by_cases k3 : k = 3
  · subst k3; simp; by_cases hc : colB a w = true <;> by_cases hb : n = 0 <;> simp [hc, hb]
  simp [k1, k2, k3]
/-- what a test's form is measured by -/
def testB (k : Int) (a b c d a' b' c' d' w : Int) : Bool := (decide (k = 1) || decide (k = 2)) && cellB a b c d w && cellB a' b' c' d' w
theorem spec_TestOk_f (k : Int) (s : Bool) (a b c d a' b' c' d' w : Int) : spec_TestOk.f k s a b c d a' b' c' d' w = some (testB k a b c d a' b' c' d' w) := by
  unfold spec_TestOk.f testB
  simp only [spec_CellOk_f, Option.bind_some]
  by_cases k1 : k = 1
  · subst k1; by_cases hc : cellB a b c d w = true <;> simp [hc]
  by_cases k2 : k = 2
  · subst k2; by_cases hc : cellB a b c d w = true <;> simp [hc]
  simp [k1, k2]
theorem impl_TestOk_f (k : Int) (s : Bool) (a b c d a' b' c' d' w : Int) : impl_TestOk.f k s a b c d a' b' c' d' w = some (testB k a b c d a' b' c' d' w) := by
  unfold impl_TestOk.f testB
  simp only [impl_CellOk_f, Option.bind_some]
  by_cases k1 : k = 1
  · subst k1; by_cases hc : cellB a b c d w = true <;> simp [hc]
  by_cases k2 : k = 2
  · subst k2; by_cases hc : cellB a b c d w = true <;> simp [hc]
  simp [k1, k2]

def cellB' (x : S33) (w : Int) : Bool := cellB x.f0 x.f1 x.f2 x.f3 w
def testB' (x : S35) (w : Int) : Bool := testB x.f0 x.f2.f0 x.f2.f1 x.f2.f2 x.f2.f3 x.f3.f0 x.f3.f1 x.f3.f2 x.f3.f3 w
def cellsB (l : List S33) (w : Int) : Bool := l.all (fun x => cellB' x w) && decide (1 ≤ l.length) && decide (l.length ≤ 6)
def kidsN (q : Int) : Int := if q = 1 then 0 else if q = 2 then 1 else if q = 3 then 1 else if q = 6 then 1 else if q = 7 then 1 else if q = 4 then 2 else if q = 5 then 2 else -1
def ifW (b : Bool) (n : Int) : Int := if b then n else -1
theorem l3Col_c (a n : Int) (w : World) : Calls Tryz.prog 53 #[.int .i64 a, .int .i64 n] w fun e w' => e = .returned (.bool (colB a n)) ∧ Below w.heap.size w w' :=
  (spec_l3Col.calls a n _ w (spec_l3Col_f a n)).mono fun _ _ ⟨h, hd⟩ => ⟨h, hd.below⟩
theorem isPlace_c (a n : Int) (w : World) : Calls Tryz.prog 110 #[.int .i64 a, .int .i64 n] w fun e w' => e = .returned (.bool (colB a n)) ∧ Below w.heap.size w w' :=
  impl_isPlace.calls a n _ w (impl_isPlace_f a n)
theorem specCellOk_c (x : S33) (n : Int) (w : World) : Calls Tryz.prog 59 #[.agg (cellCells x).toArray, .int .i64 n] w fun e w' => e = .returned (.bool (cellB' x n)) ∧ Below w.heap.size w w' :=
  spec_CellOk.calls x.f0 x.f1 x.f2 x.f3 n _ w (spec_CellOk_f _ _ _ _ _)
theorem implCellOk_c (x : S33) (n : Int) (w : World) : Calls Tryz.prog 95 #[.agg (cellCells x).toArray, .int .i64 n] w fun e w' => e = .returned (.bool (cellB' x n)) ∧ Below w.heap.size w w' :=
  impl_CellOk.calls x.f0 x.f1 x.f2 x.f3 n _ w (impl_CellOk_f _ _ _ _ _)
theorem specTestOk_c (x : S35) (n : Int) (w : World) : Calls Tryz.prog 51 #[.agg (testCells x).toArray, .int .i64 n] w fun e w' => e = .returned (.bool (testB' x n)) ∧ Below w.heap.size w w' :=
  spec_TestOk.calls x.f0 x.f1 x.f2.f0 x.f2.f1 x.f2.f2 x.f2.f3 x.f3.f0 x.f3.f1 x.f3.f2 x.f3.f3 n _ w (spec_TestOk_f _ _ _ _ _ _ _ _ _ _ _)
theorem implTestOk_c (x : S35) (n : Int) (w : World) : Calls Tryz.prog 94 #[.agg (testCells x).toArray, .int .i64 n] w fun e w' => e = .returned (.bool (testB' x n)) ∧ Below w.heap.size w w' :=
  impl_TestOk.calls x.f0 x.f1 x.f2.f0 x.f2.f1 x.f2.f2 x.f2.f3 x.f3.f0 x.f3.f1 x.f3.f2 x.f3.f3 n _ w (impl_TestOk_f _ _ _ _ _ _ _ _ _ _ _)
theorem wideIf_c (b : Bool) (n : Int) (w : World) : Calls Tryz.prog 37 #[.bool b, .int .i64 n] w fun e w' => e = .returned (.int .i64 (ifW b n)) ∧ Below w.heap.size w w' :=
  (impl_wideIf.calls b n _ w (by unfold impl_wideIf.f ifW; cases b <;> rfl)).mono fun _ _ ⟨h, hd⟩ => ⟨h, hd.below⟩
theorem l4Kids_c (q : Int) (w : World) : Calls Tryz.prog 49 #[.int .i64 q] w fun e w' => e = .returned (.int .i64 (kidsN q)) ∧ Below w.heap.size w w' :=
  (spec_l4Kids.calls q _ w (by
    unfold spec_l4Kids.f kidsN
    by_cases h1 : q = 1
    · simp [h1]
    by_cases h2 : q = 2
    · simp [h2]
    by_cases h3 : q = 3
    · simp [h3]
    by_cases h6 : q = 6
    · simp [h6]
    by_cases h7 : q = 7
    · simp [h7]
    by_cases h4 : q = 4
    · simp [h4]
    by_cases h5 : q = 5
    · simp [h5]
    simp [h1, h2, h3, h4, h5, h6, h7])).mono fun _ _ ⟨h, hd⟩ => ⟨h, hd.below⟩
theorem l4Cells_c (A : Option Addr) (c : Nat) (l : List S33) (n : Int) (w : World) (hl : l.length ≤ 1048576) (hr : Kd.C k33 w A l.length l) (hc : l.length ≤ c) :
    Calls Tryz.prog 52 #[.slice A l.length c, .int .i64 n] w fun e w' => e = .returned (.bool (cellsB l n)) ∧ Below w.heap.size w w' := by
  have ev : Ev (fun k => spec_l4Cells.f k l n) (cellsB l n) := by
    have h := ev_down (fun k i => spec_l4Cells.l0 k l n (i : Int)) (fun i => (l.drop i).all (fun x => cellB' x n) && decide (1 ≤ l.length) && decide (l.length ≤ 6)) l.length ?_ ?_ 0 (by omega)
    · simpa [spec_l4Cells.f, cellsB] using h
    · refine Ev.step (fun k => spec_l4Cells.l0.eq_2 ..) (ev_neg (by omega) ?_)
      rw [drop_end l _ (Nat.le_refl _)]
      by_cases h1 : (l.length : Int) ≥ 1
      · refine ev_pos h1 (ev_now ?_)
        rw [Bool.eq_iff_iff]; simp; omega
      · refine ev_neg h1 (ev_now ?_)
        symm; simp; omega
    · intro i hi ih
      refine Ev.step (fun k => spec_l4Cells.l0.eq_2 ..) (ev_pos (by omega) (ev_pos (by omega) ?_))
      rw [rd33 l i hi, drop_at l i hi]
      refine ev_eq (spec_CellOk_f _ _ _ _ _) ?_
      by_cases h1 : cellB (l[i]).f0 (l[i]).f1 (l[i]).f2 (l[i]).f3 n = true
      · refine ev_pos h1 ?_
        rw [w64n (by omega), List.all_cons, show cellB' l[i] n = true from h1, Bool.true_and]
        exact ih
      · refine ev_neg h1 (ev_now ?_)
        rw [List.all_cons, show cellB' l[i] n = false by simpa [cellB'] using h1]; rfl
  obtain ⟨k, hk⟩ := ev.rounds
  exact spec_l4Cells.calls k A c l n _ w hr hc hk
/-! ### Keys -/
def keyP (l : List Int) (n : Int) (i : Nat) : Bool := colB (rd l i) n && !((l.take i).contains (rd l i))
def keysFrom (l : List Int) (n : Int) (i : Nat) : Bool := (List.range' i (l.length - i)).all (keyP l n)
def keysB (l : List Int) (n : Int) : Bool := decide (l.length < 6) && keysFrom l n 0
theorem keysFrom_end (l : List Int) (n : Int) : keysFrom l n l.length = true := by simp [keysFrom]
theorem keysFrom_at (l : List Int) (n : Int) (i : Nat) (h : i < l.length) : keysFrom l n i = (keyP l n i && keysFrom l n (i + 1)) := by
  unfold keysFrom
  obtain ⟨d, hd⟩ : ∃ d, l.length - i = d + 1 := ⟨l.length - i - 1, by omega⟩
  have h2 : l.length - (i + 1) = d := by omega
  rw [hd, h2, List.range'_succ, List.all_cons]
def idxL (x : Int) : List Int → Nat → Int
  | [], _ => -1
  | y :: ys, i => if x = y then (i : Int) else idxL x ys (i + 1)
theorem idxL_pos (x : Int) (l : List Int) (i : Nat) : decide (idxL x l i ≥ 0) = l.contains x := by
  induction l generalizing i with
  | nil => simp [idxL]
  | cons y ys ih =>
    unfold idxL
    by_cases h : x = y
    · subst h; rw [if_pos rfl]; simp
    · rw [if_neg h, ih]; simp [List.contains_cons, h]
theorem contains_ev (l : List Int) (x : Int) (hl : l.length < 4611686018427387904) : Ev (fun k => slices_Contains_int_int.f k l x) (l.contains x) := by
  unfold slices_Contains_int_int.f
  have h := ev_down (fun k i => slices_Index_int_int.l0 k l x (l.length : Int) (i : Int)) (fun i => idxL x (l.drop i) i) l.length ?_ ?_ 0 (by omega)
  · refine Ev.bind (a := idxL x l 0) (by simpa [slices_Index_int_int.f] using h) (ev_now (idxL_pos x l 0))
  · refine Ev.step (fun k => slices_Index_int_int.l0.eq_2 ..) (ev_neg (by omega) (ev_now ?_))
    rw [drop_end l _ (Nat.le_refl _), idxL]
  · intro i hi ih
    refine Ev.step (fun k => slices_Index_int_int.l0.eq_2 ..) (ev_pos (by omega) (ev_pos (by omega) (ev_pos (by omega) ?_)))
    rw [drop_rd l i hi, idxL]
    by_cases h1 : x = rd l (i : Int)
    · exact ev_pos h1 (ev_now (by rw [if_pos h1]))
    · refine ev_neg h1 ?_
      rw [w64n (by omega), if_neg h1]
      exact ih
theorem keysOk_c (A : Option Addr) (c : Nat) (l : List Int) (n : Int) (w : World) (hl : l.length ≤ 1048576) (hr : Kd.C (Kd.int .i64) w A l.length l) (hc : l.length ≤ c) :
    Calls Tryz.prog 126 #[.slice A l.length c, .int .i64 n] w fun e w' => e = .returned (.bool (keysB l n)) ∧ Below w.heap.size w w' := by
  have ev : Ev (fun k => impl_keysOk.f k l n) (keysB l n) := by
    unfold impl_keysOk.f keysB
    by_cases h6 : (l.length : Int) ≥ 6
    · exact ev_pos h6 (ev_now (by symm; simp; omega))
    refine ev_neg h6 ?_
    rw [show decide (l.length < 6) = true by simp; omega, Bool.true_and]
    have h := ev_down (fun k i => impl_keysOk.l0 k l n l (l.length : Int) (i : Int)) (fun i => keysFrom l n i) l.length ?_ ?_ 0 (by omega)
    · simpa using h
    · refine Ev.step (fun k => impl_keysOk.l0.eq_2 ..) (ev_neg (by omega) (ev_now ?_))
      rw [keysFrom_end]
    · intro i hi ih
      refine Ev.step (fun k => impl_keysOk.l0.eq_2 ..) (ev_pos (by omega) (ev_pos (by omega) (ev_pos (by omega) ?_)))
      refine ev_eq (impl_isPlace_f _ _) ?_
      rw [keysFrom_at l n i hi]
      unfold keyP
      by_cases h1 : colB (rd l (i : Int)) n = true
      · refine ev_pos h1 (ev_pos (by omega) ?_)
        rw [Int.toNat_natCast]
        refine Ev.bind (contains_ev (l.take i) (rd l (i : Int)) (by simp; omega)) ?_
        rw [h1, Bool.true_and]
        by_cases h2 : (l.take i).contains (rd l (i : Int)) = true
        · exact ev_pos h2 (ev_now (by rw [h2]; rfl))
        · refine ev_neg h2 ?_
          rw [w64n (by omega), show (l.take i).contains (rd l (i : Int)) = false by simpa using h2]
          simpa using ih
      · refine ev_neg h1 (ev_now ?_)
        rw [show colB (rd l (i : Int)) n = false by simpa using h1]; rfl
  obtain ⟨k, hk⟩ := ev.rounds
  exact impl_keysOk.calls k A c l n _ w hr hc hk
theorem take_drop_at (l : List Int) {i j : Nat} (h : j < i) (hi : i < l.length) : (l.take i).drop j = rd l (j : Int) :: (l.take i).drop (j + 1) := by
  have hl : j < (l.take i).length := by rw [List.length_take]; omega
  rw [List.drop_eq_getElem_cons hl]
  congr 1
  rw [List.getElem_take, rd_nat, List.getD_eq_getElem?_getD, List.getElem?_eq_getElem (by omega)]; rfl
theorem l4Keys_c (A : Option Addr) (c : Nat) (l : List Int) (n : Int) (w : World) (hl : l.length ≤ 1048576) (hr : Kd.C (Kd.int .i64) w A l.length l) (hc : l.length ≤ c) :
    Calls Tryz.prog 54 #[.slice A l.length c, .int .i64 n] w fun e w' => e = .returned (.bool (keysB l n)) ∧ Below w.heap.size w w' := by
  have ev : Ev (fun k => spec_l4Keys.f k l n) (keysB l n) := by
    have h := ev_down (fun k i => spec_l4Keys.l0 k l n (i : Int)) (fun i => decide (l.length < 6) && keysFrom l n i) l.length ?_ ?_ 0 (by omega)
    · simpa [spec_l4Keys.f, keysB] using h
    · refine Ev.step (fun k => spec_l4Keys.l0.eq_2 ..) (ev_neg (by omega) (ev_now ?_))
      rw [keysFrom_end, Bool.eq_iff_iff]; simp; omega
    · intro i hi ih
      refine Ev.step (fun k => spec_l4Keys.l0.eq_2 ..) (ev_pos (by omega) (ev_pos (by omega) ?_))
      refine ev_eq (spec_l3Col_f _ _) ?_
      rw [keysFrom_at l n i hi]
      unfold keyP
      by_cases h1 : colB (rd l (i : Int)) n = true
      · refine ev_pos h1 ?_
        rw [h1, Bool.true_and]
        have inner := ev_down (fun k j => spec_l4Keys.l1 k l n (i : Int) (j : Int)) (fun j => !((l.take i).drop j).contains (rd l (i : Int)) && (decide (l.length < 6) && keysFrom l n (i + 1))) i ?_ ?_ 0 (by omega)
        · rw [List.drop_zero] at inner
          rw [show (decide (l.length < 6) && (!(l.take i).contains (rd l (i : Int)) && keysFrom l n (i + 1))) = (!(l.take i).contains (rd l (i : Int)) && (decide (l.length < 6) && keysFrom l n (i + 1))) by
            cases decide (l.length < 6) <;> cases (l.take i).contains (rd l (i : Int)) <;> rfl]
          exact inner
        · refine Ev.step (fun k => spec_l4Keys.l1.eq_2 ..) (ev_neg (by omega) ?_)
          rw [w64n (by omega), drop_end (l.take i) i (by rw [List.length_take]; omega)]
          simpa using ih
        · intro j hj ihj
          refine Ev.step (fun k => spec_l4Keys.l1.eq_2 ..) (ev_pos (by omega) (ev_pos (by omega) (ev_pos (by omega) (ev_pos (by omega) (ev_pos (by omega) ?_)))))
          rw [take_drop_at l hj hi, List.contains_cons]
          by_cases h2 : rd l (j : Int) = rd l (i : Int)
          · refine ev_pos h2 (ev_now ?_)
            rw [h2]; simp
          · refine ev_neg h2 ?_
            rw [w64n (by omega), show (rd l (i : Int) == rd l (j : Int)) = false by simpa using fun e => h2 e.symm, Bool.false_or]
            exact ihj
      · refine ev_neg h1 (ev_now ?_)
        rw [show colB (rd l (i : Int)) n = false by simpa using h1]; simp
  obtain ⟨k, hk⟩ := ev.rounds
  exact (spec_l4Keys.calls k A c l n _ w hr hc hk).mono fun _ _ ⟨h, hd⟩ => ⟨h, hd.below⟩
end Pl

end Go.Proofs.YtlpgnkndjmfcjaaGreat.PFnPlanUses
