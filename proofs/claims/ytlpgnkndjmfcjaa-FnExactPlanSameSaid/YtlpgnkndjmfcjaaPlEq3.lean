/- The comparison eqPlan tells whether two plans are the same, for each plan of at most 2^20 parts. -/
import Derived.Test.YtlpgnkndjmfcjaaPlEq2
namespace Go.Proofs.Ytlpgnkndjmfcjaa.PFnExactPlanSame
open Go.RowKit Go.Proofs.YtlpgnkndjmfcjaaW.PrintWords Go.Proofs.YtlpgnkndjmfcjaaW.PrintLast Go.Proofs.YtlpgnkndjmfcjaaW.PrintMore
attribute [local go_sem] max2_int min2_int max_two min_two max_three min_three max_four min_four   -- for this text's walks alone
set_option linter.unusedVariables false
set_option linter.unusedSimpArgs false
namespace Pl
section
variable {P : Program} {ops : Array Oper} {rest : List Oper} {o : Oper} {a : Act} {Q : Act → Prop}
/-- The same load in a statement that draws its order. -/
theorem still_load_ {W : World} (ty : TypeId) (x : Operand) (ho : o.op = .load ty x) (hw : Region.wanted o (yielded ops a.tmps) = true) (ad : Addr) (hx : a.eval x = .pointer (some ad)) (cs : List Value) (fs : Array Field) (hu : P.underlying ty = some (.struct fs)) (hi : (P.info? ty).map (·.size) = some cs.length)
    (hc : ∀ j v, cs[j]? = some v → W.cell? (ad.add j) = some v) (h : wpStill P ops W Q rest (a.put o.dst (.agg cs.toArray))) : wpStill P ops W Q (o :: rest) a := by
  have hl : (loadCells ad cs.length).run P W = .ok cs.toArray W := run_loadCells_list (P := P) W ad cs hc
  have hr : (loadVar ty ad).run P W = .ok (.agg cs.toArray) W := by
    cases hq : P.info? ty with
    | none => simp [hq] at hi
    | some i =>
      have hs : i.size = cs.length := by simpa [hq] using hi
      have hagg : (isAgg ty).run P W = .ok true W := by
        unfold isAgg
        rw [Sem.run_bind, run_underlying hu W]
        simp
      simp [loadVar, Sem.run_bind, hagg, sizeOf, typeInfo, hq, hs, hl]
  show if Region.wanted o (yielded ops a.tmps) = true then o.still P a W (wpStill P ops W Q rest) else _
  rw [if_pos hw]
  unfold Oper.still execOp
  simp only [ho, hx, Instr.loadAt, Instr.sureAddr, Sem.run_bind, Sem.run_pure, Result.andThen_ok, hr]
  exact ⟨rfl, h⟩
end
theorem sames_end (xs ys : List S39) (i : Nat) (h : xs.length ≤ i) (h' : ys.length ≤ i) : sames (xs.drop i) (ys.drop i) = true := by
  rw [List.drop_of_length_le h, List.drop_of_length_le h', sames_iff]
set_option maxHeartbeats 8000000 in
set_option maxRecDepth 100000 in
theorem eqPlanS_step (N : Nat) (hP : ∀ M, M ≤ N → EqP M) : EqS N := by
  intro xs ys A B c d w hn hr hc hr' hd hm hok
  by_cases hl : xs.length = ys.length
  rotate_left
  · have b1 : ((xs.length : Int) == (ys.length : Int)) = false := by simp; omega
    have b2 : ((xs.length : Int) != (ys.length : Int)) = true := by simp; omega
    have b3 : (xs.length == ys.length) = false := by simp; omega
    have b4 : (xs.length != ys.length) = true := by simp; omega
    have HR := Aside0.mk (sames_no (x := xs) (y := ys) (fun e => hl (by rw [e])))
    clear hl hr hr' hP hok hn
    go_enter Try.func29, Try.ntmps29
    go_wp2
    go_ret
    exact ⟨by rw [HR.out]; rfl, Below.refl _ _⟩
  have b1 : ((xs.length : Int) == (ys.length : Int)) = true := by simp; omega
  have b2 : ((xs.length : Int) != (ys.length : Int)) = false := by simp; omega
  have b3 : (xs.length == ys.length) = true := by simp; omega
  have b4 : (xs.length != ys.length) = false := by simp; omega
  have HL := Aside0.mk hl
  have HC := Aside0.mk hr
  have HD := Aside0.mk hr'
  have HN := Aside0.mk hn
  have OK := Aside0.mk hok
  have HP := Aside0.mk hP
  clear hP hn hr hr' hok hc hd hl
  go_enter Try.func29, Try.ntmps29
  go_wp2
  go_loopw [5] (fun v5 wr => ∃ (i : Nat), v5 = .int .i64 i ∧ i ≤ xs.length ∧ Aside0 (sames xs ys = sames (xs.drop i) (ys.drop i)) ∧ Aside0 (Below w.heap.size w wr)) (fun v5 _ => xs.length - (intOf v5).toNat)
  case atStart => exact ⟨0, rfl, Nat.zero_le _, ⟨rfl⟩, ⟨Below.refl _ _⟩⟩
  case round =>
    obtain ⟨i, rfl, hi, HA, HB⟩ := hrel
    by_cases hlt : i < xs.length
    · have hlt' : i < ys.length := by have := HL.out; omega
      obtain ⟨ad, c0, rfl, hcl, hK, hcell⟩ := elem_ (Kd.C_below HC.out HB.out) i hlt
      obtain ⟨bd, d0, rfl, hdl, hK', hdell⟩ := elem_ (Kd.C_below HD.out HB.out) i hlt'
      have hsz := szs39_get hlt
      have CA := Aside0.mk (fun (w' : World) (hK : k39.K w' xs[i] c0.toArray.toList) (hK' : k39.K w' ys[i] d0.toArray.toList) => HP.out (sz39 xs[i]) (by have := HN.out; omega) xs[i] ys[i] c0.toArray d0.toArray w' (Nat.le_refl _) hK hK' (OK.out _ (List.getElem_mem hlt)))
      have HK := Aside0.mk (show k39.K wr.drew xs[i] c0.toArray.toList from k39.K_below (Below.refl _ _).drew hK)
      have HK' := Aside0.mk (show k39.K wr.drew ys[i] d0.toArray.toList from k39.K_below (Below.refl _ _).drew hK')
      have HE := Aside0.mk hcell
      have HE' := Aside0.mk hdell
      have LC := Aside0.mk hcl
      have LD := Aside0.mk hdl
      have GD := Aside0.mk (HA.out.trans (sames_drop xs ys i hlt hlt'))
      obtain ⟨r, hr⟩ : ∃ r, r = same xs[i] ys[i] := ⟨_, rfl⟩
      rw [← hr] at CA GD
      clear hsz hK hK' hcell hdell hcl hdl HA hr
      go_wp2
      refine wp_region_still_tail 8 (by kernel_rfl) (by kernel_rfl) ?_
      simp only [List.take_succ_cons, List.take_zero, List.drop_succ_cons, List.drop_zero]
      still_step
      still_step
      still_step
      refine still_load_ 39 (.tmp 19) rfl rfl (ad.add (i * 19)) ?hx c0 _ Try.underlying39 ?hi HE.out ?_
      case hx => first | rfl | (go_simp; done) | (go_simp; rfl)
      case hi => rw [LC.out]; kernel_rfl
      still_step
      still_step
      still_step
      refine still_load_ 39 (.tmp 23) rfl rfl (bd.add (i * 19)) ?hx2 d0 _ Try.underlying39 ?hi2 HE'.out ?_
      case hx2 => first | rfl | (go_simp; done) | (go_simp; rfl)
      case hi2 => rw [LD.out]; kernel_rfl
      refine wpStill_nil ?_
      change wpList _ _ _ _ _ wr.drew
      have HBD := Aside0.mk (HB.out.drew)
      obtain ⟨wd, hwd⟩ : ∃ wd, wd = wr.drew := ⟨_, rfl⟩
      rw [← hwd] at HK HK' HBD ⊢
      clear hwd
      go_wp2_with (first
        | (go_at_call 10; refine (CA.out _ HK.out HK'.out).mono ?_; rintro e w2 ⟨rfl, hB2⟩; have HB2 := Aside0.mk (below_step HBD.out hB2); clear hB2))
      · go_ret
        exact ⟨by rw [GD.out]; have h : (!r) = true := (by assumption); have h2 : r = false := (by simpa using h); rw [h2]; rfl, HB2.out⟩
      · go_roundw
        case rel => exact ⟨i + 1, by go_num, by omega, ⟨by rw [GD.out]; have h : (!r) = false := (by assumption); have h2 : r = true := (by simpa using h); rw [h2]; rfl⟩, HB2⟩
        case measure => simp [intOf]; omega
    · have GE := Aside0.mk (HA.out.trans (sames_end xs ys i (by omega) (by have := HL.out; omega)))
      go_wp2
      go_ret
      exact ⟨by rw [GE.out]; rfl, HB.out⟩
theorem eqP_all (N : Nat) : EqP N := by
  induction N using Nat.strongRecOn with
  | _ N ih =>
    cases N with
    | zero => intro x y ca cb w hn; have := sz39_kids x; omega
    | succ N => exact eqPlan_step N (eqPlanS_step N (fun M hM => ih M (by omega)))
/-- **laws.eqPlan**: are two plans one? -/
theorem eqPlan_c (x y : S39) (ca cb : Array Value) (w : World) (hK : k39.K w x ca.toList) (hK' : k39.K w y cb.toList) (hok : Small39 x) :
    Calls Try.prog 10 #[.agg ca, .agg cb] w fun e w' => e = .returned (.bool (same x y)) ∧ Below w.heap.size w w' := eqP_all _ x y ca cb w (Nat.le_refl _) hK hK' hok
end Pl

end Go.Proofs.Ytlpgnkndjmfcjaa.PFnExactPlanSame
