-- Written by wip/tools/pp.py, a program of this session over the kit's printer: not the kit's own print
import Derived.Test.YtlpgnkndjmfcjaaGreatRows
import Derived.Test.YtlpgnkndjmfcjaaGreatPlLawuses
import Derived.Test.YtlpgnkndjmfcjaaGreatOpen
import Derived.WalkKit
import Derived.ProofKit
import Derived.OpenShut
import Derived.ShutString
import Derived.ChangeOld
import Derived.Below
import Derived.SizedLaws
namespace Go.Proofs.YtlpgnkndjmfcjaaGreat.fnExactPlanUses
open Go.ChangeShapes Go.WideShapes Go.ChangeAt Go.RowKit Go.Proofs.YtlpgnkndjmfcjaaGreatW.PrintWords Go.Proofs.YtlpgnkndjmfcjaaGreat.Open Go.Proofs.YtlpgnkndjmfcjaaGreat.PFnExactPlanMany
open Go.ChangeMaps (open_string shut_string)
set_option linter.unusedVariables false
theorem own : ownKnob Tryz.prog.godebug = none := by kernel_rfl
theorem laidOut : laidOutB Tryz.prog = true := by kernel_rfl
theorem opens23 : Opens Tryz.prog 23 k23 (fun x => (((Lit.int .i64 x.f0).wf = true) ∧ (((Lit.int .i64 x.f1).wf = true) ∧ (((Lit.int .i64 x.f2).wf = true) ∧ ((Lit.int .i64 x.f3).wf = true))))) :=
  opens_of (f := (· + 1)) (fun m => opensB_iso _ (fun y => ⟨y.1, y.2.1, y.2.2.1, y.2.2.2⟩) (fun _ => rfl) (opensB_struct Tryz.underlying23 (l := [_, _, _, _]) rfl (tot := 4) (by kernel_rfl) (opensF_cons (by kernel_rfl) (by kernel_rfl) ((opens_int Tryz.underlying3) m) (opensF_cons (by kernel_rfl) (by kernel_rfl) ((opens_int Tryz.underlying3) m) (opensF_cons (by kernel_rfl) (by kernel_rfl) ((opens_int Tryz.underlying3) m) (opensF_one (by kernel_rfl) (by kernel_rfl) (by kernel_rfl) ((opens_int Tryz.underlying3) m))))))) (fun m => Nat.le_succ m)
theorem opens25 : Opens Tryz.prog 25 k25 (fun x => (((Lit.int .i64 x.f0).wf = true) ∧ ((True) ∧ (((((Lit.int .i64 x.f2.f0).wf = true) ∧ (((Lit.int .i64 x.f2.f1).wf = true) ∧ (((Lit.int .i64 x.f2.f2).wf = true) ∧ ((Lit.int .i64 x.f2.f3).wf = true))))) ∧ ((((Lit.int .i64 x.f3.f0).wf = true) ∧ (((Lit.int .i64 x.f3.f1).wf = true) ∧ (((Lit.int .i64 x.f3.f2).wf = true) ∧ ((Lit.int .i64 x.f3.f3).wf = true))))))))) :=
  opens_of (f := (· + 1)) (fun m => opensB_iso _ (fun y => ⟨y.1, y.2.1, y.2.2.1, y.2.2.2⟩) (fun _ => rfl) (opensB_struct Tryz.underlying25 (l := [_, _, _, _]) rfl (tot := 10) (by kernel_rfl) (opensF_cons (by kernel_rfl) (by kernel_rfl) ((opens_int Tryz.underlying3) m) (opensF_cons (by kernel_rfl) (by kernel_rfl) ((opens_bool Tryz.underlying4) m) (opensF_cons (by kernel_rfl) (by kernel_rfl) (opens23 m) (opensF_one (by kernel_rfl) (by kernel_rfl) (by kernel_rfl) (opens23 m))))))) (fun m => Nat.le_succ m)
theorem opens26 : Opens Tryz.prog 26 (Kd.slice 23 k23) (fun x => (x.length ≤ maxLen ∧ ∀ y0 ∈ x, (((Lit.int .i64 y0.f0).wf = true) ∧ (((Lit.int .i64 y0.f1).wf = true) ∧ (((Lit.int .i64 y0.f2).wf = true) ∧ ((Lit.int .i64 y0.f3).wf = true)))))) := opens_slice Tryz.underlying26 (by kernel_rfl) opens23
theorem opens27 : Opens Tryz.prog 27 (Kd.slice 3 (Kd.int .i64)) (fun x => (x.length ≤ maxLen ∧ ∀ y0 ∈ x, (Lit.int .i64 y0).wf = true)) := opens_slice Tryz.underlying27 (by kernel_rfl) (opens_int Tryz.underlying3)
theorem opensU30 : ∀ m, OpensB Tryz.prog 30 (Kd.upto F30 19 [3, 23, 30] m) Ok30 m
  | 0 => fun H enc w base spare held fuel cs x hf hx => by
    obtain rfl := Nat.le_zero.1 hf
    exact absurd hx (by simp [DataW.trod])
  | m + 1 => fun H enc w base spare held fuel cs x hf hx => by
    obtain ⟨a, ha, hok⟩ := (opensB_iso (P := Tryz.prog) (fun x : S30 => (x.f0, x.f1, x.f2, x.f3, x.f4, x.f5, x.f6, x.f7, x.f8, x.f9)) (fun y => (⟨y.1, y.2.1, y.2.2.1, y.2.2.2.1, y.2.2.2.2.1, y.2.2.2.2.2.1, y.2.2.2.2.2.2.1, y.2.2.2.2.2.2.2.1, y.2.2.2.2.2.2.2.2.1, y.2.2.2.2.2.2.2.2.2⟩ : S30)) (fun _ => rfl) (opensB_struct Tryz.underlying30 (l := [_, _, _, _, _, _, _, _, _, _]) rfl (tot := 19) (by kernel_rfl) (opensF_cons (by kernel_rfl) (by kernel_rfl) ((opens_int Tryz.underlying3) m) (opensF_cons (by kernel_rfl) (by kernel_rfl) ((opens_int Tryz.underlying3) m) (opensF_cons (by kernel_rfl) (by kernel_rfl) (opens25 m) (opensF_cons (by kernel_rfl) (by kernel_rfl) (opens26 m) (opensF_cons (by kernel_rfl) (by kernel_rfl) ((opens_int Tryz.underlying3) m) (opensF_cons (by kernel_rfl) (by kernel_rfl) ((opens_int Tryz.underlying3) m) (opensF_cons (by kernel_rfl) (by kernel_rfl) (opens27 m) (opensF_cons (by kernel_rfl) (by kernel_rfl) ((opens_int Tryz.underlying3) m) (opensF_cons (by kernel_rfl) (by kernel_rfl) ((opens_int Tryz.underlying3) m) (opensF_one (by kernel_rfl) (by kernel_rfl) (by kernel_rfl) (opensB_slice Tryz.underlying28 ((by kernel_rfl : Tryz.prog.cellsOf 30 = 19).trans (sz30 m).symm) (opensU30 m)))))))))))))) H enc w base spare held fuel cs x hf hx
    exact ⟨a, ha, Ok30.mk a hok.1 hok.2.1 hok.2.2.1 hok.2.2.2.1 hok.2.2.2.2.1 hok.2.2.2.2.2.1 hok.2.2.2.2.2.2.1 hok.2.2.2.2.2.2.2.1 hok.2.2.2.2.2.2.2.2.1 hok.2.2.2.2.2.2.2.2.2.1 hok.2.2.2.2.2.2.2.2.2.2⟩
theorem opens30 : Opens Tryz.prog 30 k30 Ok30 := fun m H enc w base spare held fuel cs x hf hx => by
  obtain ⟨a, ha, hok⟩ := opensU30 m H enc w base spare held fuel cs x hf hx
  exact ⟨a, ⟨m, ha⟩, hok⟩
set_option maxRecDepth 100000 in
theorem lifted (os : Os) (started : os.Started) (H : Type) (enc : TypeId × Value → H) :
    ReturnsInHanded {} Tryz.checked os 4 .any (Rows.fnExactPlanUsesSpec.pre6 enc Tryz.prog Tryz.f4 Rows.fnExactPlanUsesRow.domain false) (Rows.fnExactPlanUsesSpec.post enc Tryz.prog Tryz.f4 false true false false) := by
  refine returnsInHanded_of_change_sized (C := Tryz.checked) own started (by kernel_rfl) Tryz.func4
    (ChangeSpec.witness6 (enc := enc) (C := Tryz.checked) false ⟨#[], #[.agg #[.int .i64 0, .int .i64 0, .int .i64 0, .bool false, .int .i64 0, .int .i64 0, .int .i64 0, .int .i64 0, .int .i64 0, .int .i64 0, .int .i64 0, .int .i64 0, .slice none 0 0, .int .i64 0, .int .i64 0, .slice none 0 0, .int .i64 0, .int .i64 0, .slice none 0 0], .int .i64 0], []⟩ 8 (by kernel_rfl) (by kernel_rfl) (by kernel_rfl) (by kernel_rfl)) ?_
  intro W base args ds gs before hval0 hW hcnd hsz0 _
  have hval : ∀ (j : Nat) t v, Tryz.f4.params[j]? = some t → args[j]? = some v → Value.okWide Tryz.prog W .any base t v := hval0
  have hW' := hW
  obtain ⟨p, q, hA0, hV, rfl, hfz, hnd⟩ := hW
  have hA : DataW.TrodAll enc Tryz.prog W 0 (fun _ => true) true Tryz.f4.params.toList args.toList ds p := hA0
  rw [Tryz.params4] at hA hval
  obtain ⟨v0, vs0, d0, ds0, p0, q0, hargs, rfl, rfl, h0, r0⟩ := trodAll_cons hA
  obtain ⟨v1, vs1, d1, ds1, p1, q1, rfl, rfl, rfl, h1, r1⟩ := trodAll_cons r0
  obtain ⟨rfl, rfl, rfl⟩ := trodAll_nil r1
  obtain rfl : args = #[v0, v1] := by cases args; simp_all
  obtain ⟨rfl, rfl⟩ := trodVars_none hV
  obtain ⟨cs0, rfl, hsz0⟩ := okWide_struct Tryz.underlying30 (hval 0 30 v0 rfl rfl)
  have k0_ := h0
  have lt0 : ∀ x ∈ p0, x.block < W.heap.size := by obtain ⟨m, hm⟩ := k0_; exact DataW.trod_lt m _ _ _ hm
  obtain ⟨x0, hK0, ok0⟩ := opens30.at_ h0
  obtain ⟨a1, rfl, rfl, rfl, w1⟩ := open_int Tryz.underlying3 (hval 1 3 v1 rfl rfl) h1
  clear hA0 hval0
  refine (Pl.law_uses x0 a1 cs0.toList W hK0 ok0).mono fun e W' ⟨he, bel⟩ => ?_
  subst he
  exact ⟨_, rfl, _, _, _, [], _, [], hW', trodAll_mk1 (shut_bool Tryz.underlying4 _), (trodAll_cons_mk (Below.trod laidOut (by kernel_rfl) (of_decide_eq_true (by kernel_rfl)) k0_ bel lt0) (trodAll_cons_mk (shut_int Tryz.underlying3 w1) trodAll_mk0)), rfl, bel.frame _, fun h => by cases h⟩
theorem over : Rows.fnExactPlanUsesRow.holds Tryz.pinned (OpenSpec.ofChange Rows.fnExactPlanUsesSpec) :=
  OpenClaim.holds_of_wide 4 Tryz.f4 rfl rfl rfl rfl rfl rfl rfl ⟨rfl, rfl, rfl, rfl, rfl⟩ rfl rfl rfl rfl rfl (by kernel_rfl) Tryz.func4 (by kernel_rfl)
    (of_decide_eq_true (by kernel_rfl)) (by unfold Func.isWrapper; first | (rw [if_pos (by decide +kernel)]; kernel_rfl) | (rw [if_neg (by decide +kernel)]; exact ⟨rfl, rfl⟩))
    (fun os started H enc _ => lifted os started H enc)
theorem proved : Rows.FnExactPlanUsesSaid := over
#print axioms proved
end Go.Proofs.YtlpgnkndjmfcjaaGreat.fnExactPlanUses
namespace Go.Proofs.YtlpgnkndjmfcjaaGreat
/-- The row, under a short name, for the claim. -/
theorem fnExactPlanUses_holds : Rows.FnExactPlanUsesSaid := fnExactPlanUses.proved
end Go.Proofs.YtlpgnkndjmfcjaaGreat
