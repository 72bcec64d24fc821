-- Written by wip/tools/pp.py, a program of this session over the kit's printer: not the kit's own print
import Derived.Test.YtjajepomgbpjpaaRows
import Derived.Test.YtjajepomgbpjpaaPFnExactTestOkx3
import Derived.Test.YtjajepomgbpjpaaPureFnExactTestOk
import Derived.Test.YtjajepomgbpjpaaOpen
import Derived.WalkKit
import Derived.ProofKit
import Derived.OpenShut
import Derived.ShutString
import Derived.ChangeOld
import Derived.Below
import Derived.SizedLaws
namespace Go.Proofs.Ytjajepomgbpjpaa.fnExactTestOk
open Go.ChangeShapes Go.WideShapes Go.ChangeAt Go.RowKit Go.Proofs.YtjajepomgbpjpaaW.PrintWords Go.Proofs.Ytjajepomgbpjpaa.Open Go.Proofs.Ytjajepomgbpjpaa.PFnExactTestOk
open Go.ChangeMaps (open_string shut_string)
set_option linter.unusedVariables false
theorem own : ownKnob Try.prog.godebug = none := by kernel_rfl
theorem laidOut : laidOutB Try.prog = true := by kernel_rfl
theorem opens28 : Opens Try.prog 28 k28 (fun x => (((Lit.int .i64 x.f0).wf = true) ∧ (((Lit.int .i64 x.f1).wf = true) ∧ (((Lit.int .i64 x.f2).wf = true) ∧ ((Lit.int .i64 x.f3).wf = true))))) :=
  opens_of (f := (· + 1)) (fun m => opensB_iso _ (fun y => ⟨y.1, y.2.1, y.2.2.1, y.2.2.2⟩) (fun _ => rfl) (opensB_struct Try.underlying28 (l := [_, _, _, _]) rfl (tot := 4) (by kernel_rfl) (opensF_cons (by kernel_rfl) (by kernel_rfl) ((opens_int Try.underlying3) m) (opensF_cons (by kernel_rfl) (by kernel_rfl) ((opens_int Try.underlying3) m) (opensF_cons (by kernel_rfl) (by kernel_rfl) ((opens_int Try.underlying3) m) (opensF_one (by kernel_rfl) (by kernel_rfl) (by kernel_rfl) ((opens_int Try.underlying3) m))))))) (fun m => Nat.le_succ m)
theorem opens34 : Opens Try.prog 34 k34 (fun x => (((Lit.int .i64 x.f0).wf = true) ∧ ((True) ∧ (((((Lit.int .i64 x.f2.f0).wf = true) ∧ (((Lit.int .i64 x.f2.f1).wf = true) ∧ (((Lit.int .i64 x.f2.f2).wf = true) ∧ ((Lit.int .i64 x.f2.f3).wf = true))))) ∧ ((((Lit.int .i64 x.f3.f0).wf = true) ∧ (((Lit.int .i64 x.f3.f1).wf = true) ∧ (((Lit.int .i64 x.f3.f2).wf = true) ∧ ((Lit.int .i64 x.f3.f3).wf = true))))))))) :=
  opens_of (f := (· + 1)) (fun m => opensB_iso _ (fun y => ⟨y.1, y.2.1, y.2.2.1, y.2.2.2⟩) (fun _ => rfl) (opensB_struct Try.underlying34 (l := [_, _, _, _]) rfl (tot := 10) (by kernel_rfl) (opensF_cons (by kernel_rfl) (by kernel_rfl) ((opens_int Try.underlying3) m) (opensF_cons (by kernel_rfl) (by kernel_rfl) ((opens_bool Try.underlying4) m) (opensF_cons (by kernel_rfl) (by kernel_rfl) (opens28 m) (opensF_one (by kernel_rfl) (by kernel_rfl) (by kernel_rfl) (opens28 m))))))) (fun m => Nat.le_succ m)
set_option maxRecDepth 100000 in
theorem lifted (os : Os) (started : os.Started) (H : Type) (enc : TypeId × Value → H) :
    ReturnsInHanded {} Try.checked os 7 .any (Rows.fnExactTestOkSpec.pre6 enc Try.prog Try.f7 Rows.fnExactTestOkRow.domain false) (Rows.fnExactTestOkSpec.post enc Try.prog Try.f7 false true false false) := by
  refine returnsInHanded_of_change_sized (C := Try.checked) own started (by kernel_rfl) Try.func7
    (ChangeSpec.witness6 (enc := enc) (C := Try.checked) false ⟨#[], #[.agg #[.int .i64 0, .bool false, .int .i64 0, .int .i64 0, .int .i64 0, .int .i64 0, .int .i64 0, .int .i64 0, .int .i64 0, .int .i64 0], .int .i64 0], []⟩ 8 (by kernel_rfl) (by kernel_rfl) (by kernel_rfl) (by kernel_rfl)) ?_
  intro W base args ds gs before hval0 hW hcnd hsz0 _
  have hval : ∀ (j : Nat) t v, Try.f7.params[j]? = some t → args[j]? = some v → Value.okWide Try.prog W .any base t v := hval0
  have hW' := hW
  obtain ⟨p, q, hA0, hV, rfl, hfz, hnd⟩ := hW
  have hA : DataW.TrodAll enc Try.prog W 0 (fun _ => true) true Try.f7.params.toList args.toList ds p := hA0
  rw [Try.params7] at hA hval
  obtain ⟨v0, vs0, d0, ds0, p0, q0, hargs, rfl, rfl, h0, r0⟩ := trodAll_cons hA
  obtain ⟨v1, vs1, d1, ds1, p1, q1, rfl, rfl, rfl, h1, r1⟩ := trodAll_cons r0
  obtain ⟨rfl, rfl, rfl⟩ := trodAll_nil r1
  obtain rfl : args = #[v0, v1] := by cases args; simp_all
  obtain ⟨rfl, rfl⟩ := trodVars_none hV
  obtain ⟨cs0, rfl, hsz0⟩ := okWide_struct Try.underlying34 (hval 0 34 v0 rfl rfl)
  have k0_ := h0
  have lt0 : ∀ x ∈ p0, x.block < W.heap.size := by obtain ⟨m, hm⟩ := k0_; exact DataW.trod_lt m _ _ _ hm
  obtain ⟨x0, hK0, ok0⟩ := opens34.at_ h0
  have hcs0 := k34_open hK0
  obtain rfl : cs0 = #[.int .i64 x0.f0, .bool x0.f1, .int .i64 x0.f2.f0, .int .i64 x0.f2.f1, .int .i64 x0.f2.f2, .int .i64 x0.f2.f3, .int .i64 x0.f3.f0, .int .i64 x0.f3.f1, .int .i64 x0.f3.f2, .int .i64 x0.f3.f3] := by apply Array.toList_inj.1; simpa [Value.cells] using hcs0
  obtain ⟨a1, rfl, rfl, rfl, w1⟩ := open_int Try.underlying3 (hval 1 3 v1 rfl rfl) h1
  clear hA0 hval0
  refine (laws_FnExactTestOk.walk Pure.FnExactTestOk x0.f0 x0.f1 x0.f2.f0 x0.f2.f1 x0.f2.f2 x0.f2.f3 x0.f3.f0 x0.f3.f1 x0.f3.f2 x0.f3.f3 a1 W  ok0.1 ok0.2.1 ok0.2.2.1.1 ok0.2.2.1.2.1 ok0.2.2.1.2.2.1 ok0.2.2.1.2.2.2 ok0.2.2.2.1 ok0.2.2.2.2.1 ok0.2.2.2.2.2.1 ok0.2.2.2.2.2.2 w1).mono fun e W' ⟨he, bel⟩ => ?_
  subst he
  exact ⟨_, rfl, _, _, _, [], _, [], hW', trodAll_mk1 (shut_bool Try.underlying4 _), (trodAll_cons_mk (Below.trod laidOut (by kernel_rfl) (of_decide_eq_true (by kernel_rfl)) k0_ bel lt0) (trodAll_cons_mk (shut_int Try.underlying3 w1) trodAll_mk0)), rfl, bel.frame _, fun h => by cases h⟩
theorem over : Rows.fnExactTestOkRow.holds Try.pinned (OpenSpec.ofChange Rows.fnExactTestOkSpec) :=
  OpenClaim.holds_of_wide 7 Try.f7 rfl rfl rfl rfl rfl rfl rfl ⟨rfl, rfl, rfl, rfl, rfl⟩ rfl rfl rfl rfl rfl (by kernel_rfl) Try.func7 (by kernel_rfl)
    (of_decide_eq_true (by kernel_rfl)) (by unfold Func.isWrapper; first | (rw [if_pos (by decide +kernel)]; kernel_rfl) | (rw [if_neg (by decide +kernel)]; exact ⟨rfl, rfl⟩))
    (fun os started H enc _ => lifted os started H enc)
theorem proved : Rows.FnExactTestOkSaid := over
#print axioms proved
end Go.Proofs.Ytjajepomgbpjpaa.fnExactTestOk
namespace Go.Proofs.Ytjajepomgbpjpaa
/-- The row, under a short name, for the claim. -/
theorem fnExactTestOk_holds : Rows.FnExactTestOkSaid := fnExactTestOk.proved
end Go.Proofs.Ytjajepomgbpjpaa
