-- Written by wip/tools/pp.py, a program of this session over the kit's printer: not the kit's own print
import Derived.Test.YtpbmabfodfcfmaaRows
import Derived.Test.YtpbmabfodfcfmaaPFnExactZNegx8
import Derived.Test.YtpbmabfodfcfmaaPureFnExactZNeg
import Derived.Test.YtpbmabfodfcfmaaOpen
import Derived.WalkKit
import Derived.ProofKit
import Derived.OpenShut
import Derived.ShutString
import Derived.ChangeOld
import Derived.Below
import Derived.SizedLaws
namespace Go.Proofs.Ytpbmabfodfcfmaa.fnExactZNeg
open Go.ChangeShapes Go.WideShapes Go.ChangeAt Go.RowKit Go.Proofs.YtpbmabfodfcfmaaW.PrintWords Go.Proofs.Ytpbmabfodfcfmaa.Open Go.Proofs.Ytpbmabfodfcfmaa.PFnExactZNeg
open Go.ChangeMaps (open_string shut_string)
set_option linter.unusedVariables false
theorem own : ownKnob Try.prog.godebug = none := by kernel_rfl
theorem laidOut : laidOutB Try.prog = true := by kernel_rfl
theorem opens23 : Opens Try.prog 23 (Kd.slice 3 (Kd.int .i64)) (fun x => (x.length ≤ maxLen ∧ ∀ y0 ∈ x, (Lit.int .i64 y0).wf = true)) := opens_slice Try.underlying23 (by kernel_rfl) (opens_int Try.underlying3)
theorem opens78 : Opens Try.prog 78 k78 (fun x => (((x.f0.length ≤ maxLen ∧ ∀ y0 ∈ x.f0, (Lit.int .i64 y0).wf = true)) ∧ ((Lit.int .i64 x.f1).wf = true))) :=
  opens_of (f := (· + 1)) (fun m => opensB_iso _ (fun y => ⟨y.1, y.2⟩) (fun _ => rfl) (opensB_struct Try.underlying78 (l := [_, _]) rfl (tot := 2) (by kernel_rfl) (opensF_cons (by kernel_rfl) (by kernel_rfl) (opens23 m) (opensF_one (by kernel_rfl) (by kernel_rfl) (by kernel_rfl) ((opens_int Try.underlying3) m))))) (fun m => Nat.le_succ m)
theorem opens30 : Opens Try.prog 30 (Kd.slice 78 k78) (fun x => (x.length ≤ maxLen ∧ ∀ y0 ∈ x, (((y0.f0.length ≤ maxLen ∧ ∀ y1 ∈ y0.f0, (Lit.int .i64 y1).wf = true)) ∧ ((Lit.int .i64 y0.f1).wf = true)))) := opens_slice Try.underlying30 (by kernel_rfl) opens78
set_option maxRecDepth 100000 in
theorem lifted (os : Os) (started : os.Started) (H : Type) (enc : TypeId × Value → H) :
    ReturnsInHanded {} Try.checked os 7 .any (Rows.fnExactZNegSpec.pre6 enc Try.prog Try.f7 Rows.fnExactZNegRow.domain false) (Rows.fnExactZNegSpec.post enc Try.prog Try.f7 false true false false) := by
  refine returnsInHanded_of_change_sized (C := Try.checked) own started (by kernel_rfl) Try.func7
    (ChangeSpec.witness6 (enc := enc) (C := Try.checked) false ⟨#[], #[.slice none 0 0], []⟩ 8 (by kernel_rfl) (by kernel_rfl) (by kernel_rfl) (by kernel_rfl)) ?_
  intro W base args ds gs before hval0 hW hcnd hsz0 _
  have hval : ∀ (j : Nat) t v, Try.f7.params[j]? = some t → args[j]? = some v → Value.okWide Try.prog W .any base t v := hval0
  have hW' := hW
  obtain ⟨p, q, hA0, hV, rfl, hfz, hnd⟩ := hW
  have hA : DataW.TrodAll enc Try.prog W 0 (fun _ => true) true Try.f7.params.toList args.toList ds p := hA0
  rw [Try.params7] at hA hval
  obtain ⟨v0, vs0, d0, ds0, p0, q0, hargs, rfl, rfl, h0, r0⟩ := trodAll_cons hA
  obtain ⟨rfl, rfl, rfl⟩ := trodAll_nil r0
  obtain rfl : args = #[v0] := by cases args; simp_all
  obtain ⟨rfl, rfl⟩ := trodVars_none hV
  obtain ⟨a0, len0, cap0, rfl⟩ := okWide_slice Try.underlying30 (hval 0 30 v0 rfl rfl)
  have k0_ := h0
  have lt0 : ∀ x ∈ p0, x.block < W.heap.size := by obtain ⟨m, hm⟩ := k0_; exact DataW.trod_lt m _ _ _ hm
  obtain ⟨l0, rfl, hc0, hr0, ok0⟩ := opens30.slice_ h0
  clear hA0 hval0
  refine (laws_FnExactZNeg.walk Pure.FnExactZNeg a0 cap0 l0 W hr0 hc0 ok0).mono fun e W' ⟨he, bel⟩ => ?_
  subst he
  exact ⟨_, rfl, _, _, _, [], _, [], hW', trodAll_mk1 (shut_bool Try.underlying4 _), (trodAll_cons_mk (Below.trod laidOut (by kernel_rfl) (of_decide_eq_true (by kernel_rfl)) k0_ bel lt0) trodAll_mk0), rfl, bel.frame _, fun h => by cases h⟩
theorem over : Rows.fnExactZNegRow.holds Try.pinned (OpenSpec.ofChange Rows.fnExactZNegSpec) :=
  OpenClaim.holds_of_wide 7 Try.f7 rfl rfl rfl rfl rfl rfl rfl ⟨rfl, rfl, rfl, rfl, rfl⟩ rfl rfl rfl rfl rfl (by kernel_rfl) Try.func7 (by kernel_rfl)
    (of_decide_eq_true (by kernel_rfl)) (by unfold Func.isWrapper; first | (rw [if_pos (by decide +kernel)]; kernel_rfl) | (rw [if_neg (by decide +kernel)]; exact ⟨rfl, rfl⟩))
    (fun os started H enc _ => lifted os started H enc)
theorem proved : Rows.FnExactZNegSaid := over
#print axioms proved
end Go.Proofs.Ytpbmabfodfcfmaa.fnExactZNeg
namespace Go.Proofs.Ytpbmabfodfcfmaa
/-- The row, under a short name, for the claim. -/
theorem fnExactZNeg_holds : Rows.FnExactZNegSaid := fnExactZNeg.proved
end Go.Proofs.Ytpbmabfodfcfmaa
