-- Written by wip/tools/pp.py and tied.py, a program of this session over the kit's printer: not the kit's own print
import Derived.Test.YtgcplipimcbhlaaDoorRows
import Derived.Test.YtgcplipimcbhlaaDoorCards
import Derived.Test.YtgcplipimcbhlaaDoorTie
import Derived.LaidMore
import Derived.Stop.Joined
import Derived.Stop.LaidErr
import Derived.Lib.LaidTab
import Derived.SevenTiedAt
import Derived.Test.YtgcplipimcbhlaaDoorPFnExactZTextx4
import Derived.Test.YtgcplipimcbhlaaDoorPureFnExactZText
import Derived.Test.YtgcplipimcbhlaaDoorOpen
import Derived.WalkKit
import Derived.ProofKit
import Derived.OpenShut
import Derived.ShutString
import Derived.ChangeOld
import Derived.Below
import Derived.SizedLaws
namespace Go.Proofs.YtgcplipimcbhlaaDoor.fnExactZText
open Go.ChangeShapes Go.WideShapes Go.ChangeAt Go.RowKit Go.Proofs.YtgcplipimcbhlaaDoorW.PrintWords Go.Proofs.YtgcplipimcbhlaaDoor.Open Go.Proofs.YtgcplipimcbhlaaDoor.PFnExactZText
open Go.ChangeMaps (open_string shut_string)
set_option linter.unusedVariables false
theorem own : ownKnob Tryd.prog.godebug = none := by kernel_rfl
theorem laidOut : laidOutB Tryd.prog = true := by kernel_rfl
theorem opens28 : Opens Tryd.prog 28 (Kd.slice 3 (Kd.int .i64)) (fun x => (x.length ≤ maxLen ∧ ∀ y0 ∈ x, (Lit.int .i64 y0).wf = true)) := opens_slice Tryd.underlying28 (by kernel_rfl) (opens_int Tryd.underlying3)
theorem opens67 : Opens Tryd.prog 67 k67 (fun x => (((x.f0.length ≤ maxLen ∧ ∀ y0 ∈ x.f0, (Lit.int .i64 y0).wf = true)) ∧ ((Lit.int .i64 x.f1).wf = true))) :=
  opens_of (f := (· + 1)) (fun m => opensB_iso _ (fun y => ⟨y.1, y.2⟩) (fun _ => rfl) (opensB_struct Tryd.underlying67 (l := [_, _]) rfl (tot := 2) (by kernel_rfl) (opensF_cons (by kernel_rfl) (by kernel_rfl) (opens28 m) (opensF_one (by kernel_rfl) (by kernel_rfl) (by kernel_rfl) ((opens_int Tryd.underlying3) m))))) (fun m => Nat.le_succ m)
theorem opens33 : Opens Tryd.prog 33 (Kd.slice 67 k67) (fun x => (x.length ≤ maxLen ∧ ∀ y0 ∈ x, (((y0.f0.length ≤ maxLen ∧ ∀ y1 ∈ y0.f0, (Lit.int .i64 y1).wf = true)) ∧ ((Lit.int .i64 y0.f1).wf = true)))) := opens_slice Tryd.underlying33 (by kernel_rfl) opens67
/-- The door's own heap meets the condition: closed facts. -/
theorem door_met (os : Os) (args : Array Value) : laidMetH Tryd.prog Rows.fnExactZTextRow.laid ((World.doorLaid Tryd.prog 72 os).forCall (fun _ _ => 0) ⟨#[], args, []⟩).memory :=
  laidMetH_of_parts3 (fuel := 8) (laidMet_of_run' 8 (by kernel_rfl) (by kernel_rfl)) (by kernel_rfl) (by kernel_rfl)
/-- What the condition gives the walk: the table of the powers of ten. -/
theorem tab_of {W : World} (h : laidMetH Tryd.prog Rows.fnExactZTextRow.laid W) : Lib.TabIs Tryd.prog W "internal/strconv.uint64pow10" .u64 Lib.pow10Tab := by
  rw [MakeChecks.laidMetH_plain _ _ _ (by kernel_rfl)] at h
  have e : (Rows.laid_internal_strconv_uint64pow10 : DataW Unit) = Lib.tabData .u64 Lib.pow10Tab := by kernel_rfl
  have h1 := laidMet.tail (laidMet.tail (h))
  rw [e] at h1
  exact Lib.tabIs_of_head (g := 3) (by kernel_rfl) (by kernel_rfl) Tryd.underlying142 Tryd.underlying109 (by kernel_rfl) (by kernel_rfl) h1
set_option maxRecDepth 100000 in
theorem lifted (os : Os) (started : os.Started) (H : Type) (enc : TypeId × Value → H) :
    ReturnsInHanded {} Tryd.checked os 5 .any (fun w args => (Rows.fnExactZTextSpec.pre enc Tryd.prog Tryd.f5 [] false w args ∧ laidMetH Tryd.prog Rows.fnExactZTextRow.laid w) ∧ sizedMet enc Tryd.prog Tryd.f5 (OpenSpec.ofChange Rows.fnExactZTextSpec) false w args) (Rows.fnExactZTextSpec.post enc Tryd.prog Tryd.f5 false true false false) := by
  refine returnsInHanded_of_change_and (C := Tryd.checked) (X := (fun w _ => laidMetH Tryd.prog Rows.fnExactZTextRow.laid w)) (fun _ _ _ hh h => h.of_heap hh) own started (by kernel_rfl) Tryd.func5
    (ChangeSpec.witness_shaped (enc := enc) (C := Tryd.checked) (os := os) (X := (fun w _ => laidMetH Tryd.prog Rows.fnExactZTextRow.laid w)) false (World.doorLaid Tryd.prog 72 os) #[.slice none 0 0] 8 rfl (World.shaped_of_RefB (by kernel_rfl) (by kernel_rfl)) (by kernel_rfl) (by kernel_rfl) (by kernel_rfl) (door_met os _)) ?_
  intro W base args ds gs before hval0 hW _ hsz0 hL _
  have hval : ∀ (j : Nat) t v, Tryd.f5.params[j]? = some t → args[j]? = some v → Value.okWide Tryd.prog W .any base t v := hval0
  have hW' := hW
  obtain ⟨p, q, hA0, hV, rfl, hfz, hnd⟩ := hW
  have hA : DataW.TrodAll enc Tryd.prog W 0 (fun _ => true) true Tryd.f5.params.toList args.toList ds p := hA0
  rw [Tryd.params5] at hA hval
  obtain ⟨v0, vs0, d0, ds0, p0, q0, hargs, rfl, rfl, h0, r0⟩ := trodAll_cons hA
  obtain ⟨rfl, rfl, rfl⟩ := trodAll_nil r0
  obtain rfl : args = #[v0] := by cases args; simp_all
  obtain ⟨rfl, rfl⟩ := trodVars_none hV
  obtain ⟨a0, len0, cap0, rfl⟩ := okWide_slice Tryd.underlying33 (hval 0 33 v0 rfl rfl)
  have k0_ := h0
  have lt0 : ∀ x ∈ p0, x.block < W.heap.size := by obtain ⟨m, hm⟩ := k0_; exact DataW.trod_lt m _ _ _ hm
  obtain ⟨l0, rfl, hc0, hr0, ok0⟩ := opens33.slice_ h0
  clear hA0 hval0
  refine (laws_FnExactZText.walk Pure.FnExactZText a0 cap0 l0 W hr0 hc0 ok0 (tab_of hL)).mono fun e W' ⟨he, bel⟩ => ?_
  subst he
  exact ⟨_, rfl, _, _, _, [], _, [], hW', trodAll_mk1 (shut_bool Tryd.underlying4 _), (trodAll_cons_mk (Below.trod laidOut (by kernel_rfl) (of_decide_eq_true (by kernel_rfl)) k0_ bel lt0) trodAll_mk0), rfl, bel.frame _, fun h => by cases h⟩
theorem over : Rows.fnExactZTextRow.holds Tryd.pinned (OpenSpec.ofChange Rows.fnExactZTextSpec) :=
  OpenClaim.holds_of_wide 5 Tryd.f5 rfl rfl rfl rfl rfl rfl rfl ⟨rfl, rfl, rfl, rfl, rfl⟩ rfl rfl rfl rfl rfl (by kernel_rfl) Tryd.func5 (by kernel_rfl)
    (of_decide_eq_true (by kernel_rfl)) (by unfold Func.isWrapper; first | (rw [if_pos (by decide +kernel)]; kernel_rfl) | (rw [if_neg (by decide +kernel)]; exact ⟨rfl, rfl⟩))
    (fun os started H enc _ => lifted os started H enc)
theorem over_card : Claim7.holds Tryd.pinned (.plain (OpenSpec.ofChange Rows.fnExactZTextSpec)) Rows.fnExactZTextCard :=
  Claim7.holds_tied_plain_at .later [] [.data, .data, .data] true (true, "025cda73a6af872bdf6741f4b41e8666ed846776c1bc50e1e77b2e458440cfa0") true
    over (fun _ h => by cases h) (by kernel_rfl) (fun _ h => by cases h) fnExactZText_row_tie rfl ⟨rfl, rfl⟩ (by kernel_rfl) rfl
    (fun f fn hf hfn => by
      obtain rfl : f = 5 := Option.some.inj ((show Tryd.prog.funcNamed Rows.fnExactZTextRow.func = some 5 by kernel_rfl).symm.trans hf) |>.symm
      obtain rfl : fn = Tryd.f5 := (Option.some.inj (Tryd.func5.symm.trans hfn)).symm
      exact ⟨by kernel_rfl, fun j t ht => by
        rw [Tryd.params5] at ht
        have hm : t ∈ [33] := by simpa using Array.mem_of_getElem? ht
        have hall : ([33].all fun u => !Tryd.prog.wantsStandIn u) = true := by kernel_rfl
        exact (show Tryd.prog.wantsStandIn t = false by simpa using List.all_eq_true.1 hall t hm)⟩)
    (by kernel_rfl)
theorem proved : Rows.FnExactZTextCardSaid := over_card
#print axioms proved
end Go.Proofs.YtgcplipimcbhlaaDoor.fnExactZText
namespace Go.Proofs.YtgcplipimcbhlaaDoor
/-- The row, under a short name, for the claim. -/
theorem fnExactZText_holds : Rows.FnExactZTextCardSaid := fnExactZText.proved
end Go.Proofs.YtgcplipimcbhlaaDoor
