-- Written by wip/tools/pp.py, a program of this session over the kit's printer: not the kit's own print
import Derived.Test.YtpbmabfodfcfmaaPFnExactZNegx0
import Derived.Test.YtpbmabfodfcfmaaPFnExactZNegx4
namespace Go.Proofs.Ytpbmabfodfcfmaa.PFnExactZNeg
open Go.RowKit Go.Proofs.YtpbmabfodfcfmaaW.PrintWords Go.Proofs.YtpbmabfodfcfmaaW.PrintLast Go.Proofs.YtpbmabfodfcfmaaW.PrintMore
attribute [local go_sem] max2_int min2_int max_two min_two max_three min_three max_four min_four   -- for this text's walks alone
set_option linter.unusedVariables false
set_option linter.unusedSimpArgs false

/-! ### slices_ContainsFunc_int_int__impl_RowOk_1: function 98 -/
def slices_ContainsFunc_int_int__impl_RowOk_1.f (k : Nat) (l0 : List Int)  : Option (Bool) := (slices_IndexFunc_int_int__impl_RowOk_1.f k l0).bind fun t174 => (some (decide (t174 ≥ 0)))
theorem slices_ContainsFunc_int_int__impl_RowOk_1.mono : ∀ a0 k, LeO (slices_ContainsFunc_int_int__impl_RowOk_1.f k a0) (slices_ContainsFunc_int_int__impl_RowOk_1.f (k + 1) a0) := by
 intro a0 k
 unfold slices_ContainsFunc_int_int__impl_RowOk_1.f
 repeat' first
   | (with_reducible exact slices_IndexFunc_int_int__impl_RowOk_1.mono _ _)
   | (with_reducible exact LeO.refl _)
   | (with_reducible exact LeO.none _)
   | (with_reducible refine LeO.ite ?_ ?_)
   | (with_reducible refine LeO.bind ?_ (fun _ => ?_))
   | exact LeO.none _
   | refine LeO.ite ?_ ?_
   | refine LeO.bind ?_ (fun _ => ?_)
set_option maxHeartbeats 8000000 in
set_option maxRecDepth 100000 in
theorem slices_ContainsFunc_int_int__impl_RowOk_1.calls (k : Nat) (A0 : Option Addr) (c0 : Nat) (l0 : List Int)  (r : Bool) (w : World) (hr0 : Kd.C (Kd.int .i64) w A0 l0.length l0) (hc0 : l0.length ≤ c0) (h : slices_ContainsFunc_int_int__impl_RowOk_1.f k l0 = some r) :
  Calls Try.prog 98 #[.slice A0 l0.length c0, .func (.func 99) #[] #[]] w fun e w' => e = .returned (.bool r) ∧ Drawn0 w w' := by
 have HR0 := Aside0.mk hr0
 have HC0 := Aside0.mk hc0
 clear hr0 hc0
 have H : ((slices_IndexFunc_int_int__impl_RowOk_1.f k l0).bind fun t174 => (some (decide (t174 ≥ 0)))) = some r := h
 clear h
 replace H := Option.bind_eq_some_iff.mp H
 obtain ⟨t174, A30, H⟩ := H
 replace H : (some (decide (t174 ≥ 0))) = some r := H
 have A3 := Aside0.mk A30
 clear A30
 obtain rfl := Option.some.inj H
 go_enter Try.func98, Try.ntmps98
 go_wp2_with (first | (go_at_call 110; (with_reducible refine (slices_IndexFunc_int_int__impl_RowOk_1.calls k _ _ l0  t174 _ ?side1 ?side2 A3.out).mono ?_); (case side1 => repeat (first | exact HR0.out | (with_reducible refine Kd.C_alloc ?_ _) | (with_reducible refine Kd.C_drewN ?_ _) | (with_reducible refine Kd.C_drew ?_))); (case side2 => exact HC0.out); rintro e w' ⟨rfl, ⟨nd, rfl⟩⟩))
 go_ret
 exact ⟨by first | rfl | (simp; done) | (simp [*]; done), zdw⟩

/-! ### impl_RowOk: function 61 -/
def impl_RowOk.f (k : Nat) (l0 : List Int) : Option (Bool) := if (l0.length : Int) ≥ 1 then (if (l0.length : Int) ≤ 6 then ((slices_ContainsFunc_int_int__impl_RowOk_1.f k l0).bind fun t175 => (some (!t175))) else (some false)) else (some false)
theorem impl_RowOk.mono : ∀ a0 k, LeO (impl_RowOk.f k a0) (impl_RowOk.f (k + 1) a0) := by
 intro a0 k
 unfold impl_RowOk.f
 repeat' first
   | (with_reducible exact slices_ContainsFunc_int_int__impl_RowOk_1.mono _ _)
   | (with_reducible exact LeO.refl _)
   | (with_reducible exact LeO.none _)
   | (with_reducible refine LeO.ite ?_ ?_)
   | (with_reducible refine LeO.bind ?_ (fun _ => ?_))
   | exact LeO.none _
   | refine LeO.ite ?_ ?_
   | refine LeO.bind ?_ (fun _ => ?_)
set_option maxHeartbeats 8000000 in
set_option maxRecDepth 100000 in
theorem impl_RowOk.calls (k : Nat) (A0 : Option Addr) (c0 : Nat) (l0 : List Int) (r : Bool) (w : World) (hr0 : Kd.C (Kd.int .i64) w A0 l0.length l0) (hc0 : l0.length ≤ c0) (h : impl_RowOk.f k l0 = some r) :
  Calls Try.prog 61 #[.slice A0 l0.length c0] w fun e w' => e = .returned (.bool r) ∧ Drawn0 w w' := by
 have HR0 := Aside0.mk hr0
 have HC0 := Aside0.mk hc0
 clear hr0 hc0
 have H : (if (l0.length : Int) ≥ 1 then (if (l0.length : Int) ≤ 6 then ((slices_ContainsFunc_int_int__impl_RowOk_1.f k l0).bind fun t175 => (some (!t175))) else (some false)) else (some false)) = some r := h
 clear h
 by_cases c2 : (l0.length : Int) ≥ 1
 ·rw [if_pos c2] at H
  have c2b0 : decide (1 ≤ (l0.length : Int)) = true := decide_eq_true c2
  have c2b1 : decide (1 ≤ l0.length) = true := decide_eq_true (by omega)
  clear c2
  by_cases c3 : (l0.length : Int) ≤ 6
  ·rw [if_pos c3] at H
   have c3b0 : decide ((l0.length : Int) ≤ 6) = true := decide_eq_true c3
   have c3b1 : decide (l0.length ≤ 6) = true := decide_eq_true (by omega)
   clear c3
   replace H := Option.bind_eq_some_iff.mp H
   obtain ⟨t175, A40, H⟩ := H
   replace H : (some (!t175)) = some r := H
   have A4 := Aside0.mk A40
   clear A40
   obtain rfl := Option.some.inj H
   go_enter Try.func61, Try.ntmps61
   go_wp2_with (first | (go_at_call 98; (with_reducible refine (slices_ContainsFunc_int_int__impl_RowOk_1.calls k _ _ l0  t175 _ ?side1 ?side2 A4.out).mono ?_); (case side1 => repeat (first | exact HR0.out | (with_reducible refine Kd.C_alloc ?_ _) | (with_reducible refine Kd.C_drewN ?_ _) | (with_reducible refine Kd.C_drew ?_))); (case side2 => exact HC0.out); rintro e w' ⟨rfl, ⟨nd, rfl⟩⟩))
   go_ret
   exact ⟨by first | rfl | (simp; done) | (simp [*]; done), zdw⟩
  ·rw [if_neg c3] at H
   have c3b0 : decide ((l0.length : Int) ≤ 6) = false := decide_eq_false c3
   have c3b1 : decide (l0.length ≤ 6) = false := decide_eq_false (by omega)
   clear c3
   obtain rfl := Option.some.inj H
   go_enter Try.func61, Try.ntmps61
   go_wp2
   go_ret
   exact ⟨by first | rfl | (simp; done) | (simp [*]; done), zdw⟩
 ·rw [if_neg c2] at H
  have c2b0 : decide (1 ≤ (l0.length : Int)) = false := decide_eq_false c2
  have c2b1 : decide (1 ≤ l0.length) = false := decide_eq_false (by omega)
  clear c2
  obtain rfl := Option.some.inj H
  go_enter Try.func61, Try.ntmps61
  go_wp2
  go_ret
  exact ⟨by first | rfl | (simp; done) | (simp [*]; done), zdw⟩

end Go.Proofs.Ytpbmabfodfcfmaa.PFnExactZNeg
