-- Written by wip/tools/pp.py, a program of this session over the kit's printer: not the kit's own print
import Derived.Test.YtpbmabfodfcfmaaPFnZBentx0
import Derived.Test.YtpbmabfodfcfmaaPFnZBentx2
import Derived.Test.YtpbmabfodfcfmaaPFnZBentx4
import Derived.Test.YtpbmabfodfcfmaaPFnZBentx5
import Derived.Test.YtpbmabfodfcfmaaPFnZBentx6
import Derived.Test.YtpbmabfodfcfmaaPFnZBentx8
import Derived.Test.YtpbmabfodfcfmaaPFnZBentx10
namespace Go.Proofs.Ytpbmabfodfcfmaa.PFnZBent
open Go.RowKit Go.Proofs.YtpbmabfodfcfmaaW.PrintWords Go.Proofs.YtpbmabfodfcfmaaW.PrintLast Go.Proofs.YtpbmabfodfcfmaaW.PrintMore
attribute [local go_sem] max2_int min2_int max_two min_two max_three min_three max_four min_four   -- for this text's walks alone
set_option linter.unusedVariables false
set_option linter.unusedSimpArgs false

/-! ### laws_FnZBent: function 10 -/
def laws_FnZBent.f (k : Nat) (l0 : List Int) : Option (Bool) := if (l0.length : Int) > 1048576 then (some true) else ((spec_DrawZOk.f k l0).bind fun t327 => ((impl_ZOk.f k t327).bind fun t330 => ((spec_ZOk.f k t327).bind fun t331 => (if (t330 != t331) = true then (some false) else ((spec_ZOk.f k t327).bind fun t332 => (if t332 = true then (if (t327.length : Int) = 0 then (some true) else ((some (([] : List (S68)) : List (S68))).bind fun y333 => (if y333.length + t327.length < 4398046511104 then ((some (y333 ++ t327 : List (S68))).bind fun y336 => (if 0 < (y336.length : Int) then ((some (([] : List (S68)) : List (S68))).bind fun y340 => (if y340.length + t327.length < 4398046511104 then ((some (y340 ++ t327 : List (S68))).bind fun y343 => (if 0 < (t327.length : Int) then ((some (([(⟨(rd_T68 t327 0).f0, (rd_T68 t327 0).f1⟩ : S68)] : List (S68)) : List (S68))).bind fun y347 => (if y343.length + y347.length < 4398046511104 then ((some (y343 ++ y347 : List (S68))).bind fun y350 => ((some (([] : List (S68)) : List (S68))).bind fun y353 => (if y353.length + t327.length < 4398046511104 then ((some (y353 ++ t327 : List (S68))).bind fun y356 => (if 0 < (y356.length : Int) then ((impl_ZOk.f k (y336.set (0 : Int).toNat (⟨(rd_T68 y336 0).f0, 0⟩ : S68))).bind fun t360 => (if t360 = true then (some false) else ((impl_ZOk.f k y350).bind fun t361 => (if t361 = true then (some false) else ((impl_ZOk.f k (y356.set (0 : Int).toNat (⟨(rd_T68 y356 0).f0, 10001⟩ : S68))).bind fun t362 => (if t362 = true then (some false) else ((impl_ZGet.f k y350 ((rd_T68 t327 0).f0)).bind fun t364 => (if t364 = 0 then (if 1 ≤ (t327.length : Int) then ((impl_ZOk.f k (t327.drop 1)).bind fun t370 => (some t370)) else (none)) else (some false))))))))) else (none))) else (none)))) else (none))) else (none))) else (none))) else (none))) else (none)))) else ((impl_ZAdd.f k t327 ([] : List (S68))).bind fun bt371 => (if bt371.2 = true then (some false) else (if (bt371.1.length : Int) = 0 then ((impl_ZNeg.f k t327).bind fun t375 => (if (t375.length : Int) = 0 then ((impl_ZPos.f k t327).bind fun t378 => (some ((t378.length : Int) == 0))) else (some false))) else (some false))))))))))
theorem laws_FnZBent.mono : ∀ a0 k, LeO (laws_FnZBent.f k a0) (laws_FnZBent.f (k + 1) a0) := by
 intro a0 k
 unfold laws_FnZBent.f
 repeat' first
   | (with_reducible exact impl_ZAdd.mono _ _ _)
   | (with_reducible exact impl_ZGet.mono _ _ _)
   | (with_reducible exact impl_ZNeg.mono _ _)
   | (with_reducible exact impl_ZOk.mono _ _)
   | (with_reducible exact impl_ZPos.mono _ _)
   | (with_reducible exact spec_DrawZOk.mono _ _)
   | (with_reducible exact spec_ZOk.mono _ _)
   | (with_reducible exact LeO.refl _)
   | (with_reducible exact LeO.none _)
   | (with_reducible refine LeO.ite ?_ ?_)
   | (with_reducible refine LeO.bind ?_ (fun _ => ?_))
   | exact LeO.none _
   | refine LeO.ite ?_ ?_
   | refine LeO.bind ?_ (fun _ => ?_)
def laws_FnZBent.T13 : Bool × List (List Nat × List Nat) := (true, [([], []), ([], []), ([0, 1], [0, 1]), ([], []), ([3], [3]), ([4], [4]), ([5], [5]), ([2, 6, 2], [2, 6]), ([7, 7, 0, 1, 2, 3, 4, 5, 6, 7], [7])])
def laws_FnZBent.B13 : List Nat := [0, 0, 3, 0, 8, 24, 56, 127, 255]
theorem laws_FnZBent.tab13 : rtab .any (opsOf Try.f10 13) = laws_FnZBent.T13 := by kernel_rfl
theorem laws_FnZBent.bits13 : waitsOk laws_FnZBent.T13.2 laws_FnZBent.B13 = true := by kernel_rfl
set_option maxHeartbeats 8000000 in
set_option maxRecDepth 100000 in
theorem laws_FnZBent.calls (k : Nat) (A0 : Option Addr) (c0 : Nat) (l0 : List Int) (r : Bool) (w : World) (hr0 : Kd.C (Kd.int .u8) w A0 l0.length l0) (hc0 : l0.length ≤ c0) (h : laws_FnZBent.f k l0 = some r) (hr_ : r = true) :
  Calls Try.prog 10 #[.slice A0 l0.length c0] w fun e w' => e = .returned (.bool r) ∧ Below w.heap.size w w' := by
 have HR_ := Aside0.mk hr_
 clear hr_
 have hu68 := Try.underlying68
 have HR0 := Aside0.mk hr0
 have HC0 := Aside0.mk hc0
 clear hr0 hc0
 have HB := Aside0.mk (Below.refl w.heap.size w)
 have H : (if (l0.length : Int) > 1048576 then (some true) else ((spec_DrawZOk.f k l0).bind fun t327 => ((impl_ZOk.f k t327).bind fun t330 => ((spec_ZOk.f k t327).bind fun t331 => (if (t330 != t331) = true then (some false) else ((spec_ZOk.f k t327).bind fun t332 => (if t332 = true then (if (t327.length : Int) = 0 then (some true) else ((some (([] : List (S68)) : List (S68))).bind fun y333 => (if y333.length + t327.length < 4398046511104 then ((some (y333 ++ t327 : List (S68))).bind fun y336 => (if 0 < (y336.length : Int) then ((some (([] : List (S68)) : List (S68))).bind fun y340 => (if y340.length + t327.length < 4398046511104 then ((some (y340 ++ t327 : List (S68))).bind fun y343 => (if 0 < (t327.length : Int) then ((some (([(⟨(rd_T68 t327 0).f0, (rd_T68 t327 0).f1⟩ : S68)] : List (S68)) : List (S68))).bind fun y347 => (if y343.length + y347.length < 4398046511104 then ((some (y343 ++ y347 : List (S68))).bind fun y350 => ((some (([] : List (S68)) : List (S68))).bind fun y353 => (if y353.length + t327.length < 4398046511104 then ((some (y353 ++ t327 : List (S68))).bind fun y356 => (if 0 < (y356.length : Int) then ((impl_ZOk.f k (y336.set (0 : Int).toNat (⟨(rd_T68 y336 0).f0, 0⟩ : S68))).bind fun t360 => (if t360 = true then (some false) else ((impl_ZOk.f k y350).bind fun t361 => (if t361 = true then (some false) else ((impl_ZOk.f k (y356.set (0 : Int).toNat (⟨(rd_T68 y356 0).f0, 10001⟩ : S68))).bind fun t362 => (if t362 = true then (some false) else ((impl_ZGet.f k y350 ((rd_T68 t327 0).f0)).bind fun t364 => (if t364 = 0 then (if 1 ≤ (t327.length : Int) then ((impl_ZOk.f k (t327.drop 1)).bind fun t370 => (some t370)) else (none)) else (some false))))))))) else (none))) else (none)))) else (none))) else (none))) else (none))) else (none))) else (none)))) else ((impl_ZAdd.f k t327 ([] : List (S68))).bind fun bt371 => (if bt371.2 = true then (some false) else (if (bt371.1.length : Int) = 0 then ((impl_ZNeg.f k t327).bind fun t375 => (if (t375.length : Int) = 0 then ((impl_ZPos.f k t327).bind fun t378 => (some ((t378.length : Int) == 0))) else (some false))) else (some false))))))))))) = some r := h
 clear h
 by_cases c2 : (l0.length : Int) > 1048576
 ·rw [if_pos c2] at H
  have c2b0 : decide (1048576 < (l0.length : Int)) = true := decide_eq_true c2
  have c2b1 : decide (1048576 < l0.length) = true := decide_eq_true (by omega)
  clear c2
  obtain rfl := Option.some.inj H
  go_enter Try.func10, Try.ntmps10
  go_wp2
  go_ret
  exact ⟨by first | rfl | (simp [errW_none, errW_some] <;> rfl) | (simp [*, errW_none, errW_some] <;> rfl), zhb⟩
 ·rw [if_neg c2] at H
  have c2b0 : decide (1048576 < (l0.length : Int)) = false := decide_eq_false c2
  have c2b1 : decide (1048576 < l0.length) = false := decide_eq_false (by omega)
  clear c2
  replace H := Option.bind_eq_some_iff.mp H
  obtain ⟨t327, A30, H⟩ := H
  (try dsimp only at H)
  have A3 := Aside0.mk A30
  clear A30
  replace H := Option.bind_eq_some_iff.mp H
  obtain ⟨t330, A40, H⟩ := H
  (try dsimp only at H)
  have A4 := Aside0.mk A40
  clear A40
  replace H := Option.bind_eq_some_iff.mp H
  obtain ⟨t331, A50, H⟩ := H
  (try dsimp only at H)
  have A5 := Aside0.mk A50
  clear A50
  by_cases c6 : (t330 != t331) = true
  ·rw [if_pos c6] at H
   have c6b0 : (t330 != t331) = true := c6
   (try (have c6b1 : decide (t330 = t331) = false := by simpa using c6))
   (try (have c6b2 : (t330 == t331) = false := by simpa using c6))
   (try (have c6b3 : ¬ (t330 = t331) := by simpa using c6))
   clear c6
   exact absurd ((Option.some.inj H).trans HR_.out) (by decide)
  ·rw [if_neg c6] at H
   have c6b0 : (t330 != t331) = false := by simpa using c6
   (try (have c6b1 : decide (t330 = t331) = true := by simpa using c6))
   (try (have c6b2 : (t330 == t331) = true := by simpa using c6))
   clear c6
   replace H := Option.bind_eq_some_iff.mp H
   obtain ⟨t332, A70, H⟩ := H
   (try dsimp only at H)
   have A7 := Aside0.mk A70
   clear A70
   by_cases c8 : t332 = true
   ·subst c8
    have H1 : (if (t327.length : Int) = 0 then (some true) else ((some (([] : List (S68)) : List (S68))).bind fun y333 => (if y333.length + t327.length < 4398046511104 then ((some (y333 ++ t327 : List (S68))).bind fun y336 => (if 0 < (y336.length : Int) then ((some (([] : List (S68)) : List (S68))).bind fun y340 => (if y340.length + t327.length < 4398046511104 then ((some (y340 ++ t327 : List (S68))).bind fun y343 => (if 0 < (t327.length : Int) then ((some (([(⟨(rd_T68 t327 0).f0, (rd_T68 t327 0).f1⟩ : S68)] : List (S68)) : List (S68))).bind fun y347 => (if y343.length + y347.length < 4398046511104 then ((some (y343 ++ y347 : List (S68))).bind fun y350 => ((some (([] : List (S68)) : List (S68))).bind fun y353 => (if y353.length + t327.length < 4398046511104 then ((some (y353 ++ t327 : List (S68))).bind fun y356 => (if 0 < (y356.length : Int) then ((impl_ZOk.f k (y336.set (0 : Int).toNat (⟨(rd_T68 y336 0).f0, 0⟩ : S68))).bind fun t360 => (if t360 = true then (some false) else ((impl_ZOk.f k y350).bind fun t361 => (if t361 = true then (some false) else ((impl_ZOk.f k (y356.set (0 : Int).toNat (⟨(rd_T68 y356 0).f0, 10001⟩ : S68))).bind fun t362 => (if t362 = true then (some false) else ((impl_ZGet.f k y350 ((rd_T68 t327 0).f0)).bind fun t364 => (if t364 = 0 then (if 1 ≤ (t327.length : Int) then ((impl_ZOk.f k (t327.drop 1)).bind fun t370 => (some t370)) else (none)) else (some false))))))))) else (none))) else (none)))) else (none))) else (none))) else (none))) else (none))) else (none)))) = some r := by rw [if_pos rfl] at H; exact H
    clear H
    have H := H1
    clear H1
    by_cases c9 : (t327.length : Int) = 0
    ·rw [if_pos c9] at H
     have c9b0 : ((t327.length : Int) == 0) = true := beq_iff_eq.mpr c9
     have c9b1 : ((t327.length : Int) != 0) = false := bne_eq_false_iff_eq.mpr c9
     clear c9
     obtain rfl := Option.some.inj H
     go_enter Try.func10, Try.ntmps10
     go_wp2_with (first | ((with_reducible refine gate_callee (f := 44) rfl ?_); refine goesL_ (some 13) rfl rfl Try.func44 (by kernel_rfl) rfl #[.slice A0 l0.length c0] rfl zar ?_; (with_reducible refine (spec_DrawZOk.calls k _ _ l0 t327 _ ?side1 ?side2 A3.out).mono ?_); (case side1 => repeat (first | exact HR0.out | (with_reducible refine Kd.C_alloc ?_ _) | (with_reducible refine Kd.C_drewN ?_ _) | (with_reducible refine Kd.C_drew ?_))); (case side2 => exact HC0.out); rintro e w10 ⟨v328, rfl, ho0, hb⟩; refine ⟨_, rfl, ?_⟩; have n0_ := Aside0.mk (Kd.N_lower (Kd.N_mono (ok' := fun k_ => True) ho0 (fun k_ hk_ => trivial)) (below_size zhb)); have n1_ := Aside0.mk (below_step zhb hb); clear HB; have HO329 := n0_; have HB := n1_; clear n0_ n1_; (try clear hb); (try clear hb2); (try clear hk); (try clear hi); (try clear ho0); obtain ⟨Ao11, co11, eo11⟩ := Kd.N_slice HO329.out; subst eo11) | ((with_reducible refine gate_callee (f := 24) rfl ?_); refine goesL_ (some 15) rfl rfl Try.func24 (by kernel_rfl) rfl #[.slice Ao11 t327.length co11] rfl zar ?_; (with_reducible refine (impl_ZOk.calls k _ _ t327 t330 _ ?side1 ?side2 A4.out).mono ?_); (case side1 => repeat (first | exact (Kd.N_reads' HO329.out).2.2 | (with_reducible refine Kd.C_alloc ?_ _) | (with_reducible refine Kd.C_drewN ?_ _) | (with_reducible refine Kd.C_drew ?_))); (case side2 => exact (Kd.N_reads' HO329.out).2.1); rintro e w12 ⟨rfl, hb⟩; refine ⟨_, rfl, ?_⟩; have n0_ := Aside0.mk (Kd.N_below (by (with_reducible repeat (first | apply Kd.N_alloc | apply Kd.N_drewN | apply Kd.N_drew)); exact HO329.out) hb); have n1_ := Aside0.mk (below_step zhb hb); clear HO329; clear HB; have HO329 := n0_; have HB := n1_; clear n0_ n1_; (try clear hb); (try clear hb2); (try clear hk); (try clear hi)) | ((with_reducible refine gate_callee (f := 22) rfl ?_); refine goesL_ (some 17) rfl rfl Try.func22 (by kernel_rfl) rfl #[.slice Ao11 t327.length co11] rfl zar ?_; (with_reducible refine (spec_ZOk.calls k _ _ t327 t331 _ ?side1 ?side2 A5.out).mono ?_); (case side1 => repeat (first | exact (Kd.N_reads' HO329.out).2.2 | (with_reducible refine Kd.C_alloc ?_ _) | (with_reducible refine Kd.C_drewN ?_ _) | (with_reducible refine Kd.C_drew ?_))); (case side2 => exact (Kd.N_reads' HO329.out).2.1); rintro e w13 ⟨rfl, hb⟩; refine ⟨_, rfl, ?_⟩; have n0_ := Aside0.mk (Kd.N_below (by (with_reducible repeat (first | apply Kd.N_alloc | apply Kd.N_drewN | apply Kd.N_drew)); exact HO329.out) hb); have n1_ := Aside0.mk (below_step zhb hb); clear HO329; clear HB; have HO329 := n0_; have HB := n1_; clear n0_ n1_; (try clear hb); (try clear hb2); (try clear hk); (try clear hi)) | ((with_reducible refine gate_callee (f := 22) rfl ?_); refine goesL_ (some 20) rfl rfl Try.func22 (by kernel_rfl) rfl #[.slice Ao11 t327.length co11] rfl zar ?_; (with_reducible refine (spec_ZOk.calls k _ _ t327 true _ ?side1 ?side2 A7.out).mono ?_); (case side1 => repeat (first | exact (Kd.N_reads' HO329.out).2.2 | (with_reducible refine Kd.C_alloc ?_ _) | (with_reducible refine Kd.C_drewN ?_ _) | (with_reducible refine Kd.C_drew ?_))); (case side2 => exact (Kd.N_reads' HO329.out).2.1); rintro e w14 ⟨rfl, hb⟩; refine ⟨_, rfl, ?_⟩; have n0_ := Aside0.mk (Kd.N_below (by (with_reducible repeat (first | apply Kd.N_alloc | apply Kd.N_drewN | apply Kd.N_drew)); exact HO329.out) hb); have n1_ := Aside0.mk (below_step zhb hb); clear HO329; clear HB; have HO329 := n0_; have HB := n1_; clear n0_ n1_; (try clear hb); (try clear hb2); (try clear hk); (try clear hi)))
     go_ret
     exact ⟨by first | rfl | (simp [errW_none, errW_some] <;> rfl) | (simp [*, errW_none, errW_some] <;> rfl), zhb⟩
    ·rw [if_neg c9] at H
     have c9b0 : ((t327.length : Int) == 0) = false := beq_eq_false_iff_ne.mpr c9
     have c9b1 : ((t327.length : Int) != 0) = true := bne_iff_ne.mpr c9
     have c9b2 : ¬ (t327 = []) := fun h_ => c9 (by rw [h_]; rfl)
     obtain ⟨y333, hy333⟩ : ∃ y_ : List (S68), y_ = (([] : List (S68))) := ⟨_, rfl⟩
     replace H : (if y333.length + t327.length < 4398046511104 then ((some (y333 ++ t327 : List (S68))).bind fun y336 => (if 0 < (y336.length : Int) then ((some (([] : List (S68)) : List (S68))).bind fun y340 => (if y340.length + t327.length < 4398046511104 then ((some (y340 ++ t327 : List (S68))).bind fun y343 => (if 0 < (t327.length : Int) then ((some (([(⟨(rd_T68 t327 0).f0, (rd_T68 t327 0).f1⟩ : S68)] : List (S68)) : List (S68))).bind fun y347 => (if y343.length + y347.length < 4398046511104 then ((some (y343 ++ y347 : List (S68))).bind fun y350 => ((some (([] : List (S68)) : List (S68))).bind fun y353 => (if y353.length + t327.length < 4398046511104 then ((some (y353 ++ t327 : List (S68))).bind fun y356 => (if 0 < (y356.length : Int) then ((impl_ZOk.f k (y336.set (0 : Int).toNat (⟨(rd_T68 y336 0).f0, 0⟩ : S68))).bind fun t360 => (if t360 = true then (some false) else ((impl_ZOk.f k y350).bind fun t361 => (if t361 = true then (some false) else ((impl_ZOk.f k (y356.set (0 : Int).toNat (⟨(rd_T68 y356 0).f0, 10001⟩ : S68))).bind fun t362 => (if t362 = true then (some false) else ((impl_ZGet.f k y350 ((rd_T68 t327 0).f0)).bind fun t364 => (if t364 = 0 then (if 1 ≤ (t327.length : Int) then ((impl_ZOk.f k (t327.drop 1)).bind fun t370 => (some t370)) else (none)) else (some false))))))))) else (none))) else (none)))) else (none))) else (none))) else (none))) else (none))) else (none)) = some r := by first | (rw [hy333]; with_reducible exact H) | (have H2_ := (Option.bind_some _ _).symm.trans H; rw [hy333]; with_reducible exact H2_) | (have H2_ := (Option.bind_some _ _).symm.trans H; with_reducible exact H2_) | with_reducible exact H | (rw [hy333]; exact H) | exact H
     have Ny333 := Aside0.mk hy333
     clear hy333
     by_cases c15 : y333.length + t327.length < 4398046511104
     ·rw [if_pos c15] at H
      have LMc15 := Aside0.mk c15
      clear c15
      obtain ⟨y336, hy336⟩ : ∃ y_ : List (S68), y_ = (y333 ++ t327) := ⟨_, rfl⟩
      replace H : (if 0 < (y336.length : Int) then ((some (([] : List (S68)) : List (S68))).bind fun y340 => (if y340.length + t327.length < 4398046511104 then ((some (y340 ++ t327 : List (S68))).bind fun y343 => (if 0 < (t327.length : Int) then ((some (([(⟨(rd_T68 t327 0).f0, (rd_T68 t327 0).f1⟩ : S68)] : List (S68)) : List (S68))).bind fun y347 => (if y343.length + y347.length < 4398046511104 then ((some (y343 ++ y347 : List (S68))).bind fun y350 => ((some (([] : List (S68)) : List (S68))).bind fun y353 => (if y353.length + t327.length < 4398046511104 then ((some (y353 ++ t327 : List (S68))).bind fun y356 => (if 0 < (y356.length : Int) then ((impl_ZOk.f k (y336.set (0 : Int).toNat (⟨(rd_T68 y336 0).f0, 0⟩ : S68))).bind fun t360 => (if t360 = true then (some false) else ((impl_ZOk.f k y350).bind fun t361 => (if t361 = true then (some false) else ((impl_ZOk.f k (y356.set (0 : Int).toNat (⟨(rd_T68 y356 0).f0, 10001⟩ : S68))).bind fun t362 => (if t362 = true then (some false) else ((impl_ZGet.f k y350 ((rd_T68 t327 0).f0)).bind fun t364 => (if t364 = 0 then (if 1 ≤ (t327.length : Int) then ((impl_ZOk.f k (t327.drop 1)).bind fun t370 => (some t370)) else (none)) else (some false))))))))) else (none))) else (none)))) else (none))) else (none))) else (none))) else (none)) = some r := by first | (rw [hy336]; with_reducible exact H) | (have H2_ := (Option.bind_some _ _).symm.trans H; rw [hy336]; with_reducible exact H2_) | (have H2_ := (Option.bind_some _ _).symm.trans H; with_reducible exact H2_) | with_reducible exact H | (rw [hy336]; exact H) | exact H
      have Ny336 := Aside0.mk hy336
      clear hy336
      by_cases c16 : 0 < (y336.length : Int)
      ·rw [if_pos c16] at H
       have c16b0 : decide (0 < (y336.length : Int)) = true := decide_eq_true c16
       have c16b1 : decide (0 < y336.length) = true := decide_eq_true (by omega)
       clear c16
       obtain ⟨y339, hy339⟩ : ∃ y_ : List (S68), y_ = (y336.set (0 : Int).toNat (⟨(rd_T68 y336 0).f0, 0⟩ : S68)) := ⟨_, rfl⟩
       replace H : ((some (([] : List (S68)) : List (S68))).bind fun y340 => (if y340.length + t327.length < 4398046511104 then ((some (y340 ++ t327 : List (S68))).bind fun y343 => (if 0 < (t327.length : Int) then ((some (([(⟨(rd_T68 t327 0).f0, (rd_T68 t327 0).f1⟩ : S68)] : List (S68)) : List (S68))).bind fun y347 => (if y343.length + y347.length < 4398046511104 then ((some (y343 ++ y347 : List (S68))).bind fun y350 => ((some (([] : List (S68)) : List (S68))).bind fun y353 => (if y353.length + t327.length < 4398046511104 then ((some (y353 ++ t327 : List (S68))).bind fun y356 => (if 0 < (y356.length : Int) then ((impl_ZOk.f k y339).bind fun t360 => (if t360 = true then (some false) else ((impl_ZOk.f k y350).bind fun t361 => (if t361 = true then (some false) else ((impl_ZOk.f k (y356.set (0 : Int).toNat (⟨(rd_T68 y356 0).f0, 10001⟩ : S68))).bind fun t362 => (if t362 = true then (some false) else ((impl_ZGet.f k y350 ((rd_T68 t327 0).f0)).bind fun t364 => (if t364 = 0 then (if 1 ≤ (t327.length : Int) then ((impl_ZOk.f k (t327.drop 1)).bind fun t370 => (some t370)) else (none)) else (some false))))))))) else (none))) else (none)))) else (none))) else (none))) else (none))) = some r := by first | (rw [hy339]; with_reducible exact H) | (have H2_ := (Option.bind_some _ _).symm.trans H; rw [hy339]; with_reducible exact H2_) | (have H2_ := (Option.bind_some _ _).symm.trans H; with_reducible exact H2_) | with_reducible exact H | (rw [hy339]; exact H) | exact H
       have Ny339 := Aside0.mk hy339
       clear hy339
       obtain ⟨y340, hy340⟩ : ∃ y_ : List (S68), y_ = (([] : List (S68))) := ⟨_, rfl⟩
       replace H : (if y340.length + t327.length < 4398046511104 then ((some (y340 ++ t327 : List (S68))).bind fun y343 => (if 0 < (t327.length : Int) then ((some (([(⟨(rd_T68 t327 0).f0, (rd_T68 t327 0).f1⟩ : S68)] : List (S68)) : List (S68))).bind fun y347 => (if y343.length + y347.length < 4398046511104 then ((some (y343 ++ y347 : List (S68))).bind fun y350 => ((some (([] : List (S68)) : List (S68))).bind fun y353 => (if y353.length + t327.length < 4398046511104 then ((some (y353 ++ t327 : List (S68))).bind fun y356 => (if 0 < (y356.length : Int) then ((impl_ZOk.f k y339).bind fun t360 => (if t360 = true then (some false) else ((impl_ZOk.f k y350).bind fun t361 => (if t361 = true then (some false) else ((impl_ZOk.f k (y356.set (0 : Int).toNat (⟨(rd_T68 y356 0).f0, 10001⟩ : S68))).bind fun t362 => (if t362 = true then (some false) else ((impl_ZGet.f k y350 ((rd_T68 t327 0).f0)).bind fun t364 => (if t364 = 0 then (if 1 ≤ (t327.length : Int) then ((impl_ZOk.f k (t327.drop 1)).bind fun t370 => (some t370)) else (none)) else (some false))))))))) else (none))) else (none)))) else (none))) else (none))) else (none)) = some r := by first | (rw [hy340]; with_reducible exact H) | (have H2_ := (Option.bind_some _ _).symm.trans H; rw [hy340]; with_reducible exact H2_) | (have H2_ := (Option.bind_some _ _).symm.trans H; with_reducible exact H2_) | with_reducible exact H | (rw [hy340]; exact H) | exact H
       have Ny340 := Aside0.mk hy340
       clear hy340
       by_cases c18 : y340.length + t327.length < 4398046511104
       ·rw [if_pos c18] at H
        have LMc18 := Aside0.mk c18
        clear c18
        obtain ⟨y343, hy343⟩ : ∃ y_ : List (S68), y_ = (y340 ++ t327) := ⟨_, rfl⟩
        replace H : (if 0 < (t327.length : Int) then ((some (([(⟨(rd_T68 t327 0).f0, (rd_T68 t327 0).f1⟩ : S68)] : List (S68)) : List (S68))).bind fun y347 => (if y343.length + y347.length < 4398046511104 then ((some (y343 ++ y347 : List (S68))).bind fun y350 => ((some (([] : List (S68)) : List (S68))).bind fun y353 => (if y353.length + t327.length < 4398046511104 then ((some (y353 ++ t327 : List (S68))).bind fun y356 => (if 0 < (y356.length : Int) then ((impl_ZOk.f k y339).bind fun t360 => (if t360 = true then (some false) else ((impl_ZOk.f k y350).bind fun t361 => (if t361 = true then (some false) else ((impl_ZOk.f k (y356.set (0 : Int).toNat (⟨(rd_T68 y356 0).f0, 10001⟩ : S68))).bind fun t362 => (if t362 = true then (some false) else ((impl_ZGet.f k y350 ((rd_T68 t327 0).f0)).bind fun t364 => (if t364 = 0 then (if 1 ≤ (t327.length : Int) then ((impl_ZOk.f k (t327.drop 1)).bind fun t370 => (some t370)) else (none)) else (some false))))))))) else (none))) else (none)))) else (none))) else (none)) = some r := by first | (rw [hy343]; with_reducible exact H) | (have H2_ := (Option.bind_some _ _).symm.trans H; rw [hy343]; with_reducible exact H2_) | (have H2_ := (Option.bind_some _ _).symm.trans H; with_reducible exact H2_) | with_reducible exact H | (rw [hy343]; exact H) | exact H
        have Ny343 := Aside0.mk hy343
        clear hy343
        by_cases c19 : 0 < (t327.length : Int)
        ·rw [if_pos c19] at H
         have c19b0 : decide (0 < (t327.length : Int)) = true := decide_eq_true c19
         have c19b1 : decide (0 < t327.length) = true := decide_eq_true (by omega)
         clear c19
         obtain ⟨y347, hy347⟩ : ∃ y_ : List (S68), y_ = (([(⟨(rd_T68 t327 0).f0, (rd_T68 t327 0).f1⟩ : S68)] : List (S68))) := ⟨_, rfl⟩
         replace H : (if y343.length + y347.length < 4398046511104 then ((some (y343 ++ y347 : List (S68))).bind fun y350 => ((some (([] : List (S68)) : List (S68))).bind fun y353 => (if y353.length + t327.length < 4398046511104 then ((some (y353 ++ t327 : List (S68))).bind fun y356 => (if 0 < (y356.length : Int) then ((impl_ZOk.f k y339).bind fun t360 => (if t360 = true then (some false) else ((impl_ZOk.f k y350).bind fun t361 => (if t361 = true then (some false) else ((impl_ZOk.f k (y356.set (0 : Int).toNat (⟨(rd_T68 y356 0).f0, 10001⟩ : S68))).bind fun t362 => (if t362 = true then (some false) else ((impl_ZGet.f k y350 ((rd_T68 t327 0).f0)).bind fun t364 => (if t364 = 0 then (if 1 ≤ (t327.length : Int) then ((impl_ZOk.f k (t327.drop 1)).bind fun t370 => (some t370)) else (none)) else (some false))))))))) else (none))) else (none)))) else (none)) = some r := by first | (rw [hy347]; with_reducible exact H) | (have H2_ := (Option.bind_some _ _).symm.trans H; rw [hy347]; with_reducible exact H2_) | (have H2_ := (Option.bind_some _ _).symm.trans H; with_reducible exact H2_) | with_reducible exact H | (rw [hy347]; exact H) | exact H
         have Ny347 := Aside0.mk hy347
         clear hy347
         by_cases c20 : y343.length + y347.length < 4398046511104
         ·rw [if_pos c20] at H
          have LMc20 := Aside0.mk c20
          clear c20
          obtain ⟨y350, hy350⟩ : ∃ y_ : List (S68), y_ = (y343 ++ y347) := ⟨_, rfl⟩
          replace H : ((some (([] : List (S68)) : List (S68))).bind fun y353 => (if y353.length + t327.length < 4398046511104 then ((some (y353 ++ t327 : List (S68))).bind fun y356 => (if 0 < (y356.length : Int) then ((impl_ZOk.f k y339).bind fun t360 => (if t360 = true then (some false) else ((impl_ZOk.f k y350).bind fun t361 => (if t361 = true then (some false) else ((impl_ZOk.f k (y356.set (0 : Int).toNat (⟨(rd_T68 y356 0).f0, 10001⟩ : S68))).bind fun t362 => (if t362 = true then (some false) else ((impl_ZGet.f k y350 ((rd_T68 t327 0).f0)).bind fun t364 => (if t364 = 0 then (if 1 ≤ (t327.length : Int) then ((impl_ZOk.f k (t327.drop 1)).bind fun t370 => (some t370)) else (none)) else (some false))))))))) else (none))) else (none))) = some r := by first | (rw [hy350]; with_reducible exact H) | (have H2_ := (Option.bind_some _ _).symm.trans H; rw [hy350]; with_reducible exact H2_) | (have H2_ := (Option.bind_some _ _).symm.trans H; with_reducible exact H2_) | with_reducible exact H | (rw [hy350]; exact H) | exact H
          have Ny350 := Aside0.mk hy350
          clear hy350
          obtain ⟨y353, hy353⟩ : ∃ y_ : List (S68), y_ = (([] : List (S68))) := ⟨_, rfl⟩
          replace H : (if y353.length + t327.length < 4398046511104 then ((some (y353 ++ t327 : List (S68))).bind fun y356 => (if 0 < (y356.length : Int) then ((impl_ZOk.f k y339).bind fun t360 => (if t360 = true then (some false) else ((impl_ZOk.f k y350).bind fun t361 => (if t361 = true then (some false) else ((impl_ZOk.f k (y356.set (0 : Int).toNat (⟨(rd_T68 y356 0).f0, 10001⟩ : S68))).bind fun t362 => (if t362 = true then (some false) else ((impl_ZGet.f k y350 ((rd_T68 t327 0).f0)).bind fun t364 => (if t364 = 0 then (if 1 ≤ (t327.length : Int) then ((impl_ZOk.f k (t327.drop 1)).bind fun t370 => (some t370)) else (none)) else (some false))))))))) else (none))) else (none)) = some r := by first | (rw [hy353]; with_reducible exact H) | (have H2_ := (Option.bind_some _ _).symm.trans H; rw [hy353]; with_reducible exact H2_) | (have H2_ := (Option.bind_some _ _).symm.trans H; with_reducible exact H2_) | with_reducible exact H | (rw [hy353]; exact H) | exact H
          have Ny353 := Aside0.mk hy353
          clear hy353
          by_cases c21 : y353.length + t327.length < 4398046511104
          ·rw [if_pos c21] at H
           have LMc21 := Aside0.mk c21
           clear c21
           obtain ⟨y356, hy356⟩ : ∃ y_ : List (S68), y_ = (y353 ++ t327) := ⟨_, rfl⟩
           replace H : (if 0 < (y356.length : Int) then ((impl_ZOk.f k y339).bind fun t360 => (if t360 = true then (some false) else ((impl_ZOk.f k y350).bind fun t361 => (if t361 = true then (some false) else ((impl_ZOk.f k (y356.set (0 : Int).toNat (⟨(rd_T68 y356 0).f0, 10001⟩ : S68))).bind fun t362 => (if t362 = true then (some false) else ((impl_ZGet.f k y350 ((rd_T68 t327 0).f0)).bind fun t364 => (if t364 = 0 then (if 1 ≤ (t327.length : Int) then ((impl_ZOk.f k (t327.drop 1)).bind fun t370 => (some t370)) else (none)) else (some false))))))))) else (none)) = some r := by first | (rw [hy356]; with_reducible exact H) | (have H2_ := (Option.bind_some _ _).symm.trans H; rw [hy356]; with_reducible exact H2_) | (have H2_ := (Option.bind_some _ _).symm.trans H; with_reducible exact H2_) | with_reducible exact H | (rw [hy356]; exact H) | exact H
           have Ny356 := Aside0.mk hy356
           clear hy356
           by_cases c22 : 0 < (y356.length : Int)
           ·rw [if_pos c22] at H
            have c22b0 : decide (0 < (y356.length : Int)) = true := decide_eq_true c22
            have c22b1 : decide (0 < y356.length) = true := decide_eq_true (by omega)
            clear c22
            obtain ⟨y359, hy359⟩ : ∃ y_ : List (S68), y_ = (y356.set (0 : Int).toNat (⟨(rd_T68 y356 0).f0, 10001⟩ : S68)) := ⟨_, rfl⟩
            replace H : ((impl_ZOk.f k y339).bind fun t360 => (if t360 = true then (some false) else ((impl_ZOk.f k y350).bind fun t361 => (if t361 = true then (some false) else ((impl_ZOk.f k y359).bind fun t362 => (if t362 = true then (some false) else ((impl_ZGet.f k y350 ((rd_T68 t327 0).f0)).bind fun t364 => (if t364 = 0 then (if 1 ≤ (t327.length : Int) then ((impl_ZOk.f k (t327.drop 1)).bind fun t370 => (some t370)) else (none)) else (some false))))))))) = some r := by first | (rw [hy359]; with_reducible exact H) | (have H2_ := (Option.bind_some _ _).symm.trans H; rw [hy359]; with_reducible exact H2_) | (have H2_ := (Option.bind_some _ _).symm.trans H; with_reducible exact H2_) | with_reducible exact H | (rw [hy359]; exact H) | exact H
            have Ny359 := Aside0.mk hy359
            clear hy359
            replace H := Option.bind_eq_some_iff.mp H
            obtain ⟨t360, A240, H⟩ := H
            (try dsimp only at H)
            have A24 := Aside0.mk A240
            clear A240
            by_cases c25 : t360 = true
            ·subst c25
             have H1 : (some false) = some r := by rw [if_pos rfl] at H; exact H
             clear H
             have H := H1
             clear H1
             exact absurd ((Option.some.inj H).trans HR_.out) (by decide)
            ·replace c25 := Bool.eq_false_iff.mpr c25
             subst c25
             have H1 : ((impl_ZOk.f k y350).bind fun t361 => (if t361 = true then (some false) else ((impl_ZOk.f k y359).bind fun t362 => (if t362 = true then (some false) else ((impl_ZGet.f k y350 ((rd_T68 t327 0).f0)).bind fun t364 => (if t364 = 0 then (if 1 ≤ (t327.length : Int) then ((impl_ZOk.f k (t327.drop 1)).bind fun t370 => (some t370)) else (none)) else (some false))))))) = some r := by rw [if_neg (show ¬ (false = true) by decide)] at H; exact H
             clear H
             have H := H1
             clear H1
             replace H := Option.bind_eq_some_iff.mp H
             obtain ⟨t361, A260, H⟩ := H
             (try dsimp only at H)
             have A26 := Aside0.mk A260
             clear A260
             by_cases c27 : t361 = true
             ·subst c27
              have H1 : (some false) = some r := by rw [if_pos rfl] at H; exact H
              clear H
              have H := H1
              clear H1
              exact absurd ((Option.some.inj H).trans HR_.out) (by decide)
             ·replace c27 := Bool.eq_false_iff.mpr c27
              subst c27
              have H1 : ((impl_ZOk.f k y359).bind fun t362 => (if t362 = true then (some false) else ((impl_ZGet.f k y350 ((rd_T68 t327 0).f0)).bind fun t364 => (if t364 = 0 then (if 1 ≤ (t327.length : Int) then ((impl_ZOk.f k (t327.drop 1)).bind fun t370 => (some t370)) else (none)) else (some false))))) = some r := by rw [if_neg (show ¬ (false = true) by decide)] at H; exact H
              clear H
              have H := H1
              clear H1
              replace H := Option.bind_eq_some_iff.mp H
              obtain ⟨t362, A280, H⟩ := H
              (try dsimp only at H)
              have A28 := Aside0.mk A280
              clear A280
              by_cases c29 : t362 = true
              ·subst c29
               have H1 : (some false) = some r := by rw [if_pos rfl] at H; exact H
               clear H
               have H := H1
               clear H1
               exact absurd ((Option.some.inj H).trans HR_.out) (by decide)
              ·replace c29 := Bool.eq_false_iff.mpr c29
               subst c29
               have H1 : ((impl_ZGet.f k y350 ((rd_T68 t327 0).f0)).bind fun t364 => (if t364 = 0 then (if 1 ≤ (t327.length : Int) then ((impl_ZOk.f k (t327.drop 1)).bind fun t370 => (some t370)) else (none)) else (some false))) = some r := by rw [if_neg (show ¬ (false = true) by decide)] at H; exact H
               clear H
               have H := H1
               clear H1
               replace H := Option.bind_eq_some_iff.mp H
               obtain ⟨t364, A300, H⟩ := H
               (try dsimp only at H)
               have A30 := Aside0.mk A300
               clear A300
               by_cases c31 : t364 = 0
               ·rw [if_pos c31] at H
                have c31b0 : (t364 == 0) = true := beq_iff_eq.mpr c31
                have c31b1 : (t364 != 0) = false := bne_eq_false_iff_eq.mpr c31
                clear c31
                by_cases c32 : 1 ≤ (t327.length : Int)
                ·rw [if_pos c32] at H
                 have c32b0 := eq_true c32
                 have c32b1 : decide (1 ≤ (t327.length : Int)) = true := decide_eq_true c32
                 clear c32
                 obtain ⟨y365, hy365⟩ : ∃ y_ : List (S68), y_ = (t327.drop 1) := ⟨_, rfl⟩
                 replace H : ((impl_ZOk.f k y365).bind fun t370 => (some t370)) = some r := by first | (rw [hy365]; with_reducible exact H) | (have H2_ := (Option.bind_some _ _).symm.trans H; rw [hy365]; with_reducible exact H2_) | (have H2_ := (Option.bind_some _ _).symm.trans H; with_reducible exact H2_) | with_reducible exact H | (rw [hy365]; exact H) | exact H
                 have Ny365 := Aside0.mk hy365
                 clear hy365
                 replace H := Option.bind_eq_some_iff.mp H
                 obtain ⟨t370, A330, H⟩ := H
                 (try dsimp only at H)
                 have A33 := Aside0.mk A330
                 clear A330
                 obtain rfl := Option.some.inj H
                 go_enter Try.func10, Try.ntmps10
                 try go_wp2_with (first | ((with_reducible refine gate_callee (f := 44) rfl ?_); refine goesL_ (some 13) rfl rfl Try.func44 (by kernel_rfl) rfl #[.slice A0 l0.length c0] rfl zar ?_; (with_reducible refine (spec_DrawZOk.calls k _ _ l0 t327 _ ?side1 ?side2 A3.out).mono ?_); (case side1 => repeat (first | exact HR0.out | (with_reducible refine Kd.C_alloc ?_ _) | (with_reducible refine Kd.C_drewN ?_ _) | (with_reducible refine Kd.C_drew ?_))); (case side2 => exact HC0.out); rintro e w34 ⟨v328, rfl, ho0, hb⟩; refine ⟨_, rfl, ?_⟩; have n0_ := Aside0.mk (Kd.N_lower (Kd.N_mono (ok' := fun k_ => True) ho0 (fun k_ hk_ => trivial)) (below_size zhb)); have n1_ := Aside0.mk (below_step zhb hb); clear HB; have HO329 := n0_; have HB := n1_; clear n0_ n1_; (try clear hb); (try clear hb2); (try clear hk); (try clear hi); (try clear ho0); obtain ⟨Ao35, co35, eo35⟩ := Kd.N_slice HO329.out; subst eo35) | ((with_reducible refine gate_callee (f := 24) rfl ?_); refine goesL_ (some 15) rfl rfl Try.func24 (by kernel_rfl) rfl #[.slice Ao35 t327.length co35] rfl zar ?_; (with_reducible refine (impl_ZOk.calls k _ _ t327 t330 _ ?side1 ?side2 A4.out).mono ?_); (case side1 => repeat (first | exact (Kd.N_reads' HO329.out).2.2 | (with_reducible refine Kd.C_alloc ?_ _) | (with_reducible refine Kd.C_drewN ?_ _) | (with_reducible refine Kd.C_drew ?_))); (case side2 => exact (Kd.N_reads' HO329.out).2.1); rintro e w36 ⟨rfl, hb⟩; refine ⟨_, rfl, ?_⟩; have n0_ := Aside0.mk (Kd.N_below (by (with_reducible repeat (first | apply Kd.N_alloc | apply Kd.N_drewN | apply Kd.N_drew)); exact HO329.out) hb); have n1_ := Aside0.mk (below_step zhb hb); clear HO329; clear HB; have HO329 := n0_; have HB := n1_; clear n0_ n1_; (try clear hb); (try clear hb2); (try clear hk); (try clear hi)) | ((with_reducible refine gate_callee (f := 22) rfl ?_); refine goesL_ (some 17) rfl rfl Try.func22 (by kernel_rfl) rfl #[.slice Ao35 t327.length co35] rfl zar ?_; (with_reducible refine (spec_ZOk.calls k _ _ t327 t331 _ ?side1 ?side2 A5.out).mono ?_); (case side1 => repeat (first | exact (Kd.N_reads' HO329.out).2.2 | (with_reducible refine Kd.C_alloc ?_ _) | (with_reducible refine Kd.C_drewN ?_ _) | (with_reducible refine Kd.C_drew ?_))); (case side2 => exact (Kd.N_reads' HO329.out).2.1); rintro e w37 ⟨rfl, hb⟩; refine ⟨_, rfl, ?_⟩; have n0_ := Aside0.mk (Kd.N_below (by (with_reducible repeat (first | apply Kd.N_alloc | apply Kd.N_drewN | apply Kd.N_drew)); exact HO329.out) hb); have n1_ := Aside0.mk (below_step zhb hb); clear HO329; clear HB; have HO329 := n0_; have HB := n1_; clear n0_ n1_; (try clear hb); (try clear hb2); (try clear hk); (try clear hi)) | ((with_reducible refine gate_callee (f := 22) rfl ?_); refine goesL_ (some 20) rfl rfl Try.func22 (by kernel_rfl) rfl #[.slice Ao35 t327.length co35] rfl zar ?_; (with_reducible refine (spec_ZOk.calls k _ _ t327 true _ ?side1 ?side2 A7.out).mono ?_); (case side1 => repeat (first | exact (Kd.N_reads' HO329.out).2.2 | (with_reducible refine Kd.C_alloc ?_ _) | (with_reducible refine Kd.C_drewN ?_ _) | (with_reducible refine Kd.C_drew ?_))); (case side2 => exact (Kd.N_reads' HO329.out).2.1); rintro e w38 ⟨rfl, hb⟩; refine ⟨_, rfl, ?_⟩; have n0_ := Aside0.mk (Kd.N_below (by (with_reducible repeat (first | apply Kd.N_alloc | apply Kd.N_drewN | apply Kd.N_drew)); exact HO329.out) hb); have n1_ := Aside0.mk (below_step zhb hb); clear HO329; clear HB; have HO329 := n0_; have HB := n1_; clear n0_ n1_; (try clear hb); (try clear hb2); (try clear hk); (try clear hi)) | ((with_reducible refine gate_dst (N := 49) rfl ?_); (try (refine gate_guard (by rfl) ?_; dsimp only)); refine Kd.N_lit k68 _ 68 ?hg (N' := 49) ?hd (xs := ([] : List (S68))) (inner := []) (ok := (fun k_ => some k_ ≠ (.slice Ao35 t327.length co35 : Value).ownBlock)) (okp := (fun k_ => some k_ ≠ (.slice Ao35 t327.length co35 : Value).ownBlock)) ?hr ?hp (fun _ hk => hk) ((show ∀ k_, w38.heap.size ≤ k_ → (fun k_ => some k_ ≠ (.slice Ao35 t327.length co35 : Value).ownBlock) k_ from fun k_ hk => Kd.fresh' (Kd.N_lt (by (with_reducible repeat (first | apply Kd.N_alloc | apply Kd.N_drewN | apply Kd.N_drew)); exact HO329.out)) k_ hk) _ (Nat.le_refl _)) (Below.refl _ _) (Nat.le_refl _) (by simp) ?_; (case hd => rfl); (case hg => rfl); (case hr => first | (go_simp; done) | (go_simp; rfl)); (case hp => exact (Reps.none _ _)); intro v334 w39 ho40 hb hg_ hnew_; clear hg_ hnew_; (first | rw [← Ny333.out] at ho40 | (simp only [Int.reduceToNat] at ho40; rw [← Ny333.out] at ho40)); have n0_ := Aside0.mk (Kd.N_elder' (by (with_reducible repeat (first | apply Kd.N_alloc | apply Kd.N_drewN | apply Kd.N_drew)); exact HO329.out) (Kd.N_base ho40) hb); have n1_ := Aside0.mk (Kd.N_lower ho40 (below_size zhb)); have n2_ := Aside0.mk (below_step zhb hb); clear HO329; clear HB; have HO329 := n0_; have HO335 := n1_; have HB := n2_; clear n0_ n1_ n2_; clear hb ho40) | ((with_reducible refine gate_builtin (b := .append) (xs := #[.tmp 49, .tmp 50]) rfl ?_); (try (refine gate_guard (by rfl) ?_; dsimp only)); at_builtin; refine Kd.N_append_rows k68 (w0 := w) w.heap.size rfl (.tmp 49) (.tmp 50) 33 68 (.agg #[(.slice none 0 0), (.int .i64 0)]) 32 rfl Try.underlying33 info68 rfl (by decide) (by omega) v334 y333 t327 _ _ _ (fun _ => True) (fun k_ => ((fun _ => True)) k_ ∧ some k_ ≠ (v334 : Value).ownBlock) rfl rfl ?aO ?aR (fun _ hk => hk) ?aF ?aB ?aS ?aL ?_; (case aR => exact (by skip; exact Kd.N_F (Kd.N_mono (ok' := (fun k_ => ((fun _ => True)) k_ ∧ some k_ ≠ (v334 : Value).ownBlock)) (HO329.out) (fun k_ hk => ⟨trivial, hk.2⟩)))); (case aB => exact zhb); (case aF => exact (fun _ _ => trivial)); (case aO => exact (by (with_reducible repeat (first | apply Kd.N_alloc | apply Kd.N_drewN | apply Kd.N_drew)); exact Kd.N_mono HO335.out (fun _ hk => trivial))); (case aS => exact (below_size zhb)); (case aL => have := LMc15.out; omega); intro v337 w41 ho hb hg hat; rw [← Ny336.out] at ho; have n0_ := Aside0.mk (Kd.N_afterv (ok := (fun _ => True)) (by (with_reducible repeat (first | apply Kd.N_alloc | apply Kd.N_drewN | apply Kd.N_drew)); exact HO329.out) hg hat); have n1_ := Aside0.mk (hb); have n2_ := Aside0.mk (ho); clear HO329; clear HB; clear HO335; have HO329 := n0_; have HB := n1_; have HO338 := n2_; clear n0_ n1_ n2_; clear ho hb hg hat; have p17 : 0 ≤ (0 : Int) := (by omega); have q17 : (0 : Int) < ((y336.length : Int) : Int) := zod; have qi17 : (0 < y336.length) = True := eq_true (by omega); obtain ⟨go17, co17, eo17, gb17, gl17, cl17, HG17⟩ := Kd.N_form HO338.out (by omega); (first | cases eo17 | (injection eo17 with ea_ en_ ec_; (first | subst ea_ | (injection ea_ with ea_; subst ea_)); subst ec_; clear en_)); have GB17 := Aside0.mk gb17; have GG17 := Aside0.mk HG17; clear gb17 gl17 HG17; obtain ⟨ce17, hcl17, hM17, hcc17, hfr17⟩ := Kd.N_elem HO338.out z68 (0 : Int) p17 q17; obtain ⟨ua17_0, uc17_0, rfl, ul17_0, ge17_0⟩ := k68_openF hM17; have hx17_0 : w41.cell? ⟨go17, (0 : Int).toNat * 2, none⟩ = some (.slice ua17_0 ((rd_T68 y336 0).f0).length uc17_0) := hcc17 0 _ rfl; have hx17_1 : w41.cell? ⟨go17, (0 : Int).toNat * 2 + 1, none⟩ = some (.int .i64 ((rd_T68 y336 0).f1)) := hcc17 1 _ rfl; have hf17_0 : w41.frozen? ⟨go17, (0 : Int).toNat * 2, none⟩ = false := hfr17 0; have hf17_1 : w41.frozen? ⟨go17, (0 : Int).toNat * 2 + 1, none⟩ = false := hfr17 1; clear hcl17 hcc17 hfr17 hM17; (try rw [show ((0 : Int)).toNat = 0 from rfl] at hx17_0); (try simp only [Nat.reduceMul, Nat.zero_mul, Nat.zero_add, Nat.reduceAdd] at hx17_0); (try rw [show ((0 : Int)).toNat = 0 from rfl] at hf17_0); (try simp only [Nat.reduceMul, Nat.zero_mul, Nat.zero_add, Nat.reduceAdd] at hf17_0); (try rw [show ((0 : Int)).toNat = 0 from rfl] at hx17_1); (try simp only [Nat.reduceMul, Nat.zero_mul, Nat.zero_add, Nat.reduceAdd] at hx17_1); (try rw [show ((0 : Int)).toNat = 0 from rfl] at hf17_1); (try simp only [Nat.reduceMul, Nat.zero_mul, Nat.zero_add, Nat.reduceAdd] at hf17_1); replace p17 := eq_true p17; replace q17 := eq_true q17; have HX42 := Aside0.mk (show Kd.N k68 68 w41 w.heap.size (fun _ => True) (.slice (some ⟨go17, 0, none⟩) y336.length co17) y336 from (by (with_reducible repeat (first | apply Kd.N_alloc | apply Kd.N_drewN | apply Kd.N_drew)); exact HO338.out)); obtain ⟨ce42, hcl42, hM42, hcc42, hfr42⟩ := Kd.N_elem HX42.out z68 (0 : Int) (by omega) (by have h_ : (0 : Int) < ((y336.length : Int) : Int) := zod; first | exact h_ | (have e_ := (Kd.N_reads' HO338.out).1; omega) | simpa using h_); obtain ⟨ua42_0, uc42_0, rfl, ul42_0, ge42_0⟩ := k68_openF hM42; have HP42 := Kd.N_seg HX42.out (0 : Int) (by omega) (by have h_ : (0 : Int) < ((y336.length : Int) : Int) := zod; first | exact h_ | (have e_ := (Kd.N_reads' HO338.out).1; omega) | simpa using h_) (seg := [.int .i64 0]) (j := 1) hcl42 hcc42 (show 2 ≤ 2 from by decide) (x' := (⟨(rd_T68 y336 0).f0, 0⟩ : S68)) (k68_mkF _ _ (⟨(rd_T68 y336 0).f0, 0⟩ : S68) ul42_0 ge42_0) (fun _ hk => hk); have hx42_1 := hcc42 1 _ rfl; (try simp only [show (k68).sz = 2 from rfl, Nat.mul_one, Nat.add_zero] at hx42_1); (try rw [show ((0 : Int)).toNat = 0 from rfl] at hx42_1); (try simp only [Nat.reduceMul, Nat.zero_mul, Nat.zero_add, Nat.reduceAdd] at hx42_1); have hf42_1 := hfr42 1; (try simp only [show (k68).sz = 2 from rfl, Nat.mul_one, Nat.add_zero] at hf42_1); (try rw [show ((0 : Int)).toNat = 0 from rfl] at hf42_1); (try simp only [Nat.reduceMul, Nat.zero_mul, Nat.zero_add, Nat.reduceAdd] at hf42_1); clear hcl42 hcc42 hfr42 hM42) | ((with_reducible refine gate_store (t := 3) (p := 54) rfl ?_); refine store_event (t := 3) (p := 54) (v := ?vo_w43) (w1 := (w41.setCell ⟨go17, 1, none⟩ (.int .i64 0))) ?hg ?ho ?hn ?hr ?_; (case ho => rfl); (case hg => rfl); (case hn => rfl); (case hr => first | (go_simp; done) | (go_simp; rfl)); intro w43 hw; have hg : w41.grownBy w43 (some go17) := (by rw [hw]; exact HP42.2); have hp_ : Kd.N k68 68 w43 w.heap.size (fun _ => True) (.slice (some ⟨go17, 0, none⟩) y336.length co17) y339 := (by rw [hw, Ny339.out]; exact HP42.1); clear HP42; have n0_ := Aside0.mk (Kd.N_afterv (v := (.slice (some ⟨go17, 0, none⟩) y336.length co17)) (v1 := (.slice (some ⟨go17, 0, none⟩) y336.length co17)) (ok := (fun _ => True)) (by (with_reducible repeat (first | apply Kd.N_alloc | apply Kd.N_drewN | apply Kd.N_drew)); exact HO329.out) hg (.inl rfl)); have n1_ := Aside0.mk (hp_); have n2_ := Aside0.mk ((by rw [hw]; exact below_set (HB.out) GB17.out : Below w.heap.size w w43)); clear HO329; clear HO338; clear HB; have HO329 := n0_; have HO338 := n1_; have HB := n2_; clear n0_ n1_ n2_; clear hg hw hp_))
                 have n0_ := Aside0.mk (Kd.N_drew HO329.out)
                 have n1_ := Aside0.mk (Kd.N_drew HO338.out)
                 have n2_ := Aside0.mk (below_drew1 HB.out)
                 clear HO329
                 clear HO338
                 clear HB
                 have HO329 := n0_
                 have HO338 := n1_
                 have HB := n2_
                 clear n0_ n1_ n2_
                 have p346 : 0 ≤ (0 : Int) := (by omega)
                 have q346 : 0 < (t327.length : Int) := zod
                 obtain ⟨ad346, A346_0, c346_0, e346, hx346_0, hx346_1, hl346_0, hi346_0⟩ := at_T68 (Kd.N_reads' HO329.out).2.2 0 p346 q346
                 cases e346
                 obtain ⟨ce346, hce346, hMe346, hcc346⟩ := Kd.N_get HO329.out z68 0 p346 (by first | exact q346 | exact zod | (have e_ := (Kd.N_reads' HO329.out).1; omega))
                 obtain ⟨ua346_0, uc346_0, rfl, ul346_0, ge346_0⟩ := k68_openF hMe346
                 have hv346_0 := hcc346 0 _ rfl
                 rw [Nat.add_zero] at hv346_0
                 replace hv346_0 := Option.some.inj (hv346_0.symm.trans hx346_0)
                 injection hv346_0 with hva_ hvn_ hvc_
                 rw [hva_] at ge346_0
                 rw [hvc_] at ul346_0
                 have HL346_0 := Aside0.mk (show Kd.V (Kd.int .i64) 3 _ w.heap.size _ _ ((rd_T68 t327 0).f0) from Kd.V_mk ul346_0 ge346_0)
                 clear hva_ hvn_ hvc_ ge346_0 ul346_0
                 clear hcc346 hce346
                 have qi346 : (0 < t327.length) = True := eq_true (by omega)
                 (try rw [show ((0 : Int)).toNat = 0 from rfl] at hx346_0)
                 (try rw [show 0 * 2 = 0 from rfl] at hx346_0)
                 (try rw [Addr.add_zero'] at hx346_0)
                 (try rw [show ((0 : Int)).toNat = 0 from rfl] at hx346_1)
                 (try rw [show 0 * 2 = 0 from rfl] at hx346_1)
                 (try rw [Addr.add_zero'] at hx346_1)
                 have HR346_0 := Aside0.mk hi346_0
                 have HC346_0 := Aside0.mk hl346_0
                 clear hi346_0 hl346_0
                 replace p346 := eq_true p346
                 replace q346 := eq_true q346
                 refine start_ (n := 9) (S := fun w' => w'.cell? ad346 = some (.slice A346_0 ((rd_T68 t327 0).f0).length c346_0) ∧ w'.cell? ⟨ad346.block, ad346.off + 1, none⟩ = some (.int .i64 ((rd_T68 t327 0).f1))) (ds := [7]) #[zf, zf, zf, zf, zf, zf, zf, zf, zf] (by kernel_rfl) rfl rfl ⟨hx346_0, hx346_1⟩ (fun hHeld => ?_); refine with_tabW laws_FnZBent.tab13 laws_FnZBent.bits13 (fun HT_ HW_ => ?_)
                 generalize w43.drew = w44 at HO329 HO338 HB HL346_0 HR346_0 hx346_0 hx346_1 hHeld ⊢
                 refine pure_ (i := 1) (N := some 56) (v := ?_) (a' := ?_) #[zf, zt, zf, zf, zf, zf, zf, zf, zf] rfl rfl (any_of HT_.out (by kernel_rfl)) (fun _ _ _ h => h) (Or.inl ⟨by rfl, ?_⟩) ?_ ?_
                 rotate_left
                 ·intro w'
                  go_simp
                  with_reducible rfl
                 rotate_left
                 ·simp only [Act.put, zp1, zp2, zp3, i64_w, i32_w]
                  rfl
                 refine pure_ (i := 3) (N := some 58) (v := ?_) (a' := ?_) #[zf, zt, zf, zt, zf, zf, zf, zf, zf] rfl rfl (any_of HT_.out (by kernel_rfl)) (fun _ _ _ h => h) (Or.inl ⟨by rfl, ?_⟩) ?_ ?_
                 rotate_left
                 ·intro w'
                  go_simp
                  with_reducible rfl
                 rotate_left
                 ·simp only [Act.put, zp1, zp2, zp3, i64_w, i32_w]
                  rfl
                 refine pure_ (i := 4) (N := some 59) (v := ?_) (a' := ?_) #[zf, zt, zf, zt, zt, zf, zf, zf, zf] rfl rfl (any_of HT_.out (by kernel_rfl)) (fun _ _ _ h => h) (Or.inl ⟨by rfl, ?_⟩) ?_ ?_
                 rotate_left
                 ·intro w'
                  go_simp
                  with_reducible rfl
                 rotate_left
                 ·simp only [Act.put, zp1, zp2, zp3, i64_w, i32_w]
                  rfl
                 refine take_ (i := 5) (N := some 60) (v := ?_) (a' := ?_) #[zf, zt, zf, zt, zt, zt, zf, zf, zf] rfl rfl (take_ofW HT_.out HW_.out (by kernel_rfl)) (fun _ _ _ h => h) (Or.inl ⟨by rfl, ?_⟩) hHeld ?_ ?_
                 rotate_left
                 ·rintro w' ⟨s0, s1⟩
                  go_simp
                  with_reducible rfl
                 rotate_left
                 ·simp only [Act.put, zp1, zp2, zp3, i64_w, i32_w]
                  rfl
                 refine join_ (σ := Value × Value × Value) 2 #[zt, zt, zt, zt, zt, zt, zt, zf, zf] (fun s_ => [(55, s_.1), (57, s_.2.1), (61, s_.2.2)]) (fun s_ w' => (w'.cell? ad346 = some (.slice A346_0 ((rd_T68 t327 0).f0).length c346_0) ∧ w'.cell? ⟨ad346.block, ad346.off + 1, none⟩ = some (.int .i64 ((rd_T68 t327 0).f1))) ∧ (Kd.V (Kd.int .i64) 3 w' w.heap.size (fun k_ => some k_ ≠ (.slice (some ad346) t327.length co35 : Value).ownBlock ∧ some k_ ≠ (.slice (some ⟨go17, 0, none⟩) y336.length co17 : Value).ownBlock ∧ some k_ ≠ (s_.2.1 : Value).ownBlock ∧ some k_ ≠ (s_.2.2 : Value).ownBlock) (.slice A346_0 ((rd_T68 t327 0).f0).length c346_0) ((rd_T68 t327 0).f0)) ∧ (Kd.N k68 68 w' w.heap.size (fun k_ => some k_ ≠ (.slice (some ⟨go17, 0, none⟩) y336.length co17 : Value).ownBlock ∧ some k_ ≠ (s_.2.1 : Value).ownBlock ∧ some k_ ≠ (s_.2.2 : Value).ownBlock) (.slice (some ad346) t327.length co35) t327) ∧ (Kd.N k68 68 w' w.heap.size (fun k_ => some k_ ≠ (s_.2.1 : Value).ownBlock ∧ some k_ ≠ (s_.2.2 : Value).ownBlock) (.slice (some ⟨go17, 0, none⟩) y336.length co17) y339) ∧ (Kd.N k68 68 w' w.heap.size (fun k_ => some k_ ≠ (.slice (some ⟨go17, 0, none⟩) y336.length co17 : Value).ownBlock ∧ some k_ ≠ (s_.2.2 : Value).ownBlock) s_.2.1 y343) ∧ (Kd.N k68 68 w' w.heap.size (fun k_ => some k_ ≠ (.slice (some ad346) t327.length co35 : Value).ownBlock ∧ some k_ ≠ (.slice (some ⟨go17, 0, none⟩) y336.length co17 : Value).ownBlock ∧ some k_ ≠ (s_.2.1 : Value).ownBlock) s_.2.2 y347) ∧ (Below w.heap.size w w')) ?_ ?_
                 rotate_left
                 ·intro hCont
                  refine two_ (i := 0) (j := 6) (Ni := some 55) (Nj := some 61) #[zt, zt, zf, zt, zt, zt, zf, zf, zf] #[zf, zt, zf, zt, zt, zt, zt, zf, zf] rfl rfl rfl rfl (two_of HT_.out (by kernel_rfl)) (by decide) (by decide) (fun K hK => ?_) (fun K hK => ?_)
                  ·skip
                   refine Kd.N_lit_step k68 _ 68 ?hg (N' := 55) ?hd (xs := ([] : List (S68))) (inner := []) (ok := (fun k_ => some k_ ≠ (.slice (some ad346) t327.length co35 : Value).ownBlock ∧ some k_ ≠ (.slice (some ⟨go17, 0, none⟩) y336.length co17 : Value).ownBlock)) (okp := (fun k_ => some k_ ≠ (.slice (some ad346) t327.length co35 : Value).ownBlock ∧ some k_ ≠ (.slice (some ⟨go17, 0, none⟩) y336.length co17 : Value).ownBlock)) ?hr ?hp (fun _ hk => hk) ((show ∀ k_, w44.heap.size ≤ k_ → (fun k_ => some k_ ≠ (.slice (some ad346) t327.length co35 : Value).ownBlock ∧ some k_ ≠ (.slice (some ⟨go17, 0, none⟩) y336.length co17 : Value).ownBlock) k_ from fun k_ hk => ⟨Kd.fresh' (Kd.N_lt (by (with_reducible repeat (first | apply Kd.N_alloc | apply Kd.N_drewN | apply Kd.N_drew)); exact HO329.out)) k_ hk, Kd.fresh' (Kd.N_lt (by (with_reducible repeat (first | apply Kd.N_alloc | apply Kd.N_drewN | apply Kd.N_drew)); exact HO338.out)) k_ hk⟩) _ (Nat.le_refl _)) (Below.refl _ _) (Nat.le_refl _) (by simp) ?_; (case hd => rfl); (case hg => rfl); (case hr => first | (go_simp; done) | (go_simp; rfl)); (case hp => exact (Reps.none _ _))
                   intro v341 w45 ho46 hb hg_ hnew_
                   have HS0_ := (hb.cell (World.block_lt_of_cell? _ _ (hHeld.1))).trans (hHeld.1)
                   have HS1_ := (hb.cell (World.block_lt_of_cell? _ _ (hHeld.2))).trans (hHeld.2)
                   clear hg_ hnew_
                   (first | rw [← Ny340.out] at ho46 | (simp only [Int.reduceToNat] at ho46; rw [← Ny340.out] at ho46))
                   have n0_ := Aside0.mk (Kd.N_elder' (by (with_reducible repeat (first | apply Kd.N_alloc | apply Kd.N_drewN | apply Kd.N_drew)); exact HO329.out) (Kd.N_base ho46) hb)
                   have n1_ := Aside0.mk (Kd.N_elder' (by (with_reducible repeat (first | apply Kd.N_alloc | apply Kd.N_drewN | apply Kd.N_drew)); exact HO338.out) (Kd.N_base ho46) hb)
                   have n2_ := Aside0.mk (Kd.V_elder' (by (with_reducible repeat (first | apply Kd.V_alloc | apply Kd.V_drewN | apply Kd.V_drew)); exact HL346_0.out) (Kd.N_base ho46) hb)
                   have n3_ := Aside0.mk (Kd.N_lower ho46 (below_size zhb))
                   have n4_ := Aside0.mk (Kd.C_below (by repeat (first | (with_reducible exact HR346_0.out) | (with_reducible refine Kd.C_alloc ?_ _) | (with_reducible refine Kd.C_drewN ?_ _) | (with_reducible refine Kd.C_drew ?_) | exact HR346_0.out)) hb)
                   have n5_ := Aside0.mk (below_step zhb hb)
                   clear HO329
                   clear HO338
                   clear HL346_0
                   clear HR346_0
                   clear HB
                   have HO329 := n0_
                   have HO338 := n1_
                   have HL346_0 := n2_
                   have HO342 := n3_
                   have HR346_0 := n4_
                   have HB := n5_
                   clear n0_ n1_ n2_ n3_ n4_ n5_
                   clear hb ho46
                   refine hK.out _ _ ⟨HS0_, HS1_⟩ (fun hHeld => ?_)
                   clear hK K
                   refine norm_ (a' := ?_) ?_ ?_
                   rotate_left
                   ·show Act.put _ (some 55) _ = _
                    simp only [Act.put, zp1, zp2, zp3, i64_w, i32_w]
                    rfl
                   refine two_ (i := 2) (j := 6) (Ni := some 57) (Nj := some 61) #[zt, zt, zt, zt, zt, zt, zf, zf, zf] #[zt, zt, zf, zt, zt, zt, zt, zf, zf] rfl rfl rfl rfl (two_of HT_.out (by kernel_rfl)) (by decide) (by decide) (fun K hK => ?_) (fun K hK => ?_)
                   ·skip
                    refine Kd.N_append_rows_step k68 (w0 := w) w.heap.size (by rfl) (.tmp 55) (.tmp 56) 33 68 (.agg #[(.slice none 0 0), (.int .i64 0)]) 32 rfl Try.underlying33 info68 rfl (by decide) (by omega) v341 y340 t327 _ _ _ (fun k_ => some k_ ≠ (.slice (some ⟨go17, 0, none⟩) y336.length co17 : Value).ownBlock) (fun k_ => ((fun k_ => some k_ ≠ (.slice (some ⟨go17, 0, none⟩) y336.length co17 : Value).ownBlock)) k_ ∧ some k_ ≠ (v341 : Value).ownBlock) rfl rfl ?aO ?aR (fun _ hk => hk) ?aF ?aB ?aS ?aL ?_
                    (case aR => exact (by skip; exact Kd.N_F (Kd.N_mono (ok' := (fun k_ => ((fun k_ => some k_ ≠ (.slice (some ⟨go17, 0, none⟩) y336.length co17 : Value).ownBlock)) k_ ∧ some k_ ≠ (v341 : Value).ownBlock)) (HO329.out) (fun k_ hk => ⟨hk.1.2, hk.2⟩))))
                    (case aB => exact zhb)
                    (case aF => exact (fun k_ hk => Kd.fresh' (Kd.N_lt (by (with_reducible repeat (first | apply Kd.N_alloc | apply Kd.N_drewN | apply Kd.N_drew)); exact HO338.out)) k_ hk))
                    (case aO => exact (by (with_reducible repeat (first | apply Kd.N_alloc | apply Kd.N_drewN | apply Kd.N_drew)); exact Kd.N_mono HO342.out (fun _ hk => hk.2)))
                    (case aS => exact (below_size zhb))
                    (case aL => have := LMc18.out; omega)
                    intro v344 w47 ho hb hg hat
                    have HS0_ := cell_grown hg (hHeld.1) (by first | (rw [add_block]; exact (by intro e_; have h_ := HO342.out.1 _ e_.symm; first | exact h_ rfl | exact h_.1 rfl | exact h_.2 rfl | exact h_.1.1 rfl | exact h_.1.2 rfl | exact h_.2.1 rfl | exact h_.2.2 rfl | exact h_.1.1.1 rfl | exact h_.1.1.2 rfl | exact h_.2.2.1 rfl | exact h_.2.2.2 rfl | exact h_.1.2.1 rfl | exact h_.1.2.2 rfl | exact h_.1.1.1.1 rfl | exact h_.1.1.1.2 rfl | exact h_.2.2.2.1 rfl | exact h_.2.2.2.2 rfl)) | (show some (Addr.add _ _).block ≠ _; rw [add_block]; exact (by intro e_; have h_ := HO342.out.1 _ e_.symm; first | exact h_ rfl | exact h_.1 rfl | exact h_.2 rfl | exact h_.1.1 rfl | exact h_.1.2 rfl | exact h_.2.1 rfl | exact h_.2.2 rfl | exact h_.1.1.1 rfl | exact h_.1.1.2 rfl | exact h_.2.2.1 rfl | exact h_.2.2.2 rfl | exact h_.1.2.1 rfl | exact h_.1.2.2 rfl | exact h_.1.1.1.1 rfl | exact h_.1.1.1.2 rfl | exact h_.2.2.2.1 rfl | exact h_.2.2.2.2 rfl)) | exact (by intro e_; have h_ := HO342.out.1 _ e_.symm; first | exact h_ rfl | exact h_.1 rfl | exact h_.2 rfl | exact h_.1.1 rfl | exact h_.1.2 rfl | exact h_.2.1 rfl | exact h_.2.2 rfl | exact h_.1.1.1 rfl | exact h_.1.1.2 rfl | exact h_.2.2.1 rfl | exact h_.2.2.2 rfl | exact h_.1.2.1 rfl | exact h_.1.2.2 rfl | exact h_.1.1.1.1 rfl | exact h_.1.1.1.2 rfl | exact h_.2.2.2.1 rfl | exact h_.2.2.2.2 rfl))
                    have HS1_ := cell_grown hg (hHeld.2) (by first | (rw [add_block]; exact (by intro e_; have h_ := HO342.out.1 _ e_.symm; first | exact h_ rfl | exact h_.1 rfl | exact h_.2 rfl | exact h_.1.1 rfl | exact h_.1.2 rfl | exact h_.2.1 rfl | exact h_.2.2 rfl | exact h_.1.1.1 rfl | exact h_.1.1.2 rfl | exact h_.2.2.1 rfl | exact h_.2.2.2 rfl | exact h_.1.2.1 rfl | exact h_.1.2.2 rfl | exact h_.1.1.1.1 rfl | exact h_.1.1.1.2 rfl | exact h_.2.2.2.1 rfl | exact h_.2.2.2.2 rfl)) | (show some (Addr.add _ _).block ≠ _; rw [add_block]; exact (by intro e_; have h_ := HO342.out.1 _ e_.symm; first | exact h_ rfl | exact h_.1 rfl | exact h_.2 rfl | exact h_.1.1 rfl | exact h_.1.2 rfl | exact h_.2.1 rfl | exact h_.2.2 rfl | exact h_.1.1.1 rfl | exact h_.1.1.2 rfl | exact h_.2.2.1 rfl | exact h_.2.2.2 rfl | exact h_.1.2.1 rfl | exact h_.1.2.2 rfl | exact h_.1.1.1.1 rfl | exact h_.1.1.1.2 rfl | exact h_.2.2.2.1 rfl | exact h_.2.2.2.2 rfl)) | exact (by intro e_; have h_ := HO342.out.1 _ e_.symm; first | exact h_ rfl | exact h_.1 rfl | exact h_.2 rfl | exact h_.1.1 rfl | exact h_.1.2 rfl | exact h_.2.1 rfl | exact h_.2.2 rfl | exact h_.1.1.1 rfl | exact h_.1.1.2 rfl | exact h_.2.2.1 rfl | exact h_.2.2.2 rfl | exact h_.1.2.1 rfl | exact h_.1.2.2 rfl | exact h_.1.1.1.1 rfl | exact h_.1.1.1.2 rfl | exact h_.2.2.2.1 rfl | exact h_.2.2.2.2 rfl))
                    rw [← Ny343.out] at ho
                    have n0_ := Aside0.mk (Kd.N_afterv (ok := (fun k_ => some k_ ≠ (.slice (some ⟨go17, 0, none⟩) y336.length co17 : Value).ownBlock)) (by (with_reducible repeat (first | apply Kd.N_alloc | apply Kd.N_drewN | apply Kd.N_drew)); exact Kd.N_mono HO329.out (fun _ hk => ⟨hk.1.2, hk.2⟩)) hg hat)
                    have n1_ := Aside0.mk (Kd.N_afterv (ok := (fun _ => True)) (by (with_reducible repeat (first | apply Kd.N_alloc | apply Kd.N_drewN | apply Kd.N_drew)); exact HO338.out) hg hat)
                    have n2_ := Aside0.mk (Kd.V_afterv (ok := (fun k_ => some k_ ≠ (.slice (some ad346) t327.length co35 : Value).ownBlock ∧ some k_ ≠ (.slice (some ⟨go17, 0, none⟩) y336.length co17 : Value).ownBlock)) (by (with_reducible repeat (first | apply Kd.V_alloc | apply Kd.V_drewN | apply Kd.V_drew)); exact Kd.V_mono HL346_0.out (fun _ hk => ⟨⟨hk.1.2, hk.1.1.2⟩, hk.2⟩)) hg hat)
                    have n3_ := Aside0.mk (hb)
                    have n4_ := Aside0.mk (ho)
                    clear HO329
                    clear HO338
                    clear HL346_0
                    clear HB
                    clear HO342
                    have HO329 := n0_
                    have HO338 := n1_
                    have HL346_0 := n2_
                    have HB := n3_
                    have HO345 := n4_
                    clear n0_ n1_ n2_ n3_ n4_
                    clear ho hb hg hat
                    refine hK.out _ _ ⟨HS0_, HS1_⟩ (fun hHeld => ?_)
                    clear hK K
                    refine norm_ (a' := ?_) ?_ ?_
                    rotate_left
                    ·show Act.put _ (some 57) _ = _
                     simp only [Act.put, zp1, zp2, zp3, i64_w, i32_w]
                     rfl
                    refine one_ (i := 6) (N := some 61) #[zt, zt, zt, zt, zt, zt, zt, zf, zf] rfl rfl (one_of HT_.out (by kernel_rfl)) (by decide) (fun K hK => ?_)
                    refine Kd.N_lit_step k68 _ 68 ?hg (N' := 61) ?hd (xs := ([(⟨(rd_T68 t327 0).f0, (rd_T68 t327 0).f1⟩ : S68)] : List (S68))) (inner := [.slice A346_0 ((rd_T68 t327 0).f0).length c346_0, .int .i64 ((rd_T68 t327 0).f1)]) (ok := (fun k_ => some k_ ≠ (.slice (some ad346) t327.length co35 : Value).ownBlock ∧ some k_ ≠ (.slice (some ⟨go17, 0, none⟩) y336.length co17 : Value).ownBlock ∧ some k_ ≠ (v344 : Value).ownBlock)) (okp := (fun k_ => some k_ ≠ (.slice (some ad346) t327.length co35 : Value).ownBlock ∧ some k_ ≠ (.slice (some ⟨go17, 0, none⟩) y336.length co17 : Value).ownBlock ∧ some k_ ≠ (v344 : Value).ownBlock)) ?hr ?hp (fun _ hk => hk) ((show ∀ k_, w47.heap.size ≤ k_ → (fun k_ => some k_ ≠ (.slice (some ad346) t327.length co35 : Value).ownBlock ∧ some k_ ≠ (.slice (some ⟨go17, 0, none⟩) y336.length co17 : Value).ownBlock ∧ some k_ ≠ (v344 : Value).ownBlock) k_ from fun k_ hk => ⟨Kd.fresh' (Kd.N_lt (by (with_reducible repeat (first | apply Kd.N_alloc | apply Kd.N_drewN | apply Kd.N_drew)); exact HO329.out)) k_ hk, Kd.fresh' (Kd.N_lt (by (with_reducible repeat (first | apply Kd.N_alloc | apply Kd.N_drewN | apply Kd.N_drew)); exact HO338.out)) k_ hk, Kd.fresh' (Kd.N_lt (by (with_reducible repeat (first | apply Kd.N_alloc | apply Kd.N_drewN | apply Kd.N_drew)); exact HO345.out)) k_ hk⟩) _ (Nat.le_refl _)) (Below.refl _ _) (Nat.le_refl _) (by simp) ?_; (case hd => rfl); (case hg => rfl); (case hr => first | (go_simp; done) | (go_simp; rfl)); (case hp => exact (Reps.c2 (show Kd.FK k68 _ _ (⟨(rd_T68 t327 0).f0, (rd_T68 t327 0).f1⟩ : S68) [.slice A346_0 ((rd_T68 t327 0).f0).length c346_0, .int .i64 ((rd_T68 t327 0).f1)] from (k68_mkF _ _ (⟨(rd_T68 t327 0).f0, (rd_T68 t327 0).f1⟩ : S68) (Kd.V_reads' (Kd.V_mono (ok' := (fun k_ => some k_ ≠ (.slice (some ad346) t327.length co35 : Value).ownBlock ∧ some k_ ≠ (.slice (some ⟨go17, 0, none⟩) y336.length co17 : Value).ownBlock ∧ some k_ ≠ (v344 : Value).ownBlock)) (HL346_0.out) (fun k_ hk => ⟨hk.1.1, ⟨hk.1.2, hk.2⟩⟩))).2.1 (Kd.V_F (Kd.V_mono (ok' := (fun k_ => some k_ ≠ (.slice (some ad346) t327.length co35 : Value).ownBlock ∧ some k_ ≠ (.slice (some ⟨go17, 0, none⟩) y336.length co17 : Value).ownBlock ∧ some k_ ≠ (v344 : Value).ownBlock)) (HL346_0.out) (fun k_ hk => ⟨hk.1.1, ⟨hk.1.2, hk.2⟩⟩))))) (Reps.none _ _)))
                    intro v348 w48 ho49 hb hg_ hnew_
                    have HS0_ := (hb.cell (World.block_lt_of_cell? _ _ (hHeld.1))).trans (hHeld.1)
                    have HS1_ := (hb.cell (World.block_lt_of_cell? _ _ (hHeld.2))).trans (hHeld.2)
                    clear hg_ hnew_
                    (first | rw [← Ny347.out] at ho49 | (simp only [Int.reduceToNat] at ho49; rw [← Ny347.out] at ho49))
                    have n0_ := Aside0.mk (Kd.N_elder' (by (with_reducible repeat (first | apply Kd.N_alloc | apply Kd.N_drewN | apply Kd.N_drew)); exact HO329.out) (Kd.N_base ho49) hb)
                    have n1_ := Aside0.mk (Kd.N_elder' (by (with_reducible repeat (first | apply Kd.N_alloc | apply Kd.N_drewN | apply Kd.N_drew)); exact HO338.out) (Kd.N_base ho49) hb)
                    have n2_ := Aside0.mk (Kd.V_elder' (by (with_reducible repeat (first | apply Kd.V_alloc | apply Kd.V_drewN | apply Kd.V_drew)); exact HL346_0.out) (Kd.N_base ho49) hb)
                    have n3_ := Aside0.mk (Kd.N_elder' (by (with_reducible repeat (first | apply Kd.N_alloc | apply Kd.N_drewN | apply Kd.N_drew)); exact HO345.out) (Kd.N_base ho49) hb)
                    have n4_ := Aside0.mk (Kd.N_lower ho49 (below_size zhb))
                    have n5_ := Aside0.mk (below_step zhb hb)
                    clear HO329
                    clear HO338
                    clear HL346_0
                    clear HO345
                    clear HB
                    have HO329 := n0_
                    have HO338 := n1_
                    have HL346_0 := n2_
                    have HO345 := n3_
                    have HO349 := n4_
                    have HB := n5_
                    clear n0_ n1_ n2_ n3_ n4_ n5_
                    clear hb ho49
                    refine hK.out _ _ ⟨HS0_, HS1_⟩ (fun hHeld => ?_)
                    clear hK K
                    refine norm_ (a' := ?_) ?_ ?_
                    rotate_left
                    ·show Act.put _ (some 61) _ = _
                     simp only [Act.put, zp1, zp2, zp3, i64_w, i32_w]
                     rfl
                    exact norm_ (by simp only [putAll, Act.put, zp1, zp2, zp3]) (hCont (v341, v344, v348) _ ⟨hHeld, (by (with_reducible repeat (first | apply Kd.V_alloc | apply Kd.V_drewN | apply Kd.V_drew)); exact Kd.V_mono HL346_0.out (fun _ hk => ⟨hk.1.1.1, ⟨hk.1.1.2, ⟨hk.1.2, hk.2⟩⟩⟩)), (by (with_reducible repeat (first | apply Kd.N_alloc | apply Kd.N_drewN | apply Kd.N_drew)); exact Kd.N_mono HO329.out (fun _ hk => ⟨hk.1.1, ⟨hk.1.2, hk.2⟩⟩)), (by (with_reducible repeat (first | apply Kd.N_alloc | apply Kd.N_drewN | apply Kd.N_drew)); exact Kd.N_mono HO338.out (fun _ hk => ⟨hk.1.2, hk.2⟩)), (by (with_reducible repeat (first | apply Kd.N_alloc | apply Kd.N_drewN | apply Kd.N_drew)); exact HO345.out), (by (with_reducible repeat (first | apply Kd.N_alloc | apply Kd.N_drewN | apply Kd.N_drew)); exact HO349.out), zhb⟩)
                   ·skip
                    refine Kd.N_lit_step k68 _ 68 ?hg (N' := 61) ?hd (xs := ([(⟨(rd_T68 t327 0).f0, (rd_T68 t327 0).f1⟩ : S68)] : List (S68))) (inner := [.slice A346_0 ((rd_T68 t327 0).f0).length c346_0, .int .i64 ((rd_T68 t327 0).f1)]) (ok := (fun k_ => some k_ ≠ (.slice (some ad346) t327.length co35 : Value).ownBlock ∧ some k_ ≠ (.slice (some ⟨go17, 0, none⟩) y336.length co17 : Value).ownBlock ∧ some k_ ≠ (v341 : Value).ownBlock)) (okp := (fun k_ => some k_ ≠ (.slice (some ad346) t327.length co35 : Value).ownBlock ∧ some k_ ≠ (.slice (some ⟨go17, 0, none⟩) y336.length co17 : Value).ownBlock ∧ some k_ ≠ (v341 : Value).ownBlock)) ?hr ?hp (fun _ hk => hk) ((show ∀ k_, w45.heap.size ≤ k_ → (fun k_ => some k_ ≠ (.slice (some ad346) t327.length co35 : Value).ownBlock ∧ some k_ ≠ (.slice (some ⟨go17, 0, none⟩) y336.length co17 : Value).ownBlock ∧ some k_ ≠ (v341 : Value).ownBlock) k_ from fun k_ hk => ⟨Kd.fresh' (Kd.N_lt (by (with_reducible repeat (first | apply Kd.N_alloc | apply Kd.N_drewN | apply Kd.N_drew)); exact HO329.out)) k_ hk, Kd.fresh' (Kd.N_lt (by (with_reducible repeat (first | apply Kd.N_alloc | apply Kd.N_drewN | apply Kd.N_drew)); exact HO338.out)) k_ hk, Kd.fresh' (Kd.N_lt (by (with_reducible repeat (first | apply Kd.N_alloc | apply Kd.N_drewN | apply Kd.N_drew)); exact HO342.out)) k_ hk⟩) _ (Nat.le_refl _)) (Below.refl _ _) (Nat.le_refl _) (by simp) ?_; (case hd => rfl); (case hg => rfl); (case hr => first | (go_simp; done) | (go_simp; rfl)); (case hp => exact (Reps.c2 (show Kd.FK k68 _ _ (⟨(rd_T68 t327 0).f0, (rd_T68 t327 0).f1⟩ : S68) [.slice A346_0 ((rd_T68 t327 0).f0).length c346_0, .int .i64 ((rd_T68 t327 0).f1)] from (k68_mkF _ _ (⟨(rd_T68 t327 0).f0, (rd_T68 t327 0).f1⟩ : S68) (Kd.V_reads' (Kd.V_mono (ok' := (fun k_ => some k_ ≠ (.slice (some ad346) t327.length co35 : Value).ownBlock ∧ some k_ ≠ (.slice (some ⟨go17, 0, none⟩) y336.length co17 : Value).ownBlock ∧ some k_ ≠ (v341 : Value).ownBlock)) (HL346_0.out) (fun k_ hk => ⟨hk.1.2, ⟨hk.1.1.2, hk.2⟩⟩))).2.1 (Kd.V_F (Kd.V_mono (ok' := (fun k_ => some k_ ≠ (.slice (some ad346) t327.length co35 : Value).ownBlock ∧ some k_ ≠ (.slice (some ⟨go17, 0, none⟩) y336.length co17 : Value).ownBlock ∧ some k_ ≠ (v341 : Value).ownBlock)) (HL346_0.out) (fun k_ hk => ⟨hk.1.2, ⟨hk.1.1.2, hk.2⟩⟩))))) (Reps.none _ _)))
                    intro v348 w47 ho48 hb hg_ hnew_
                    have HS0_ := (hb.cell (World.block_lt_of_cell? _ _ (hHeld.1))).trans (hHeld.1)
                    have HS1_ := (hb.cell (World.block_lt_of_cell? _ _ (hHeld.2))).trans (hHeld.2)
                    clear hg_ hnew_
                    (first | rw [← Ny347.out] at ho48 | (simp only [Int.reduceToNat] at ho48; rw [← Ny347.out] at ho48))
                    have n0_ := Aside0.mk (Kd.N_elder' (by (with_reducible repeat (first | apply Kd.N_alloc | apply Kd.N_drewN | apply Kd.N_drew)); exact HO329.out) (Kd.N_base ho48) hb)
                    have n1_ := Aside0.mk (Kd.N_elder' (by (with_reducible repeat (first | apply Kd.N_alloc | apply Kd.N_drewN | apply Kd.N_drew)); exact HO338.out) (Kd.N_base ho48) hb)
                    have n2_ := Aside0.mk (Kd.V_elder' (by (with_reducible repeat (first | apply Kd.V_alloc | apply Kd.V_drewN | apply Kd.V_drew)); exact HL346_0.out) (Kd.N_base ho48) hb)
                    have n3_ := Aside0.mk (Kd.N_elder' (by (with_reducible repeat (first | apply Kd.N_alloc | apply Kd.N_drewN | apply Kd.N_drew)); exact HO342.out) (Kd.N_base ho48) hb)
                    have n4_ := Aside0.mk (Kd.N_lower ho48 (below_size zhb))
                    have n5_ := Aside0.mk (Kd.C_below (by repeat (first | (with_reducible exact HR346_0.out) | (with_reducible refine Kd.C_alloc ?_ _) | (with_reducible refine Kd.C_drewN ?_ _) | (with_reducible refine Kd.C_drew ?_) | exact HR346_0.out)) hb)
                    have n6_ := Aside0.mk (below_step zhb hb)
                    clear HO329
                    clear HO338
                    clear HL346_0
                    clear HO342
                    clear HR346_0
                    clear HB
                    have HO329 := n0_
                    have HO338 := n1_
                    have HL346_0 := n2_
                    have HO342 := n3_
                    have HO349 := n4_
                    have HR346_0 := n5_
                    have HB := n6_
                    clear n0_ n1_ n2_ n3_ n4_ n5_ n6_
                    clear hb ho48
                    refine hK.out _ _ ⟨HS0_, HS1_⟩ (fun hHeld => ?_)
                    clear hK K
                    refine norm_ (a' := ?_) ?_ ?_
                    rotate_left
                    ·show Act.put _ (some 61) _ = _
                     simp only [Act.put, zp1, zp2, zp3, i64_w, i32_w]
                     rfl
                    refine one_ (i := 2) (N := some 57) #[zt, zt, zt, zt, zt, zt, zt, zf, zf] rfl rfl (one_of HT_.out (by kernel_rfl)) (by decide) (fun K hK => ?_)
                    refine Kd.N_append_rows_step k68 (w0 := w) w.heap.size (by rfl) (.tmp 55) (.tmp 56) 33 68 (.agg #[(.slice none 0 0), (.int .i64 0)]) 32 rfl Try.underlying33 info68 rfl (by decide) (by omega) v341 y340 t327 _ _ _ (fun k_ => some k_ ≠ (.slice (some ⟨go17, 0, none⟩) y336.length co17 : Value).ownBlock ∧ some k_ ≠ (v348 : Value).ownBlock) (fun k_ => ((fun k_ => some k_ ≠ (.slice (some ⟨go17, 0, none⟩) y336.length co17 : Value).ownBlock ∧ some k_ ≠ (v348 : Value).ownBlock)) k_ ∧ some k_ ≠ (v341 : Value).ownBlock) rfl rfl ?aO ?aR (fun _ hk => hk) ?aF ?aB ?aS ?aL ?_
                    (case aR => exact (by skip; exact Kd.N_F (Kd.N_mono (ok' := (fun k_ => ((fun k_ => some k_ ≠ (.slice (some ⟨go17, 0, none⟩) y336.length co17 : Value).ownBlock ∧ some k_ ≠ (v348 : Value).ownBlock)) k_ ∧ some k_ ≠ (v341 : Value).ownBlock)) (HO329.out) (fun k_ hk => ⟨⟨hk.1.1.2, hk.2⟩, hk.1.2⟩))))
                    (case aB => exact zhb)
                    (case aF => exact (fun k_ hk => ⟨Kd.fresh' (Kd.N_lt (by (with_reducible repeat (first | apply Kd.N_alloc | apply Kd.N_drewN | apply Kd.N_drew)); exact HO338.out)) k_ hk, Kd.fresh' (Kd.N_lt (by (with_reducible repeat (first | apply Kd.N_alloc | apply Kd.N_drewN | apply Kd.N_drew)); exact HO349.out)) k_ hk⟩))
                    (case aO => exact (by (with_reducible repeat (first | apply Kd.N_alloc | apply Kd.N_drewN | apply Kd.N_drew)); exact Kd.N_mono HO342.out (fun _ hk => ⟨hk.1.2, hk.2⟩)))
                    (case aS => exact (below_size zhb))
                    (case aL => have := LMc18.out; omega)
                    intro v344 w49 ho hb hg hat
                    have HS0_ := cell_grown hg (hHeld.1) (by first | (rw [add_block]; exact (by intro e_; have h_ := HO342.out.1 _ e_.symm; first | exact h_ rfl | exact h_.1 rfl | exact h_.2 rfl | exact h_.1.1 rfl | exact h_.1.2 rfl | exact h_.2.1 rfl | exact h_.2.2 rfl | exact h_.1.1.1 rfl | exact h_.1.1.2 rfl | exact h_.2.2.1 rfl | exact h_.2.2.2 rfl | exact h_.1.2.1 rfl | exact h_.1.2.2 rfl | exact h_.1.1.1.1 rfl | exact h_.1.1.1.2 rfl | exact h_.2.2.2.1 rfl | exact h_.2.2.2.2 rfl)) | (show some (Addr.add _ _).block ≠ _; rw [add_block]; exact (by intro e_; have h_ := HO342.out.1 _ e_.symm; first | exact h_ rfl | exact h_.1 rfl | exact h_.2 rfl | exact h_.1.1 rfl | exact h_.1.2 rfl | exact h_.2.1 rfl | exact h_.2.2 rfl | exact h_.1.1.1 rfl | exact h_.1.1.2 rfl | exact h_.2.2.1 rfl | exact h_.2.2.2 rfl | exact h_.1.2.1 rfl | exact h_.1.2.2 rfl | exact h_.1.1.1.1 rfl | exact h_.1.1.1.2 rfl | exact h_.2.2.2.1 rfl | exact h_.2.2.2.2 rfl)) | exact (by intro e_; have h_ := HO342.out.1 _ e_.symm; first | exact h_ rfl | exact h_.1 rfl | exact h_.2 rfl | exact h_.1.1 rfl | exact h_.1.2 rfl | exact h_.2.1 rfl | exact h_.2.2 rfl | exact h_.1.1.1 rfl | exact h_.1.1.2 rfl | exact h_.2.2.1 rfl | exact h_.2.2.2 rfl | exact h_.1.2.1 rfl | exact h_.1.2.2 rfl | exact h_.1.1.1.1 rfl | exact h_.1.1.1.2 rfl | exact h_.2.2.2.1 rfl | exact h_.2.2.2.2 rfl))
                    have HS1_ := cell_grown hg (hHeld.2) (by first | (rw [add_block]; exact (by intro e_; have h_ := HO342.out.1 _ e_.symm; first | exact h_ rfl | exact h_.1 rfl | exact h_.2 rfl | exact h_.1.1 rfl | exact h_.1.2 rfl | exact h_.2.1 rfl | exact h_.2.2 rfl | exact h_.1.1.1 rfl | exact h_.1.1.2 rfl | exact h_.2.2.1 rfl | exact h_.2.2.2 rfl | exact h_.1.2.1 rfl | exact h_.1.2.2 rfl | exact h_.1.1.1.1 rfl | exact h_.1.1.1.2 rfl | exact h_.2.2.2.1 rfl | exact h_.2.2.2.2 rfl)) | (show some (Addr.add _ _).block ≠ _; rw [add_block]; exact (by intro e_; have h_ := HO342.out.1 _ e_.symm; first | exact h_ rfl | exact h_.1 rfl | exact h_.2 rfl | exact h_.1.1 rfl | exact h_.1.2 rfl | exact h_.2.1 rfl | exact h_.2.2 rfl | exact h_.1.1.1 rfl | exact h_.1.1.2 rfl | exact h_.2.2.1 rfl | exact h_.2.2.2 rfl | exact h_.1.2.1 rfl | exact h_.1.2.2 rfl | exact h_.1.1.1.1 rfl | exact h_.1.1.1.2 rfl | exact h_.2.2.2.1 rfl | exact h_.2.2.2.2 rfl)) | exact (by intro e_; have h_ := HO342.out.1 _ e_.symm; first | exact h_ rfl | exact h_.1 rfl | exact h_.2 rfl | exact h_.1.1 rfl | exact h_.1.2 rfl | exact h_.2.1 rfl | exact h_.2.2 rfl | exact h_.1.1.1 rfl | exact h_.1.1.2 rfl | exact h_.2.2.1 rfl | exact h_.2.2.2 rfl | exact h_.1.2.1 rfl | exact h_.1.2.2 rfl | exact h_.1.1.1.1 rfl | exact h_.1.1.1.2 rfl | exact h_.2.2.2.1 rfl | exact h_.2.2.2.2 rfl))
                    rw [← Ny343.out] at ho
                    have n0_ := Aside0.mk (Kd.N_afterv (ok := (fun k_ => some k_ ≠ (.slice (some ⟨go17, 0, none⟩) y336.length co17 : Value).ownBlock ∧ some k_ ≠ (v348 : Value).ownBlock)) (by (with_reducible repeat (first | apply Kd.N_alloc | apply Kd.N_drewN | apply Kd.N_drew)); exact Kd.N_mono HO329.out (fun _ hk => ⟨⟨hk.1.1.2, hk.2⟩, hk.1.2⟩)) hg hat)
                    have n1_ := Aside0.mk (Kd.N_afterv (ok := (fun k_ => some k_ ≠ (v348 : Value).ownBlock)) (by (with_reducible repeat (first | apply Kd.N_alloc | apply Kd.N_drewN | apply Kd.N_drew)); exact Kd.N_mono HO338.out (fun _ hk => ⟨hk.2, hk.1.2⟩)) hg hat)
                    have n2_ := Aside0.mk (Kd.V_afterv (ok := (fun k_ => some k_ ≠ (.slice (some ad346) t327.length co35 : Value).ownBlock ∧ some k_ ≠ (.slice (some ⟨go17, 0, none⟩) y336.length co17 : Value).ownBlock ∧ some k_ ≠ (v348 : Value).ownBlock)) (by (with_reducible repeat (first | apply Kd.V_alloc | apply Kd.V_drewN | apply Kd.V_drew)); exact Kd.V_mono HL346_0.out (fun _ hk => ⟨⟨hk.1.1.2, ⟨hk.1.1.1.2, hk.2⟩⟩, hk.1.2⟩)) hg hat)
                    have n3_ := Aside0.mk (Kd.N_afterv (ok := (fun k_ => some k_ ≠ (.slice (some ad346) t327.length co35 : Value).ownBlock ∧ some k_ ≠ (.slice (some ⟨go17, 0, none⟩) y336.length co17 : Value).ownBlock)) (by (with_reducible repeat (first | apply Kd.N_alloc | apply Kd.N_drewN | apply Kd.N_drew)); exact Kd.N_mono HO349.out (fun _ hk => ⟨⟨hk.1, hk.2.1⟩, hk.2.2⟩)) hg hat)
                    have n4_ := Aside0.mk (hb)
                    have n5_ := Aside0.mk (ho)
                    clear HO329
                    clear HO338
                    clear HL346_0
                    clear HO349
                    clear HB
                    clear HO342
                    have HO329 := n0_
                    have HO338 := n1_
                    have HL346_0 := n2_
                    have HO349 := n3_
                    have HB := n4_
                    have HO345 := n5_
                    clear n0_ n1_ n2_ n3_ n4_ n5_
                    clear ho hb hg hat
                    refine hK.out _ _ ⟨HS0_, HS1_⟩ (fun hHeld => ?_)
                    clear hK K
                    refine norm_ (a' := ?_) ?_ ?_
                    rotate_left
                    ·show Act.put _ (some 57) _ = _
                     simp only [Act.put, zp1, zp2, zp3, i64_w, i32_w]
                     rfl
                    exact norm_ (by simp only [putAll, Act.put, zp1, zp2, zp3]) (hCont (v341, v344, v348) _ ⟨hHeld, (by (with_reducible repeat (first | apply Kd.V_alloc | apply Kd.V_drewN | apply Kd.V_drew)); exact Kd.V_mono HL346_0.out (fun _ hk => ⟨hk.1.1, ⟨hk.1.2.1, ⟨hk.2, hk.1.2.2⟩⟩⟩)), (by (with_reducible repeat (first | apply Kd.N_alloc | apply Kd.N_drewN | apply Kd.N_drew)); exact Kd.N_mono HO329.out (fun _ hk => ⟨hk.1.1, ⟨hk.2, hk.1.2⟩⟩)), (by (with_reducible repeat (first | apply Kd.N_alloc | apply Kd.N_drewN | apply Kd.N_drew)); exact Kd.N_mono HO338.out (fun _ hk => ⟨hk.2, hk.1⟩)), (by (with_reducible repeat (first | apply Kd.N_alloc | apply Kd.N_drewN | apply Kd.N_drew)); exact HO345.out), (by (with_reducible repeat (first | apply Kd.N_alloc | apply Kd.N_drewN | apply Kd.N_drew)); exact Kd.N_mono HO349.out (fun _ hk => ⟨hk.1.1, ⟨hk.1.2, hk.2⟩⟩)), zhb⟩)
                  ·skip
                   refine Kd.N_lit_step k68 _ 68 ?hg (N' := 61) ?hd (xs := ([(⟨(rd_T68 t327 0).f0, (rd_T68 t327 0).f1⟩ : S68)] : List (S68))) (inner := [.slice A346_0 ((rd_T68 t327 0).f0).length c346_0, .int .i64 ((rd_T68 t327 0).f1)]) (ok := (fun k_ => some k_ ≠ (.slice (some ad346) t327.length co35 : Value).ownBlock ∧ some k_ ≠ (.slice (some ⟨go17, 0, none⟩) y336.length co17 : Value).ownBlock)) (okp := (fun k_ => some k_ ≠ (.slice (some ad346) t327.length co35 : Value).ownBlock ∧ some k_ ≠ (.slice (some ⟨go17, 0, none⟩) y336.length co17 : Value).ownBlock)) ?hr ?hp (fun _ hk => hk) ((show ∀ k_, w44.heap.size ≤ k_ → (fun k_ => some k_ ≠ (.slice (some ad346) t327.length co35 : Value).ownBlock ∧ some k_ ≠ (.slice (some ⟨go17, 0, none⟩) y336.length co17 : Value).ownBlock) k_ from fun k_ hk => ⟨Kd.fresh' (Kd.N_lt (by (with_reducible repeat (first | apply Kd.N_alloc | apply Kd.N_drewN | apply Kd.N_drew)); exact HO329.out)) k_ hk, Kd.fresh' (Kd.N_lt (by (with_reducible repeat (first | apply Kd.N_alloc | apply Kd.N_drewN | apply Kd.N_drew)); exact HO338.out)) k_ hk⟩) _ (Nat.le_refl _)) (Below.refl _ _) (Nat.le_refl _) (by simp) ?_; (case hd => rfl); (case hg => rfl); (case hr => first | (go_simp; done) | (go_simp; rfl)); (case hp => exact (Reps.c2 (show Kd.FK k68 _ _ (⟨(rd_T68 t327 0).f0, (rd_T68 t327 0).f1⟩ : S68) [.slice A346_0 ((rd_T68 t327 0).f0).length c346_0, .int .i64 ((rd_T68 t327 0).f1)] from (k68_mkF _ _ (⟨(rd_T68 t327 0).f0, (rd_T68 t327 0).f1⟩ : S68) (Kd.V_reads' (Kd.V_mono (ok' := (fun k_ => some k_ ≠ (.slice (some ad346) t327.length co35 : Value).ownBlock ∧ some k_ ≠ (.slice (some ⟨go17, 0, none⟩) y336.length co17 : Value).ownBlock)) (HL346_0.out) (fun k_ hk => ⟨hk.2, hk.1.2⟩))).2.1 (Kd.V_F (Kd.V_mono (ok' := (fun k_ => some k_ ≠ (.slice (some ad346) t327.length co35 : Value).ownBlock ∧ some k_ ≠ (.slice (some ⟨go17, 0, none⟩) y336.length co17 : Value).ownBlock)) (HL346_0.out) (fun k_ hk => ⟨hk.2, hk.1.2⟩))))) (Reps.none _ _)))
                   intro v348 w45 ho46 hb hg_ hnew_
                   have HS0_ := (hb.cell (World.block_lt_of_cell? _ _ (hHeld.1))).trans (hHeld.1)
                   have HS1_ := (hb.cell (World.block_lt_of_cell? _ _ (hHeld.2))).trans (hHeld.2)
                   clear hg_ hnew_
                   (first | rw [← Ny347.out] at ho46 | (simp only [Int.reduceToNat] at ho46; rw [← Ny347.out] at ho46))
                   have n0_ := Aside0.mk (Kd.N_elder' (by (with_reducible repeat (first | apply Kd.N_alloc | apply Kd.N_drewN | apply Kd.N_drew)); exact HO329.out) (Kd.N_base ho46) hb)
                   have n1_ := Aside0.mk (Kd.N_elder' (by (with_reducible repeat (first | apply Kd.N_alloc | apply Kd.N_drewN | apply Kd.N_drew)); exact HO338.out) (Kd.N_base ho46) hb)
                   have n2_ := Aside0.mk (Kd.V_elder' (by (with_reducible repeat (first | apply Kd.V_alloc | apply Kd.V_drewN | apply Kd.V_drew)); exact HL346_0.out) (Kd.N_base ho46) hb)
                   have n3_ := Aside0.mk (Kd.N_lower ho46 (below_size zhb))
                   have n4_ := Aside0.mk (Kd.C_below (by repeat (first | (with_reducible exact HR346_0.out) | (with_reducible refine Kd.C_alloc ?_ _) | (with_reducible refine Kd.C_drewN ?_ _) | (with_reducible refine Kd.C_drew ?_) | exact HR346_0.out)) hb)
                   have n5_ := Aside0.mk (below_step zhb hb)
                   clear HO329
                   clear HO338
                   clear HL346_0
                   clear HR346_0
                   clear HB
                   have HO329 := n0_
                   have HO338 := n1_
                   have HL346_0 := n2_
                   have HO349 := n3_
                   have HR346_0 := n4_
                   have HB := n5_
                   clear n0_ n1_ n2_ n3_ n4_ n5_
                   clear hb ho46
                   refine hK.out _ _ ⟨HS0_, HS1_⟩ (fun hHeld => ?_)
                   clear hK K
                   refine norm_ (a' := ?_) ?_ ?_
                   rotate_left
                   ·show Act.put _ (some 61) _ = _
                    simp only [Act.put, zp1, zp2, zp3, i64_w, i32_w]
                    rfl
                   refine one_ (i := 0) (N := some 55) #[zt, zt, zf, zt, zt, zt, zt, zf, zf] rfl rfl (one_of HT_.out (by kernel_rfl)) (by decide) (fun K hK => ?_)
                   refine Kd.N_lit_step k68 _ 68 ?hg (N' := 55) ?hd (xs := ([] : List (S68))) (inner := []) (ok := (fun k_ => some k_ ≠ (.slice (some ad346) t327.length co35 : Value).ownBlock ∧ some k_ ≠ (.slice (some ⟨go17, 0, none⟩) y336.length co17 : Value).ownBlock ∧ some k_ ≠ (v348 : Value).ownBlock)) (okp := (fun k_ => some k_ ≠ (.slice (some ad346) t327.length co35 : Value).ownBlock ∧ some k_ ≠ (.slice (some ⟨go17, 0, none⟩) y336.length co17 : Value).ownBlock ∧ some k_ ≠ (v348 : Value).ownBlock)) ?hr ?hp (fun _ hk => hk) ((show ∀ k_, w45.heap.size ≤ k_ → (fun k_ => some k_ ≠ (.slice (some ad346) t327.length co35 : Value).ownBlock ∧ some k_ ≠ (.slice (some ⟨go17, 0, none⟩) y336.length co17 : Value).ownBlock ∧ some k_ ≠ (v348 : Value).ownBlock) k_ from fun k_ hk => ⟨Kd.fresh' (Kd.N_lt (by (with_reducible repeat (first | apply Kd.N_alloc | apply Kd.N_drewN | apply Kd.N_drew)); exact HO329.out)) k_ hk, Kd.fresh' (Kd.N_lt (by (with_reducible repeat (first | apply Kd.N_alloc | apply Kd.N_drewN | apply Kd.N_drew)); exact HO338.out)) k_ hk, Kd.fresh' (Kd.N_lt (by (with_reducible repeat (first | apply Kd.N_alloc | apply Kd.N_drewN | apply Kd.N_drew)); exact HO349.out)) k_ hk⟩) _ (Nat.le_refl _)) (Below.refl _ _) (Nat.le_refl _) (by simp) ?_; (case hd => rfl); (case hg => rfl); (case hr => first | (go_simp; done) | (go_simp; rfl)); (case hp => exact (Reps.none _ _))
                   intro v341 w47 ho48 hb hg_ hnew_
                   have HS0_ := (hb.cell (World.block_lt_of_cell? _ _ (hHeld.1))).trans (hHeld.1)
                   have HS1_ := (hb.cell (World.block_lt_of_cell? _ _ (hHeld.2))).trans (hHeld.2)
                   clear hg_ hnew_
                   (first | rw [← Ny340.out] at ho48 | (simp only [Int.reduceToNat] at ho48; rw [← Ny340.out] at ho48))
                   have n0_ := Aside0.mk (Kd.N_elder' (by (with_reducible repeat (first | apply Kd.N_alloc | apply Kd.N_drewN | apply Kd.N_drew)); exact HO329.out) (Kd.N_base ho48) hb)
                   have n1_ := Aside0.mk (Kd.N_elder' (by (with_reducible repeat (first | apply Kd.N_alloc | apply Kd.N_drewN | apply Kd.N_drew)); exact HO338.out) (Kd.N_base ho48) hb)
                   have n2_ := Aside0.mk (Kd.V_elder' (by (with_reducible repeat (first | apply Kd.V_alloc | apply Kd.V_drewN | apply Kd.V_drew)); exact HL346_0.out) (Kd.N_base ho48) hb)
                   have n3_ := Aside0.mk (Kd.N_elder' (by (with_reducible repeat (first | apply Kd.N_alloc | apply Kd.N_drewN | apply Kd.N_drew)); exact HO349.out) (Kd.N_base ho48) hb)
                   have n4_ := Aside0.mk (Kd.N_lower ho48 (below_size zhb))
                   have n5_ := Aside0.mk (Kd.C_below (by repeat (first | (with_reducible exact HR346_0.out) | (with_reducible refine Kd.C_alloc ?_ _) | (with_reducible refine Kd.C_drewN ?_ _) | (with_reducible refine Kd.C_drew ?_) | exact HR346_0.out)) hb)
                   have n6_ := Aside0.mk (below_step zhb hb)
                   clear HO329
                   clear HO338
                   clear HL346_0
                   clear HO349
                   clear HR346_0
                   clear HB
                   have HO329 := n0_
                   have HO338 := n1_
                   have HL346_0 := n2_
                   have HO349 := n3_
                   have HO342 := n4_
                   have HR346_0 := n5_
                   have HB := n6_
                   clear n0_ n1_ n2_ n3_ n4_ n5_ n6_
                   clear hb ho48
                   refine hK.out _ _ ⟨HS0_, HS1_⟩ (fun hHeld => ?_)
                   clear hK K
                   refine norm_ (a' := ?_) ?_ ?_
                   rotate_left
                   ·show Act.put _ (some 55) _ = _
                    simp only [Act.put, zp1, zp2, zp3, i64_w, i32_w]
                    rfl
                   refine one_ (i := 2) (N := some 57) #[zt, zt, zt, zt, zt, zt, zt, zf, zf] rfl rfl (one_of HT_.out (by kernel_rfl)) (by decide) (fun K hK => ?_)
                   refine Kd.N_append_rows_step k68 (w0 := w) w.heap.size (by rfl) (.tmp 55) (.tmp 56) 33 68 (.agg #[(.slice none 0 0), (.int .i64 0)]) 32 rfl Try.underlying33 info68 rfl (by decide) (by omega) v341 y340 t327 _ _ _ (fun k_ => some k_ ≠ (.slice (some ⟨go17, 0, none⟩) y336.length co17 : Value).ownBlock ∧ some k_ ≠ (v348 : Value).ownBlock) (fun k_ => ((fun k_ => some k_ ≠ (.slice (some ⟨go17, 0, none⟩) y336.length co17 : Value).ownBlock ∧ some k_ ≠ (v348 : Value).ownBlock)) k_ ∧ some k_ ≠ (v341 : Value).ownBlock) rfl rfl ?aO ?aR (fun _ hk => hk) ?aF ?aB ?aS ?aL ?_
                   (case aR => exact (by skip; exact Kd.N_F (Kd.N_mono (ok' := (fun k_ => ((fun k_ => some k_ ≠ (.slice (some ⟨go17, 0, none⟩) y336.length co17 : Value).ownBlock ∧ some k_ ≠ (v348 : Value).ownBlock)) k_ ∧ some k_ ≠ (v341 : Value).ownBlock)) (HO329.out) (fun k_ hk => ⟨⟨hk.1.1.2, hk.1.2⟩, hk.2⟩))))
                   (case aB => exact zhb)
                   (case aF => exact (fun k_ hk => ⟨Kd.fresh' (Kd.N_lt (by (with_reducible repeat (first | apply Kd.N_alloc | apply Kd.N_drewN | apply Kd.N_drew)); exact HO338.out)) k_ hk, Kd.fresh' (Kd.N_lt (by (with_reducible repeat (first | apply Kd.N_alloc | apply Kd.N_drewN | apply Kd.N_drew)); exact HO349.out)) k_ hk⟩))
                   (case aO => exact (by (with_reducible repeat (first | apply Kd.N_alloc | apply Kd.N_drewN | apply Kd.N_drew)); exact Kd.N_mono HO342.out (fun _ hk => ⟨hk.2.1, hk.2.2⟩)))
                   (case aS => exact (below_size zhb))
                   (case aL => have := LMc18.out; omega)
                   intro v344 w49 ho hb hg hat
                   have HS0_ := cell_grown hg (hHeld.1) (by first | (rw [add_block]; exact (by intro e_; have h_ := HO342.out.1 _ e_.symm; first | exact h_ rfl | exact h_.1 rfl | exact h_.2 rfl | exact h_.1.1 rfl | exact h_.1.2 rfl | exact h_.2.1 rfl | exact h_.2.2 rfl | exact h_.1.1.1 rfl | exact h_.1.1.2 rfl | exact h_.2.2.1 rfl | exact h_.2.2.2 rfl | exact h_.1.2.1 rfl | exact h_.1.2.2 rfl | exact h_.1.1.1.1 rfl | exact h_.1.1.1.2 rfl | exact h_.2.2.2.1 rfl | exact h_.2.2.2.2 rfl)) | (show some (Addr.add _ _).block ≠ _; rw [add_block]; exact (by intro e_; have h_ := HO342.out.1 _ e_.symm; first | exact h_ rfl | exact h_.1 rfl | exact h_.2 rfl | exact h_.1.1 rfl | exact h_.1.2 rfl | exact h_.2.1 rfl | exact h_.2.2 rfl | exact h_.1.1.1 rfl | exact h_.1.1.2 rfl | exact h_.2.2.1 rfl | exact h_.2.2.2 rfl | exact h_.1.2.1 rfl | exact h_.1.2.2 rfl | exact h_.1.1.1.1 rfl | exact h_.1.1.1.2 rfl | exact h_.2.2.2.1 rfl | exact h_.2.2.2.2 rfl)) | exact (by intro e_; have h_ := HO342.out.1 _ e_.symm; first | exact h_ rfl | exact h_.1 rfl | exact h_.2 rfl | exact h_.1.1 rfl | exact h_.1.2 rfl | exact h_.2.1 rfl | exact h_.2.2 rfl | exact h_.1.1.1 rfl | exact h_.1.1.2 rfl | exact h_.2.2.1 rfl | exact h_.2.2.2 rfl | exact h_.1.2.1 rfl | exact h_.1.2.2 rfl | exact h_.1.1.1.1 rfl | exact h_.1.1.1.2 rfl | exact h_.2.2.2.1 rfl | exact h_.2.2.2.2 rfl))
                   have HS1_ := cell_grown hg (hHeld.2) (by first | (rw [add_block]; exact (by intro e_; have h_ := HO342.out.1 _ e_.symm; first | exact h_ rfl | exact h_.1 rfl | exact h_.2 rfl | exact h_.1.1 rfl | exact h_.1.2 rfl | exact h_.2.1 rfl | exact h_.2.2 rfl | exact h_.1.1.1 rfl | exact h_.1.1.2 rfl | exact h_.2.2.1 rfl | exact h_.2.2.2 rfl | exact h_.1.2.1 rfl | exact h_.1.2.2 rfl | exact h_.1.1.1.1 rfl | exact h_.1.1.1.2 rfl | exact h_.2.2.2.1 rfl | exact h_.2.2.2.2 rfl)) | (show some (Addr.add _ _).block ≠ _; rw [add_block]; exact (by intro e_; have h_ := HO342.out.1 _ e_.symm; first | exact h_ rfl | exact h_.1 rfl | exact h_.2 rfl | exact h_.1.1 rfl | exact h_.1.2 rfl | exact h_.2.1 rfl | exact h_.2.2 rfl | exact h_.1.1.1 rfl | exact h_.1.1.2 rfl | exact h_.2.2.1 rfl | exact h_.2.2.2 rfl | exact h_.1.2.1 rfl | exact h_.1.2.2 rfl | exact h_.1.1.1.1 rfl | exact h_.1.1.1.2 rfl | exact h_.2.2.2.1 rfl | exact h_.2.2.2.2 rfl)) | exact (by intro e_; have h_ := HO342.out.1 _ e_.symm; first | exact h_ rfl | exact h_.1 rfl | exact h_.2 rfl | exact h_.1.1 rfl | exact h_.1.2 rfl | exact h_.2.1 rfl | exact h_.2.2 rfl | exact h_.1.1.1 rfl | exact h_.1.1.2 rfl | exact h_.2.2.1 rfl | exact h_.2.2.2 rfl | exact h_.1.2.1 rfl | exact h_.1.2.2 rfl | exact h_.1.1.1.1 rfl | exact h_.1.1.1.2 rfl | exact h_.2.2.2.1 rfl | exact h_.2.2.2.2 rfl))
                   rw [← Ny343.out] at ho
                   have n0_ := Aside0.mk (Kd.N_afterv (ok := (fun k_ => some k_ ≠ (.slice (some ⟨go17, 0, none⟩) y336.length co17 : Value).ownBlock ∧ some k_ ≠ (v348 : Value).ownBlock)) (by (with_reducible repeat (first | apply Kd.N_alloc | apply Kd.N_drewN | apply Kd.N_drew)); exact Kd.N_mono HO329.out (fun _ hk => ⟨⟨hk.1.1.2, hk.1.2⟩, hk.2⟩)) hg hat)
                   have n1_ := Aside0.mk (Kd.N_afterv (ok := (fun k_ => some k_ ≠ (v348 : Value).ownBlock)) (by (with_reducible repeat (first | apply Kd.N_alloc | apply Kd.N_drewN | apply Kd.N_drew)); exact Kd.N_mono HO338.out (fun _ hk => ⟨hk.1.2, hk.2⟩)) hg hat)
                   have n2_ := Aside0.mk (Kd.V_afterv (ok := (fun k_ => some k_ ≠ (.slice (some ad346) t327.length co35 : Value).ownBlock ∧ some k_ ≠ (.slice (some ⟨go17, 0, none⟩) y336.length co17 : Value).ownBlock ∧ some k_ ≠ (v348 : Value).ownBlock)) (by (with_reducible repeat (first | apply Kd.V_alloc | apply Kd.V_drewN | apply Kd.V_drew)); exact Kd.V_mono HL346_0.out (fun _ hk => ⟨⟨hk.1.1.2, ⟨hk.1.1.1.2, hk.1.2⟩⟩, hk.2⟩)) hg hat)
                   have n3_ := Aside0.mk (Kd.N_afterv (ok := (fun k_ => some k_ ≠ (.slice (some ad346) t327.length co35 : Value).ownBlock ∧ some k_ ≠ (.slice (some ⟨go17, 0, none⟩) y336.length co17 : Value).ownBlock)) (by (with_reducible repeat (first | apply Kd.N_alloc | apply Kd.N_drewN | apply Kd.N_drew)); exact HO349.out) hg hat)
                   have n4_ := Aside0.mk (hb)
                   have n5_ := Aside0.mk (ho)
                   clear HO329
                   clear HO338
                   clear HL346_0
                   clear HO349
                   clear HB
                   clear HO342
                   have HO329 := n0_
                   have HO338 := n1_
                   have HL346_0 := n2_
                   have HO349 := n3_
                   have HB := n4_
                   have HO345 := n5_
                   clear n0_ n1_ n2_ n3_ n4_ n5_
                   clear ho hb hg hat
                   refine hK.out _ _ ⟨HS0_, HS1_⟩ (fun hHeld => ?_)
                   clear hK K
                   refine norm_ (a' := ?_) ?_ ?_
                   rotate_left
                   ·show Act.put _ (some 57) _ = _
                    simp only [Act.put, zp1, zp2, zp3, i64_w, i32_w]
                    rfl
                   exact norm_ (by simp only [putAll, Act.put, zp1, zp2, zp3]) (hCont (v341, v344, v348) _ ⟨hHeld, (by (with_reducible repeat (first | apply Kd.V_alloc | apply Kd.V_drewN | apply Kd.V_drew)); exact Kd.V_mono HL346_0.out (fun _ hk => ⟨hk.1.1, ⟨hk.1.2.1, ⟨hk.2, hk.1.2.2⟩⟩⟩)), (by (with_reducible repeat (first | apply Kd.N_alloc | apply Kd.N_drewN | apply Kd.N_drew)); exact Kd.N_mono HO329.out (fun _ hk => ⟨hk.1.1, ⟨hk.2, hk.1.2⟩⟩)), (by (with_reducible repeat (first | apply Kd.N_alloc | apply Kd.N_drewN | apply Kd.N_drew)); exact Kd.N_mono HO338.out (fun _ hk => ⟨hk.2, hk.1⟩)), (by (with_reducible repeat (first | apply Kd.N_alloc | apply Kd.N_drewN | apply Kd.N_drew)); exact HO345.out), (by (with_reducible repeat (first | apply Kd.N_alloc | apply Kd.N_drewN | apply Kd.N_drew)); exact Kd.N_mono HO349.out (fun _ hk => ⟨hk.1.1, ⟨hk.1.2, hk.2⟩⟩)), zhb⟩)
                 rintro ⟨v341, v344, v348⟩ w50 ⟨hS_, h0_, h1_, h2_, h3_, h4_, h5_⟩
                 have n0_ : Aside0 (Kd.V (Kd.int .i64) 3 w50 w.heap.size (fun k_ => some k_ ≠ (.slice (some ad346) t327.length co35 : Value).ownBlock ∧ some k_ ≠ (.slice (some ⟨go17, 0, none⟩) y336.length co17 : Value).ownBlock ∧ some k_ ≠ (v344 : Value).ownBlock ∧ some k_ ≠ (v348 : Value).ownBlock) (.slice A346_0 ((rd_T68 t327 0).f0).length c346_0) ((rd_T68 t327 0).f0)) := ⟨h0_⟩
                 have n1_ : Aside0 (Kd.N k68 68 w50 w.heap.size (fun k_ => some k_ ≠ (.slice (some ⟨go17, 0, none⟩) y336.length co17 : Value).ownBlock ∧ some k_ ≠ (v344 : Value).ownBlock ∧ some k_ ≠ (v348 : Value).ownBlock) (.slice (some ad346) t327.length co35) t327) := ⟨h1_⟩
                 have n2_ : Aside0 (Kd.N k68 68 w50 w.heap.size (fun k_ => some k_ ≠ (v344 : Value).ownBlock ∧ some k_ ≠ (v348 : Value).ownBlock) (.slice (some ⟨go17, 0, none⟩) y336.length co17) y339) := ⟨h2_⟩
                 have n3_ : Aside0 (Kd.N k68 68 w50 w.heap.size (fun k_ => some k_ ≠ (.slice (some ⟨go17, 0, none⟩) y336.length co17 : Value).ownBlock ∧ some k_ ≠ (v348 : Value).ownBlock) v344 y343) := ⟨h3_⟩
                 have n4_ : Aside0 (Kd.N k68 68 w50 w.heap.size (fun k_ => some k_ ≠ (.slice (some ad346) t327.length co35 : Value).ownBlock ∧ some k_ ≠ (.slice (some ⟨go17, 0, none⟩) y336.length co17 : Value).ownBlock ∧ some k_ ≠ (v344 : Value).ownBlock) v348 y347) := ⟨h4_⟩
                 have n5_ : Aside0 (Below w.heap.size w w50) := ⟨h5_⟩
                 clear HO329
                 clear HO338
                 clear HB
                 clear h0_ h1_ h2_ h3_ h4_ h5_
                 have HL346_0 := n0_
                 have HO329 := n1_
                 have HO338 := n2_
                 have HO345 := n3_
                 have HO349 := n4_
                 have HB := n5_
                 clear n0_ n1_ n2_ n3_ n4_ n5_
                 have hHeld : w50.cell? ad346 = some (.slice A346_0 ((rd_T68 t327 0).f0).length c346_0) ∧ w50.cell? ⟨ad346.block, ad346.off + 1, none⟩ = some (.int .i64 ((rd_T68 t327 0).f1)) := hS_
                 obtain ⟨Ao52, co52, eo52⟩ := Kd.N_slice HO349.out
                 (first | subst eo52 | (injection eo52 with f1_ f2_ f3_; have f4_ := f1_.symm; have f5_ := f3_.symm; clear f1_ f2_ f3_; subst f4_; subst f5_))
                 refine norm_ (a' := ?_) ?_ ?_
                 rotate_left
                 ·simp only [putAll, Act.put, zp1, zp2, zp3]
                  rfl
                 refine last_ (i := 7) (N := some 62) #[zt, zt, zt, zt, zt, zt, zt, zt, zf] rfl rfl (one_of HT_.out (by kernel_rfl)) (by decide) (fun K hK => ?_)
                 refine Kd.N_append_rows_step k68 (w0 := w) w.heap.size (by rfl) (.tmp 57) (.tmp 61) 33 68 (.agg #[(.slice none 0 0), (.int .i64 0)]) 32 rfl Try.underlying33 info68 rfl (by decide) (by omega) v344 y343 y347 _ _ _ (fun k_ => some k_ ≠ (.slice (some ⟨go17, 0, none⟩) y336.length co17 : Value).ownBlock) (fun k_ => ((fun k_ => some k_ ≠ (.slice (some ⟨go17, 0, none⟩) y336.length co17 : Value).ownBlock)) k_ ∧ some k_ ≠ (v344 : Value).ownBlock) rfl rfl ?aO ?aR (fun _ hk => hk) ?aF ?aB ?aS ?aL ?_
                 (case aR => exact (by skip; exact Kd.N_F (Kd.N_mono (ok' := (fun k_ => ((fun k_ => some k_ ≠ (.slice (some ⟨go17, 0, none⟩) y336.length co17 : Value).ownBlock)) k_ ∧ some k_ ≠ (v344 : Value).ownBlock)) (HO349.out) (fun k_ hk => ⟨hk.2.1, hk.2.2⟩))))
                 (case aB => exact zhb)
                 (case aF => exact (fun k_ hk => Kd.fresh' (Kd.N_lt (by (with_reducible repeat (first | apply Kd.N_alloc | apply Kd.N_drewN | apply Kd.N_drew)); exact HO338.out)) k_ hk))
                 (case aO => exact (by (with_reducible repeat (first | apply Kd.N_alloc | apply Kd.N_drewN | apply Kd.N_drew)); exact Kd.N_mono HO345.out (fun _ hk => hk.1)))
                 (case aS => exact (below_size zhb))
                 (case aL => have := LMc20.out; omega)
                 intro v351 w51 ho hb hg hat
                 rw [← Ny350.out] at ho
                 have n0_ := Aside0.mk (Kd.N_afterv (ok := (fun k_ => some k_ ≠ (.slice (some ⟨go17, 0, none⟩) y336.length co17 : Value).ownBlock ∧ some k_ ≠ (.slice Ao52 y347.length co52 : Value).ownBlock)) (by (with_reducible repeat (first | apply Kd.N_alloc | apply Kd.N_drewN | apply Kd.N_drew)); exact Kd.N_mono HO329.out (fun _ hk => ⟨⟨hk.1, hk.2.2⟩, hk.2.1⟩)) hg hat)
                 have n1_ := Aside0.mk (Kd.N_afterv (ok := (fun k_ => some k_ ≠ (.slice Ao52 y347.length co52 : Value).ownBlock)) (by (with_reducible repeat (first | apply Kd.N_alloc | apply Kd.N_drewN | apply Kd.N_drew)); exact Kd.N_mono HO338.out (fun _ hk => ⟨hk.2, hk.1⟩)) hg hat)
                 have n2_ := Aside0.mk (Kd.V_afterv (ok := (fun k_ => some k_ ≠ (.slice (some ad346) t327.length co35 : Value).ownBlock ∧ some k_ ≠ (.slice (some ⟨go17, 0, none⟩) y336.length co17 : Value).ownBlock ∧ some k_ ≠ (.slice Ao52 y347.length co52 : Value).ownBlock)) (by (with_reducible repeat (first | apply Kd.V_alloc | apply Kd.V_drewN | apply Kd.V_drew)); exact Kd.V_mono HL346_0.out (fun _ hk => ⟨⟨hk.1, ⟨hk.2.1, hk.2.2.2⟩⟩, hk.2.2.1⟩)) hg hat)
                 have n3_ := Aside0.mk (Kd.N_afterv (ok := (fun k_ => some k_ ≠ (.slice (some ad346) t327.length co35 : Value).ownBlock ∧ some k_ ≠ (.slice (some ⟨go17, 0, none⟩) y336.length co17 : Value).ownBlock)) (by (with_reducible repeat (first | apply Kd.N_alloc | apply Kd.N_drewN | apply Kd.N_drew)); exact Kd.N_mono HO349.out (fun _ hk => ⟨⟨hk.1, hk.2.1⟩, hk.2.2⟩)) hg hat)
                 have n4_ := Aside0.mk (hb)
                 have n5_ := Aside0.mk (ho)
                 clear HO329
                 clear HO338
                 clear HL346_0
                 clear HO349
                 clear HB
                 clear HO345
                 have HO329 := n0_
                 have HO338 := n1_
                 have HL346_0 := n2_
                 have HO349 := n3_
                 have HB := n4_
                 have HO352 := n5_
                 clear n0_ n1_ n2_ n3_ n4_ n5_
                 clear ho hb hg hat
                 refine hK.out _ _ ?_
                 clear hK K
                 refine norm_ (a' := ?_) ?_ ?_
                 rotate_left
                 ·show Act.put _ (some 62) _ = _
                  simp only [Act.put, zp1, zp2, zp3, i64_w, i32_w]
                  rfl
                 refine pure_ (i := 8) (N := some 7) (v := ?_) (a' := ?_) #[zt, zt, zt, zt, zt, zt, zt, zt, zt] rfl rfl (any_of HT_.out (by kernel_rfl)) (fun _ _ _ h => h) (Or.inl ⟨by rfl, ?_⟩) ?_ ?_
                 rotate_left
                 ·intro w'
                  go_simp
                  with_reducible rfl
                 rotate_left
                 ·simp only [Act.put, zp1, zp2, zp3, i64_w, i32_w]
                  rfl
                 refine done_ (done_of HT_.out (by kernel_rfl)) ?_
                 try go_wp2_with (first | ((with_reducible refine gate_dst (N := 63) rfl ?_); (try (refine gate_guard (by rfl) ?_; dsimp only)); refine Kd.N_lit k68 _ 68 ?hg (N' := 63) ?hd (xs := ([] : List (S68))) (inner := []) (ok := (fun k_ => some k_ ≠ (.slice (some ad346) t327.length co35 : Value).ownBlock ∧ some k_ ≠ (.slice (some ⟨go17, 0, none⟩) y336.length co17 : Value).ownBlock ∧ some k_ ≠ (.slice Ao52 y347.length co52 : Value).ownBlock ∧ some k_ ≠ (v351 : Value).ownBlock)) (okp := (fun k_ => some k_ ≠ (.slice (some ad346) t327.length co35 : Value).ownBlock ∧ some k_ ≠ (.slice (some ⟨go17, 0, none⟩) y336.length co17 : Value).ownBlock ∧ some k_ ≠ (.slice Ao52 y347.length co52 : Value).ownBlock ∧ some k_ ≠ (v351 : Value).ownBlock)) ?hr ?hp (fun _ hk => hk) ((show ∀ k_, w51.heap.size ≤ k_ → (fun k_ => some k_ ≠ (.slice (some ad346) t327.length co35 : Value).ownBlock ∧ some k_ ≠ (.slice (some ⟨go17, 0, none⟩) y336.length co17 : Value).ownBlock ∧ some k_ ≠ (.slice Ao52 y347.length co52 : Value).ownBlock ∧ some k_ ≠ (v351 : Value).ownBlock) k_ from fun k_ hk => ⟨Kd.fresh' (Kd.N_lt (by (with_reducible repeat (first | apply Kd.N_alloc | apply Kd.N_drewN | apply Kd.N_drew)); exact HO329.out)) k_ hk, Kd.fresh' (Kd.N_lt (by (with_reducible repeat (first | apply Kd.N_alloc | apply Kd.N_drewN | apply Kd.N_drew)); exact HO338.out)) k_ hk, Kd.fresh' (Kd.N_lt (by (with_reducible repeat (first | apply Kd.N_alloc | apply Kd.N_drewN | apply Kd.N_drew)); exact HO349.out)) k_ hk, Kd.fresh' (Kd.N_lt (by (with_reducible repeat (first | apply Kd.N_alloc | apply Kd.N_drewN | apply Kd.N_drew)); exact HO352.out)) k_ hk⟩) _ (Nat.le_refl _)) (Below.refl _ _) (Nat.le_refl _) (by simp) ?_; (case hd => rfl); (case hg => rfl); (case hr => first | (go_simp; done) | (go_simp; rfl)); (case hp => exact (Reps.none _ _)); intro v354 w53 ho54 hb hg_ hnew_; clear hg_ hnew_; (first | rw [← Ny353.out] at ho54 | (simp only [Int.reduceToNat] at ho54; rw [← Ny353.out] at ho54)); have n0_ := Aside0.mk (Kd.N_elder' (by (with_reducible repeat (first | apply Kd.N_alloc | apply Kd.N_drewN | apply Kd.N_drew)); exact HO329.out) (Kd.N_base ho54) hb); have n1_ := Aside0.mk (Kd.N_elder' (by (with_reducible repeat (first | apply Kd.N_alloc | apply Kd.N_drewN | apply Kd.N_drew)); exact HO338.out) (Kd.N_base ho54) hb); have n2_ := Aside0.mk (Kd.V_elder' (by (with_reducible repeat (first | apply Kd.V_alloc | apply Kd.V_drewN | apply Kd.V_drew)); exact HL346_0.out) (Kd.N_base ho54) hb); have n3_ := Aside0.mk (Kd.N_elder' (by (with_reducible repeat (first | apply Kd.N_alloc | apply Kd.N_drewN | apply Kd.N_drew)); exact HO349.out) (Kd.N_base ho54) hb); have n4_ := Aside0.mk (Kd.N_elder' (by (with_reducible repeat (first | apply Kd.N_alloc | apply Kd.N_drewN | apply Kd.N_drew)); exact HO352.out) (Kd.N_base ho54) hb); have n5_ := Aside0.mk (Kd.N_lower ho54 (below_size zhb)); have n6_ := Aside0.mk (below_step zhb hb); clear HO329; clear HO338; clear HL346_0; clear HO349; clear HO352; clear HB; have HO329 := n0_; have HO338 := n1_; have HL346_0 := n2_; have HO349 := n3_; have HO352 := n4_; have HO355 := n5_; have HB := n6_; clear n0_ n1_ n2_ n3_ n4_ n5_ n6_; clear hb ho54) | ((with_reducible refine gate_builtin (b := .append) (xs := #[.tmp 63, .tmp 64]) rfl ?_); (try (refine gate_guard (by rfl) ?_; dsimp only)); at_builtin; refine Kd.N_append_rows k68 (w0 := w) w.heap.size rfl (.tmp 63) (.tmp 64) 33 68 (.agg #[(.slice none 0 0), (.int .i64 0)]) 32 rfl Try.underlying33 info68 rfl (by decide) (by omega) v354 y353 t327 _ _ _ (fun k_ => some k_ ≠ (.slice (some ⟨go17, 0, none⟩) y336.length co17 : Value).ownBlock ∧ some k_ ≠ (.slice Ao52 y347.length co52 : Value).ownBlock ∧ some k_ ≠ (v351 : Value).ownBlock) (fun k_ => ((fun k_ => some k_ ≠ (.slice (some ⟨go17, 0, none⟩) y336.length co17 : Value).ownBlock ∧ some k_ ≠ (.slice Ao52 y347.length co52 : Value).ownBlock ∧ some k_ ≠ (v351 : Value).ownBlock)) k_ ∧ some k_ ≠ (v354 : Value).ownBlock) rfl rfl ?aO ?aR (fun _ hk => hk) ?aF ?aB ?aS ?aL ?_; (case aR => exact (by skip; exact Kd.N_F (Kd.N_mono (ok' := (fun k_ => ((fun k_ => some k_ ≠ (.slice (some ⟨go17, 0, none⟩) y336.length co17 : Value).ownBlock ∧ some k_ ≠ (.slice Ao52 y347.length co52 : Value).ownBlock ∧ some k_ ≠ (v351 : Value).ownBlock)) k_ ∧ some k_ ≠ (v354 : Value).ownBlock)) (HO329.out) (fun k_ hk => ⟨⟨hk.1.1.1, ⟨hk.1.1.2, hk.1.2⟩⟩, hk.2⟩)))); (case aB => exact zhb); (case aF => exact (fun k_ hk => ⟨Kd.fresh' (Kd.N_lt (by (with_reducible repeat (first | apply Kd.N_alloc | apply Kd.N_drewN | apply Kd.N_drew)); exact HO338.out)) k_ hk, Kd.fresh' (Kd.N_lt (by (with_reducible repeat (first | apply Kd.N_alloc | apply Kd.N_drewN | apply Kd.N_drew)); exact HO349.out)) k_ hk, Kd.fresh' (Kd.N_lt (by (with_reducible repeat (first | apply Kd.N_alloc | apply Kd.N_drewN | apply Kd.N_drew)); exact HO352.out)) k_ hk⟩)); (case aO => exact (by (with_reducible repeat (first | apply Kd.N_alloc | apply Kd.N_drewN | apply Kd.N_drew)); exact Kd.N_mono HO355.out (fun _ hk => ⟨hk.2.1, ⟨hk.2.2.1, hk.2.2.2⟩⟩))); (case aS => exact (below_size zhb)); (case aL => have := LMc21.out; omega); intro v357 w55 ho hb hg hat; rw [← Ny356.out] at ho; have n0_ := Aside0.mk (Kd.N_afterv (ok := (fun k_ => some k_ ≠ (.slice (some ⟨go17, 0, none⟩) y336.length co17 : Value).ownBlock ∧ some k_ ≠ (.slice Ao52 y347.length co52 : Value).ownBlock ∧ some k_ ≠ (v351 : Value).ownBlock)) (by (with_reducible repeat (first | apply Kd.N_alloc | apply Kd.N_drewN | apply Kd.N_drew)); exact Kd.N_mono HO329.out (fun _ hk => ⟨⟨hk.1.1.1, ⟨hk.1.1.2, hk.1.2⟩⟩, hk.2⟩)) hg hat); have n1_ := Aside0.mk (Kd.N_afterv (ok := (fun k_ => some k_ ≠ (.slice Ao52 y347.length co52 : Value).ownBlock ∧ some k_ ≠ (v351 : Value).ownBlock)) (by (with_reducible repeat (first | apply Kd.N_alloc | apply Kd.N_drewN | apply Kd.N_drew)); exact HO338.out) hg hat); have n2_ := Aside0.mk (Kd.V_afterv (ok := (fun k_ => some k_ ≠ (.slice (some ad346) t327.length co35 : Value).ownBlock ∧ some k_ ≠ (.slice (some ⟨go17, 0, none⟩) y336.length co17 : Value).ownBlock ∧ some k_ ≠ (.slice Ao52 y347.length co52 : Value).ownBlock ∧ some k_ ≠ (v351 : Value).ownBlock)) (by (with_reducible repeat (first | apply Kd.V_alloc | apply Kd.V_drewN | apply Kd.V_drew)); exact Kd.V_mono HL346_0.out (fun _ hk => ⟨⟨hk.1.1.1, ⟨hk.1.1.2.1, ⟨hk.1.1.2.2, hk.1.2⟩⟩⟩, hk.2⟩)) hg hat); have n3_ := Aside0.mk (Kd.N_afterv (ok := (fun k_ => some k_ ≠ (.slice (some ad346) t327.length co35 : Value).ownBlock ∧ some k_ ≠ (.slice (some ⟨go17, 0, none⟩) y336.length co17 : Value).ownBlock ∧ some k_ ≠ (v351 : Value).ownBlock)) (by (with_reducible repeat (first | apply Kd.N_alloc | apply Kd.N_drewN | apply Kd.N_drew)); exact Kd.N_mono HO349.out (fun _ hk => ⟨⟨hk.1.1.1, ⟨hk.1.1.2, hk.1.2⟩⟩, hk.2⟩)) hg hat); have n4_ := Aside0.mk (Kd.N_afterv (ok := (fun k_ => some k_ ≠ (.slice (some ⟨go17, 0, none⟩) y336.length co17 : Value).ownBlock)) (by (with_reducible repeat (first | apply Kd.N_alloc | apply Kd.N_drewN | apply Kd.N_drew)); exact HO352.out) hg hat); have n5_ := Aside0.mk (hb); have n6_ := Aside0.mk (ho); clear HO329; clear HO338; clear HL346_0; clear HO349; clear HO352; clear HB; clear HO355; have HO329 := n0_; have HO338 := n1_; have HL346_0 := n2_; have HO349 := n3_; have HO352 := n4_; have HB := n5_; have HO358 := n6_; clear n0_ n1_ n2_ n3_ n4_ n5_ n6_; clear ho hb hg hat; have p23 : 0 ≤ (0 : Int) := (by omega); have q23 : (0 : Int) < ((y356.length : Int) : Int) := zod; have qi23 : (0 < y356.length) = True := eq_true (by omega); obtain ⟨go23, co23, eo23, gb23, gl23, cl23, HG23⟩ := Kd.N_form HO358.out (by omega); (first | cases eo23 | (injection eo23 with ea_ en_ ec_; (first | subst ea_ | (injection ea_ with ea_; subst ea_)); subst ec_; clear en_)); have GB23 := Aside0.mk gb23; have GG23 := Aside0.mk HG23; clear gb23 gl23 HG23; obtain ⟨ce23, hcl23, hM23, hcc23, hfr23⟩ := Kd.N_elem HO358.out z68 (0 : Int) p23 q23; obtain ⟨ua23_0, uc23_0, rfl, ul23_0, ge23_0⟩ := k68_openF hM23; have hx23_0 : w55.cell? ⟨go23, (0 : Int).toNat * 2, none⟩ = some (.slice ua23_0 ((rd_T68 y356 0).f0).length uc23_0) := hcc23 0 _ rfl; have hx23_1 : w55.cell? ⟨go23, (0 : Int).toNat * 2 + 1, none⟩ = some (.int .i64 ((rd_T68 y356 0).f1)) := hcc23 1 _ rfl; have hf23_0 : w55.frozen? ⟨go23, (0 : Int).toNat * 2, none⟩ = false := hfr23 0; have hf23_1 : w55.frozen? ⟨go23, (0 : Int).toNat * 2 + 1, none⟩ = false := hfr23 1; clear hcl23 hcc23 hfr23 hM23; (try rw [show ((0 : Int)).toNat = 0 from rfl] at hx23_0); (try simp only [Nat.reduceMul, Nat.zero_mul, Nat.zero_add, Nat.reduceAdd] at hx23_0); (try rw [show ((0 : Int)).toNat = 0 from rfl] at hf23_0); (try simp only [Nat.reduceMul, Nat.zero_mul, Nat.zero_add, Nat.reduceAdd] at hf23_0); (try rw [show ((0 : Int)).toNat = 0 from rfl] at hx23_1); (try simp only [Nat.reduceMul, Nat.zero_mul, Nat.zero_add, Nat.reduceAdd] at hx23_1); (try rw [show ((0 : Int)).toNat = 0 from rfl] at hf23_1); (try simp only [Nat.reduceMul, Nat.zero_mul, Nat.zero_add, Nat.reduceAdd] at hf23_1); replace p23 := eq_true p23; replace q23 := eq_true q23; have HX56 := Aside0.mk (show Kd.N k68 68 w55 w.heap.size (fun k_ => some k_ ≠ (.slice (some ⟨go17, 0, none⟩) y336.length co17 : Value).ownBlock ∧ some k_ ≠ (.slice Ao52 y347.length co52 : Value).ownBlock ∧ some k_ ≠ (v351 : Value).ownBlock) (.slice (some ⟨go23, 0, none⟩) y356.length co23) y356 from (by (with_reducible repeat (first | apply Kd.N_alloc | apply Kd.N_drewN | apply Kd.N_drew)); exact HO358.out)); obtain ⟨ce56, hcl56, hM56, hcc56, hfr56⟩ := Kd.N_elem HX56.out z68 (0 : Int) (by omega) (by have h_ : (0 : Int) < ((y356.length : Int) : Int) := zod; first | exact h_ | (have e_ := (Kd.N_reads' HO358.out).1; omega) | simpa using h_); obtain ⟨ua56_0, uc56_0, rfl, ul56_0, ge56_0⟩ := k68_openF hM56; have HP56 := Kd.N_seg HX56.out (0 : Int) (by omega) (by have h_ : (0 : Int) < ((y356.length : Int) : Int) := zod; first | exact h_ | (have e_ := (Kd.N_reads' HO358.out).1; omega) | simpa using h_) (seg := [.int .i64 10001]) (j := 1) hcl56 hcc56 (show 2 ≤ 2 from by decide) (x' := (⟨(rd_T68 y356 0).f0, 10001⟩ : S68)) (k68_mkF _ _ (⟨(rd_T68 y356 0).f0, 10001⟩ : S68) ul56_0 ge56_0) (fun _ hk => hk); have hx56_1 := hcc56 1 _ rfl; (try simp only [show (k68).sz = 2 from rfl, Nat.mul_one, Nat.add_zero] at hx56_1); (try rw [show ((0 : Int)).toNat = 0 from rfl] at hx56_1); (try simp only [Nat.reduceMul, Nat.zero_mul, Nat.zero_add, Nat.reduceAdd] at hx56_1); have hf56_1 := hfr56 1; (try simp only [show (k68).sz = 2 from rfl, Nat.mul_one, Nat.add_zero] at hf56_1); (try rw [show ((0 : Int)).toNat = 0 from rfl] at hf56_1); (try simp only [Nat.reduceMul, Nat.zero_mul, Nat.zero_add, Nat.reduceAdd] at hf56_1); clear hcl56 hcc56 hfr56 hM56) | ((with_reducible refine gate_store (t := 3) (p := 68) rfl ?_); refine store_event (t := 3) (p := 68) (v := ?vo_w57) (w1 := (w55.setCell ⟨go23, 1, none⟩ (.int .i64 10001))) ?hg ?ho ?hn ?hr ?_; (case ho => rfl); (case hg => rfl); (case hn => rfl); (case hr => first | (go_simp; done) | (go_simp; rfl)); intro w57 hw; have hg : w55.grownBy w57 (some go23) := (by rw [hw]; exact HP56.2); have hp_ : Kd.N k68 68 w57 w.heap.size (fun k_ => some k_ ≠ (.slice (some ⟨go17, 0, none⟩) y336.length co17 : Value).ownBlock ∧ some k_ ≠ (.slice Ao52 y347.length co52 : Value).ownBlock ∧ some k_ ≠ (v351 : Value).ownBlock) (.slice (some ⟨go23, 0, none⟩) y356.length co23) y359 := (by rw [hw, Ny359.out]; exact HP56.1); clear HP56; have n0_ := Aside0.mk (Kd.N_afterv (v := (.slice (some ⟨go23, 0, none⟩) y356.length co23)) (v1 := (.slice (some ⟨go23, 0, none⟩) y356.length co23)) (ok := (fun k_ => some k_ ≠ (.slice (some ⟨go17, 0, none⟩) y336.length co17 : Value).ownBlock ∧ some k_ ≠ (.slice Ao52 y347.length co52 : Value).ownBlock ∧ some k_ ≠ (v351 : Value).ownBlock)) (by (with_reducible repeat (first | apply Kd.N_alloc | apply Kd.N_drewN | apply Kd.N_drew)); exact HO329.out) hg (.inl rfl)); have n1_ := Aside0.mk (Kd.N_afterv (v := (.slice (some ⟨go23, 0, none⟩) y356.length co23)) (v1 := (.slice (some ⟨go23, 0, none⟩) y356.length co23)) (ok := (fun k_ => some k_ ≠ (.slice Ao52 y347.length co52 : Value).ownBlock ∧ some k_ ≠ (v351 : Value).ownBlock)) (by (with_reducible repeat (first | apply Kd.N_alloc | apply Kd.N_drewN | apply Kd.N_drew)); exact HO338.out) hg (.inl rfl)); have n2_ := Aside0.mk (Kd.V_afterv (v := (.slice (some ⟨go23, 0, none⟩) y356.length co23)) (v1 := (.slice (some ⟨go23, 0, none⟩) y356.length co23)) (ok := (fun k_ => some k_ ≠ (.slice (some ad346) t327.length co35 : Value).ownBlock ∧ some k_ ≠ (.slice (some ⟨go17, 0, none⟩) y336.length co17 : Value).ownBlock ∧ some k_ ≠ (.slice Ao52 y347.length co52 : Value).ownBlock ∧ some k_ ≠ (v351 : Value).ownBlock)) (by (with_reducible repeat (first | apply Kd.V_alloc | apply Kd.V_drewN | apply Kd.V_drew)); exact HL346_0.out) hg (.inl rfl)); have n3_ := Aside0.mk (Kd.N_afterv (v := (.slice (some ⟨go23, 0, none⟩) y356.length co23)) (v1 := (.slice (some ⟨go23, 0, none⟩) y356.length co23)) (ok := (fun k_ => some k_ ≠ (.slice (some ad346) t327.length co35 : Value).ownBlock ∧ some k_ ≠ (.slice (some ⟨go17, 0, none⟩) y336.length co17 : Value).ownBlock ∧ some k_ ≠ (v351 : Value).ownBlock)) (by (with_reducible repeat (first | apply Kd.N_alloc | apply Kd.N_drewN | apply Kd.N_drew)); exact HO349.out) hg (.inl rfl)); have n4_ := Aside0.mk (Kd.N_afterv (v := (.slice (some ⟨go23, 0, none⟩) y356.length co23)) (v1 := (.slice (some ⟨go23, 0, none⟩) y356.length co23)) (ok := (fun k_ => some k_ ≠ (.slice (some ⟨go17, 0, none⟩) y336.length co17 : Value).ownBlock)) (by (with_reducible repeat (first | apply Kd.N_alloc | apply Kd.N_drewN | apply Kd.N_drew)); exact HO352.out) hg (.inl rfl)); have n5_ := Aside0.mk (hp_); have n6_ := Aside0.mk ((by rw [hw]; exact below_set (HB.out) GB23.out : Below w.heap.size w w57)); clear HO329; clear HO338; clear HL346_0; clear HO349; clear HO352; clear HO358; clear HB; have HO329 := n0_; have HO338 := n1_; have HL346_0 := n2_; have HO349 := n3_; have HO352 := n4_; have HO358 := n5_; have HB := n6_; clear n0_ n1_ n2_ n3_ n4_ n5_ n6_; clear hg hw hp_) | ((with_reducible refine gate_callee (f := 24) rfl ?_); refine goesL_ (some 70) rfl rfl Try.func24 (by kernel_rfl) rfl #[.slice (some ⟨go17, 0, none⟩) y339.length co17] rfl (by (try simp only [List.map_toArray, List.map_cons, List.map_nil]); first | done | (rw [show y339.length = y336.length from (Kd.N_reads' HO338.out).1.symm] <;> rfl) | rfl | (simp only [List.length_drop, List.length_take]; rfl)) ?_; (with_reducible refine (impl_ZOk.calls k _ _ y339 false _ ?side1 ?side2 A24.out).mono ?_); (case side1 => repeat (first | exact (Kd.N_reads' HO338.out).2.2 | (with_reducible refine Kd.C_alloc ?_ _) | (with_reducible refine Kd.C_drewN ?_ _) | (with_reducible refine Kd.C_drew ?_))); (case side2 => rw [show y339.length = y336.length from (Kd.N_reads' HO338.out).1.symm]; exact (Kd.N_reads' HO338.out).2.1); rintro e w58 ⟨rfl, hb⟩; refine ⟨_, rfl, ?_⟩; have n0_ := Aside0.mk (Kd.N_below (by (with_reducible repeat (first | apply Kd.N_alloc | apply Kd.N_drewN | apply Kd.N_drew)); exact HO329.out) hb); have n1_ := Aside0.mk (Kd.N_below (by (with_reducible repeat (first | apply Kd.N_alloc | apply Kd.N_drewN | apply Kd.N_drew)); exact HO338.out) hb); have n2_ := Aside0.mk (Kd.V_below (by (with_reducible repeat (first | apply Kd.V_alloc | apply Kd.V_drewN | apply Kd.V_drew)); exact HL346_0.out) hb); have n3_ := Aside0.mk (Kd.N_below (by (with_reducible repeat (first | apply Kd.N_alloc | apply Kd.N_drewN | apply Kd.N_drew)); exact HO349.out) hb); have n4_ := Aside0.mk (Kd.N_below (by (with_reducible repeat (first | apply Kd.N_alloc | apply Kd.N_drewN | apply Kd.N_drew)); exact HO352.out) hb); have n5_ := Aside0.mk (Kd.N_below (by (with_reducible repeat (first | apply Kd.N_alloc | apply Kd.N_drewN | apply Kd.N_drew)); exact HO358.out) hb); have n6_ := Aside0.mk (below_step zhb hb); clear HO329; clear HO338; clear HL346_0; clear HO349; clear HO352; clear HO358; clear HB; have HO329 := n0_; have HO338 := n1_; have HL346_0 := n2_; have HO349 := n3_; have HO352 := n4_; have HO358 := n5_; have HB := n6_; clear n0_ n1_ n2_ n3_ n4_ n5_ n6_; (try clear hb); (try clear hb2); (try clear hk); (try clear hi); obtain ⟨Ao59, co59, eo59⟩ := Kd.N_slice HO352.out; subst eo59) | (go_at_call 24; (with_reducible refine (impl_ZOk.calls k _ _ y350 false _ ?side1 ?side2 A26.out).mono ?_); (case side1 => repeat (first | exact (Kd.N_reads' HO352.out).2.2 | (with_reducible refine Kd.C_alloc ?_ _) | (with_reducible refine Kd.C_drewN ?_ _) | (with_reducible refine Kd.C_drew ?_))); (case side2 => exact (Kd.N_reads' HO352.out).2.1); rintro e w60 ⟨rfl, hb⟩; have n0_ := Aside0.mk (Kd.N_below (by (with_reducible repeat (first | apply Kd.N_alloc | apply Kd.N_drewN | apply Kd.N_drew)); exact HO329.out) hb); have n1_ := Aside0.mk (Kd.N_below (by (with_reducible repeat (first | apply Kd.N_alloc | apply Kd.N_drewN | apply Kd.N_drew)); exact HO338.out) hb); have n2_ := Aside0.mk (Kd.V_below (by (with_reducible repeat (first | apply Kd.V_alloc | apply Kd.V_drewN | apply Kd.V_drew)); exact HL346_0.out) hb); have n3_ := Aside0.mk (Kd.N_below (by (with_reducible repeat (first | apply Kd.N_alloc | apply Kd.N_drewN | apply Kd.N_drew)); exact HO349.out) hb); have n4_ := Aside0.mk (Kd.N_below (by (with_reducible repeat (first | apply Kd.N_alloc | apply Kd.N_drewN | apply Kd.N_drew)); exact HO352.out) hb); have n5_ := Aside0.mk (Kd.N_below (by (with_reducible repeat (first | apply Kd.N_alloc | apply Kd.N_drewN | apply Kd.N_drew)); exact HO358.out) hb); have n6_ := Aside0.mk (below_step zhb hb); clear HO329; clear HO338; clear HL346_0; clear HO349; clear HO352; clear HO358; clear HB; have HO329 := n0_; have HO338 := n1_; have HL346_0 := n2_; have HO349 := n3_; have HO352 := n4_; have HO358 := n5_; have HB := n6_; clear n0_ n1_ n2_ n3_ n4_ n5_ n6_; (try clear hb); (try clear hb2); (try clear hk); (try clear hi)) | (go_at_call 24; refine calls_of_args (args' := #[.slice (some ⟨go23, 0, none⟩) y359.length co23]) (by first | (rw [show y359.length = y356.length from (Kd.N_reads' HO358.out).1.symm] <;> rfl) | rfl) ?_; (with_reducible refine (impl_ZOk.calls k _ _ y359 false _ ?side1 ?side2 A28.out).mono ?_); (case side1 => repeat (first | exact (Kd.N_reads' HO358.out).2.2 | (with_reducible refine Kd.C_alloc ?_ _) | (with_reducible refine Kd.C_drewN ?_ _) | (with_reducible refine Kd.C_drew ?_))); (case side2 => rw [show y359.length = y356.length from (Kd.N_reads' HO358.out).1.symm]; exact (Kd.N_reads' HO358.out).2.1); rintro e w61 ⟨rfl, hb⟩; have n0_ := Aside0.mk (Kd.N_below (by (with_reducible repeat (first | apply Kd.N_alloc | apply Kd.N_drewN | apply Kd.N_drew)); exact HO329.out) hb); have n1_ := Aside0.mk (Kd.N_below (by (with_reducible repeat (first | apply Kd.N_alloc | apply Kd.N_drewN | apply Kd.N_drew)); exact HO338.out) hb); have n2_ := Aside0.mk (Kd.V_below (by (with_reducible repeat (first | apply Kd.V_alloc | apply Kd.V_drewN | apply Kd.V_drew)); exact HL346_0.out) hb); have n3_ := Aside0.mk (Kd.N_below (by (with_reducible repeat (first | apply Kd.N_alloc | apply Kd.N_drewN | apply Kd.N_drew)); exact HO349.out) hb); have n4_ := Aside0.mk (Kd.N_below (by (with_reducible repeat (first | apply Kd.N_alloc | apply Kd.N_drewN | apply Kd.N_drew)); exact HO352.out) hb); have n5_ := Aside0.mk (Kd.N_below (by (with_reducible repeat (first | apply Kd.N_alloc | apply Kd.N_drewN | apply Kd.N_drew)); exact HO358.out) hb); have n6_ := Aside0.mk (below_step zhb hb); clear HO329; clear HO338; clear HL346_0; clear HO349; clear HO352; clear HO358; clear HB; have HO329 := n0_; have HO338 := n1_; have HL346_0 := n2_; have HO349 := n3_; have HO352 := n4_; have HO358 := n5_; have HB := n6_; clear n0_ n1_ n2_ n3_ n4_ n5_ n6_; (try clear hb); (try clear hb2); (try clear hk); (try clear hi); have p363 : 0 ≤ (0 : Int) := (by omega); have q363 : 0 < (t327.length : Int) := zod; obtain ⟨ad363, A363_0, c363_0, e363, hx363_0, hx363_1, hl363_0, hi363_0⟩ := at_T68 (Kd.N_reads' HO329.out).2.2 0 p363 q363; obtain rfl : ad346 = ad363 := (by injection e363); obtain ⟨ce363, hce363, hMe363, hcc363⟩ := Kd.N_get HO329.out z68 0 p363 (by first | exact q363 | exact zod | (have e_ := (Kd.N_reads' HO329.out).1; omega)); obtain ⟨ua363_0, uc363_0, rfl, ul363_0, ge363_0⟩ := k68_openF hMe363; have hv363_0 := hcc363 0 _ rfl; rw [Nat.add_zero] at hv363_0; replace hv363_0 := Option.some.inj (hv363_0.symm.trans hx363_0); injection hv363_0 with hva_ hvn_ hvc_; rw [hva_] at ge363_0; rw [hvc_] at ul363_0; have HL363_0 := Aside0.mk (show Kd.V (Kd.int .i64) 3 _ w.heap.size _ _ ((rd_T68 t327 0).f0) from Kd.V_mk ul363_0 ge363_0); clear hva_ hvn_ hvc_ ge363_0 ul363_0; clear hcc363 hce363; have qi363 : (0 < t327.length) = True := eq_true (by omega); (try rw [show ((0 : Int)).toNat = 0 from rfl] at hx363_0); (try rw [show 0 * 2 = 0 from rfl] at hx363_0); (try rw [Addr.add_zero'] at hx363_0); (try rw [show ((0 : Int)).toNat = 0 from rfl] at hx363_1); (try rw [show 0 * 2 = 0 from rfl] at hx363_1); (try rw [Addr.add_zero'] at hx363_1); have HR363_0 := Aside0.mk hi363_0; have HC363_0 := Aside0.mk hl363_0; clear hi363_0 hl363_0; replace p363 := eq_true p363; replace q363 := eq_true q363) | (go_at_call 28; (with_reducible refine (impl_ZGet.calls k _ _ y350 _ _ ((rd_T68 t327 0).f0) t364 _ ?side1 ?side2 ?side3 ?side4 A30.out).mono ?_); (case side1 => repeat (first | exact (Kd.N_reads' HO352.out).2.2 | (with_reducible refine Kd.C_alloc ?_ _) | (with_reducible refine Kd.C_drewN ?_ _) | (with_reducible refine Kd.C_drew ?_))); (case side2 => exact (Kd.N_reads' HO352.out).2.1); (case side3 => repeat (first | exact (by repeat (first | (with_reducible exact HR363_0.out) | (with_reducible refine Kd.C_alloc ?_ _) | (with_reducible refine Kd.C_drewN ?_ _) | (with_reducible refine Kd.C_drew ?_) | exact HR363_0.out)) | (with_reducible refine Kd.C_alloc ?_ _) | (with_reducible refine Kd.C_drewN ?_ _) | (with_reducible refine Kd.C_drew ?_))); (case side4 => exact HC363_0.out); rintro e w62 ⟨rfl, hb⟩; have n0_ := Aside0.mk (Kd.N_below (by (with_reducible repeat (first | apply Kd.N_alloc | apply Kd.N_drewN | apply Kd.N_drew)); exact HO329.out) hb); have n1_ := Aside0.mk (Kd.N_below (by (with_reducible repeat (first | apply Kd.N_alloc | apply Kd.N_drewN | apply Kd.N_drew)); exact HO338.out) hb); have n2_ := Aside0.mk (Kd.V_below (by (with_reducible repeat (first | apply Kd.V_alloc | apply Kd.V_drewN | apply Kd.V_drew)); exact HL346_0.out) hb); have n3_ := Aside0.mk (Kd.N_below (by (with_reducible repeat (first | apply Kd.N_alloc | apply Kd.N_drewN | apply Kd.N_drew)); exact HO349.out) hb); have n4_ := Aside0.mk (Kd.N_below (by (with_reducible repeat (first | apply Kd.N_alloc | apply Kd.N_drewN | apply Kd.N_drew)); exact HO352.out) hb); have n5_ := Aside0.mk (Kd.N_below (by (with_reducible repeat (first | apply Kd.N_alloc | apply Kd.N_drewN | apply Kd.N_drew)); exact HO358.out) hb); have n6_ := Aside0.mk (Kd.V_below (by (with_reducible repeat (first | apply Kd.V_alloc | apply Kd.V_drewN | apply Kd.V_drew)); exact HL363_0.out) hb); have n7_ := Aside0.mk (Kd.C_below (by repeat (first | (with_reducible exact HR363_0.out) | (with_reducible refine Kd.C_alloc ?_ _) | (with_reducible refine Kd.C_drewN ?_ _) | (with_reducible refine Kd.C_drew ?_) | exact HR363_0.out)) hb); have n8_ := Aside0.mk (below_step zhb hb); clear HO329; clear HO338; clear HL346_0; clear HO349; clear HO352; clear HO358; clear HL363_0; clear HR363_0; clear HB; have HO329 := n0_; have HO338 := n1_; have HL346_0 := n2_; have HO349 := n3_; have HO352 := n4_; have HO358 := n5_; have HL363_0 := n6_; have HR363_0 := n7_; have HB := n8_; clear n0_ n1_ n2_ n3_ n4_ n5_ n6_ n7_ n8_; (try clear hb); (try clear hb2); (try clear hk); (try clear hi); have q63 : (1 : Int) ≤ ((t327.length : Int) : Int) := zod; obtain ⟨i063, hi063, _, hsz63, _⟩ := info_parts info68; have hroom63 : t327.length ≤ co35 := (Kd.N_reads' HO329.out).2.1; have hC63 : Kd.F k68 _ _ (some ad346) t327.length t327 := (Kd.V_at (base := w.heap.size) (Kd.N_V HO329.out)).2.2; have hcut63 := cut_from (P := Try.prog) 33 68 .i64 Try.underlying33 hi063 2 hsz63 (some ad346) t327.length co35 1 (by omega) q63; have hr63 := Kd.F_cut (m := (1 : Int).toNat) (c := co35) hC63 (by omega) hroom63; obtain ⟨A63, hA63⟩ : ∃ A1, A1 = (if co35 = (1 : Int).toNat then (some ad346) else ((some ad346) : Option Addr).map (·.add ((1 : Int).toNat * 2))) := ⟨_, rfl⟩; obtain ⟨c63, hc63⟩ : ∃ c1, c1 = co35 - (1 : Int).toNat := ⟨_, rfl⟩; have hy63 : y365.length = t327.length - (1 : Int).toNat := (by rw [Ny365.out, List.length_drop] <;> omega); rw [show (t327).drop (1 : Int).toNat = y365 from Ny365.out.symm] at hr63; replace hr63 : Kd.F k68 _ _ A63 y365.length y365 := (by rw [hA63]; exact hr63); rw [← hy63, ← hA63, ← hc63] at hcut63; have HO369 := Aside0.mk (show Kd.V k68 68 _ w.heap.size _ (.slice A63 y365.length c63) y365 from Kd.V_mk (by rw [hy63, hc63]; exact Nat.sub_le_sub_right hroom63 _) hr63); have HC369 := Aside0.mk (show y365.length ≤ c63 from by rw [hy63, hc63]; exact Nat.sub_le_sub_right hroom63 _); clear hr63 hC63 hroom63 hi063 hsz63 hc63; have KY63 := Aside0.mk hy63; have KA63 := Aside0.mk hA63; clear hy63 hA63; replace q63 := eq_true q63) | (go_at_call 24; (with_reducible refine (impl_ZOk.calls k _ _ y365 t370 _ ?side1 ?side2 A33.out).mono ?_); (case side1 => repeat (first | exact (Kd.V_reads' HO369.out).2.2 | (with_reducible refine Kd.C_alloc ?_ _) | (with_reducible refine Kd.C_drewN ?_ _) | (with_reducible refine Kd.C_drew ?_))); (case side2 => exact (Kd.V_reads' HO369.out).2.1); rintro e w64 ⟨rfl, hb⟩; have n0_ := Aside0.mk (Kd.N_below (by (with_reducible repeat (first | apply Kd.N_alloc | apply Kd.N_drewN | apply Kd.N_drew)); exact HO329.out) hb); have n1_ := Aside0.mk (Kd.N_below (by (with_reducible repeat (first | apply Kd.N_alloc | apply Kd.N_drewN | apply Kd.N_drew)); exact HO338.out) hb); have n2_ := Aside0.mk (Kd.V_below (by (with_reducible repeat (first | apply Kd.V_alloc | apply Kd.V_drewN | apply Kd.V_drew)); exact HL346_0.out) hb); have n3_ := Aside0.mk (Kd.N_below (by (with_reducible repeat (first | apply Kd.N_alloc | apply Kd.N_drewN | apply Kd.N_drew)); exact HO349.out) hb); have n4_ := Aside0.mk (Kd.N_below (by (with_reducible repeat (first | apply Kd.N_alloc | apply Kd.N_drewN | apply Kd.N_drew)); exact HO352.out) hb); have n5_ := Aside0.mk (Kd.N_below (by (with_reducible repeat (first | apply Kd.N_alloc | apply Kd.N_drewN | apply Kd.N_drew)); exact HO358.out) hb); have n6_ := Aside0.mk (Kd.V_below (by (with_reducible repeat (first | apply Kd.V_alloc | apply Kd.V_drewN | apply Kd.V_drew)); exact HL363_0.out) hb); have n7_ := Aside0.mk (Kd.V_below (by (with_reducible repeat (first | apply Kd.V_alloc | apply Kd.V_drewN | apply Kd.V_drew)); exact HO369.out) hb); have n8_ := Aside0.mk (Kd.C_below (by repeat (first | (with_reducible exact HR363_0.out) | (with_reducible refine Kd.C_alloc ?_ _) | (with_reducible refine Kd.C_drewN ?_ _) | (with_reducible refine Kd.C_drew ?_) | exact HR363_0.out)) hb); have n9_ := Aside0.mk (below_step zhb hb); clear HO329; clear HO338; clear HL346_0; clear HO349; clear HO352; clear HO358; clear HL363_0; clear HO369; clear HR363_0; clear HB; have HO329 := n0_; have HO338 := n1_; have HL346_0 := n2_; have HO349 := n3_; have HO352 := n4_; have HO358 := n5_; have HL363_0 := n6_; have HO369 := n7_; have HR363_0 := n8_; have HB := n9_; clear n0_ n1_ n2_ n3_ n4_ n5_ n6_ n7_ n8_ n9_; (try clear hb); (try clear hb2); (try clear hk); (try clear hi)))
                 go_ret
                 exact ⟨by first | rfl | (simp [errW_none, errW_some] <;> rfl) | (simp [*, errW_none, errW_some] <;> rfl), zhb⟩
                ·rw [if_neg c32] at H
                 exact absurd H (by simp)
               ·rw [if_neg c31] at H
                have c31b0 : (t364 == 0) = false := beq_eq_false_iff_ne.mpr c31
                have c31b1 : (t364 != 0) = true := bne_iff_ne.mpr c31
                exact absurd ((Option.some.inj H).trans HR_.out) (by decide)
           ·rw [if_neg c22] at H
            exact absurd H (by simp)
          ·rw [if_neg c21] at H
           exact absurd H (by simp)
         ·rw [if_neg c20] at H
          exact absurd H (by simp)
        ·rw [if_neg c19] at H
         exact absurd H (by simp)
       ·rw [if_neg c18] at H
        exact absurd H (by simp)
      ·rw [if_neg c16] at H
       exact absurd H (by simp)
     ·rw [if_neg c15] at H
      exact absurd H (by simp)
   ·replace c8 := Bool.eq_false_iff.mpr c8
    subst c8
    have H1 : ((impl_ZAdd.f k t327 ([] : List (S68))).bind fun bt371 => (if bt371.2 = true then (some false) else (if (bt371.1.length : Int) = 0 then ((impl_ZNeg.f k t327).bind fun t375 => (if (t375.length : Int) = 0 then ((impl_ZPos.f k t327).bind fun t378 => (some ((t378.length : Int) == 0))) else (some false))) else (some false)))) = some r := by rw [if_neg (show ¬ (false = true) by decide)] at H; exact H
    clear H
    have H := H1
    clear H1
    replace H := Option.bind_eq_some_iff.mp H
    obtain ⟨⟨t371, t374⟩, A650, H⟩ := H
    (try dsimp only at H)
    have A65 := Aside0.mk A650
    clear A650
    by_cases c66 : t374 = true
    ·subst c66
     have H1 : (some false) = some r := by rw [if_pos rfl] at H; exact H
     clear H
     have H := H1
     clear H1
     exact absurd ((Option.some.inj H).trans HR_.out) (by decide)
    ·replace c66 := Bool.eq_false_iff.mpr c66
     subst c66
     have H1 : (if (t371.length : Int) = 0 then ((impl_ZNeg.f k t327).bind fun t375 => (if (t375.length : Int) = 0 then ((impl_ZPos.f k t327).bind fun t378 => (some ((t378.length : Int) == 0))) else (some false))) else (some false)) = some r := by rw [if_neg (show ¬ (false = true) by decide)] at H; exact H
     clear H
     have H := H1
     clear H1
     by_cases c67 : (t371.length : Int) = 0
     ·rw [if_pos c67] at H
      have c67b0 : ((t371.length : Int) == 0) = true := beq_iff_eq.mpr c67
      have c67b1 : ((t371.length : Int) != 0) = false := bne_eq_false_iff_eq.mpr c67
      clear c67
      replace H := Option.bind_eq_some_iff.mp H
      obtain ⟨t375, A680, H⟩ := H
      (try dsimp only at H)
      have A68 := Aside0.mk A680
      clear A680
      by_cases c69 : (t375.length : Int) = 0
      ·rw [if_pos c69] at H
       have c69b0 : ((t375.length : Int) == 0) = true := beq_iff_eq.mpr c69
       have c69b1 : ((t375.length : Int) != 0) = false := bne_eq_false_iff_eq.mpr c69
       clear c69
       replace H := Option.bind_eq_some_iff.mp H
       obtain ⟨t378, A700, H⟩ := H
       (try dsimp only at H)
       have A70 := Aside0.mk A700
       clear A700
       obtain rfl := Option.some.inj H
       go_enter Try.func10, Try.ntmps10
       go_wp2_with (first | ((with_reducible refine gate_callee (f := 44) rfl ?_); refine goesL_ (some 13) rfl rfl Try.func44 (by kernel_rfl) rfl #[.slice A0 l0.length c0] rfl zar ?_; (with_reducible refine (spec_DrawZOk.calls k _ _ l0 t327 _ ?side1 ?side2 A3.out).mono ?_); (case side1 => repeat (first | exact HR0.out | (with_reducible refine Kd.C_alloc ?_ _) | (with_reducible refine Kd.C_drewN ?_ _) | (with_reducible refine Kd.C_drew ?_))); (case side2 => exact HC0.out); rintro e w71 ⟨v328, rfl, ho0, hb⟩; refine ⟨_, rfl, ?_⟩; have n0_ := Aside0.mk (Kd.N_lower (Kd.N_mono (ok' := fun k_ => True) ho0 (fun k_ hk_ => trivial)) (below_size zhb)); have n1_ := Aside0.mk (below_step zhb hb); clear HB; have HO329 := n0_; have HB := n1_; clear n0_ n1_; (try clear hb); (try clear hb2); (try clear hk); (try clear hi); (try clear ho0); obtain ⟨Ao72, co72, eo72⟩ := Kd.N_slice HO329.out; subst eo72) | ((with_reducible refine gate_callee (f := 24) rfl ?_); refine goesL_ (some 15) rfl rfl Try.func24 (by kernel_rfl) rfl #[.slice Ao72 t327.length co72] rfl zar ?_; (with_reducible refine (impl_ZOk.calls k _ _ t327 t330 _ ?side1 ?side2 A4.out).mono ?_); (case side1 => repeat (first | exact (Kd.N_reads' HO329.out).2.2 | (with_reducible refine Kd.C_alloc ?_ _) | (with_reducible refine Kd.C_drewN ?_ _) | (with_reducible refine Kd.C_drew ?_))); (case side2 => exact (Kd.N_reads' HO329.out).2.1); rintro e w73 ⟨rfl, hb⟩; refine ⟨_, rfl, ?_⟩; have n0_ := Aside0.mk (Kd.N_below (by (with_reducible repeat (first | apply Kd.N_alloc | apply Kd.N_drewN | apply Kd.N_drew)); exact HO329.out) hb); have n1_ := Aside0.mk (below_step zhb hb); clear HO329; clear HB; have HO329 := n0_; have HB := n1_; clear n0_ n1_; (try clear hb); (try clear hb2); (try clear hk); (try clear hi)) | ((with_reducible refine gate_callee (f := 22) rfl ?_); refine goesL_ (some 17) rfl rfl Try.func22 (by kernel_rfl) rfl #[.slice Ao72 t327.length co72] rfl zar ?_; (with_reducible refine (spec_ZOk.calls k _ _ t327 t331 _ ?side1 ?side2 A5.out).mono ?_); (case side1 => repeat (first | exact (Kd.N_reads' HO329.out).2.2 | (with_reducible refine Kd.C_alloc ?_ _) | (with_reducible refine Kd.C_drewN ?_ _) | (with_reducible refine Kd.C_drew ?_))); (case side2 => exact (Kd.N_reads' HO329.out).2.1); rintro e w74 ⟨rfl, hb⟩; refine ⟨_, rfl, ?_⟩; have n0_ := Aside0.mk (Kd.N_below (by (with_reducible repeat (first | apply Kd.N_alloc | apply Kd.N_drewN | apply Kd.N_drew)); exact HO329.out) hb); have n1_ := Aside0.mk (below_step zhb hb); clear HO329; clear HB; have HO329 := n0_; have HB := n1_; clear n0_ n1_; (try clear hb); (try clear hb2); (try clear hk); (try clear hi)) | ((with_reducible refine gate_callee (f := 22) rfl ?_); refine goesL_ (some 20) rfl rfl Try.func22 (by kernel_rfl) rfl #[.slice Ao72 t327.length co72] rfl zar ?_; (with_reducible refine (spec_ZOk.calls k _ _ t327 false _ ?side1 ?side2 A7.out).mono ?_); (case side1 => repeat (first | exact (Kd.N_reads' HO329.out).2.2 | (with_reducible refine Kd.C_alloc ?_ _) | (with_reducible refine Kd.C_drewN ?_ _) | (with_reducible refine Kd.C_drew ?_))); (case side2 => exact (Kd.N_reads' HO329.out).2.1); rintro e w75 ⟨rfl, hb⟩; refine ⟨_, rfl, ?_⟩; have n0_ := Aside0.mk (Kd.N_below (by (with_reducible repeat (first | apply Kd.N_alloc | apply Kd.N_drewN | apply Kd.N_drew)); exact HO329.out) hb); have n1_ := Aside0.mk (below_step zhb hb); clear HO329; clear HB; have HO329 := n0_; have HB := n1_; clear n0_ n1_; (try clear hb); (try clear hb2); (try clear hk); (try clear hi)) | ((with_reducible refine gate_callee (f := 45) rfl ?_); refine goesL_ (some 24) rfl rfl Try.func45 (by kernel_rfl) rfl #[.slice Ao72 t327.length co72, .slice none 0 0] rfl zar ?_; (refine (impl_ZAdd.calls k (fun k_ => True) _ _ t327 (fun k_ => False) _ _ ([] : List (S68)) t371 false _ ?side1 ?side2 A65.out).mono ?_); (case side1 => exact Kd.N_V (HO329.out)); (case side2 => exact Kd.V_nil _ _ _ _ _); rintro e w76 ⟨v372, rfl, ho0, hb⟩; refine ⟨_, rfl, ?_⟩; have n0_ := Aside0.mk (Kd.N_elder' (by (with_reducible repeat (first | apply Kd.N_alloc | apply Kd.N_drewN | apply Kd.N_drew)); exact HO329.out) (Kd.N_base ho0) hb); have n1_ := Aside0.mk (Kd.N_lower (Kd.N_mono (ok' := fun k_ => True) ho0 (fun k_ hk_ => trivial)) (below_size zhb)); have n2_ := Aside0.mk (below_step zhb hb); clear HO329; clear HB; have HO329 := n0_; have HO373 := n1_; have HB := n2_; clear n0_ n1_ n2_; (try clear hb); (try clear hb2); (try clear hk); (try clear hi); (try clear ho0); obtain ⟨Ao77, co77, eo77⟩ := Kd.N_slice HO373.out; subst eo77) | (go_at_call 36; (with_reducible refine (impl_ZNeg.calls k _ _ t327 t375 _ ?side1 ?side2 A68.out).mono ?_); (case side1 => repeat (first | exact (Kd.N_reads' HO329.out).2.2 | (with_reducible refine Kd.C_alloc ?_ _) | (with_reducible refine Kd.C_drewN ?_ _) | (with_reducible refine Kd.C_drew ?_))); (case side2 => exact (Kd.N_reads' HO329.out).2.1); rintro e w78 ⟨v376, rfl, ho0, hb⟩; have n0_ := Aside0.mk (Kd.N_elder' (by (with_reducible repeat (first | apply Kd.N_alloc | apply Kd.N_drewN | apply Kd.N_drew)); exact HO329.out) (Kd.S_base ho0) hb); have n1_ := Aside0.mk (Kd.N_elder' (by (with_reducible repeat (first | apply Kd.N_alloc | apply Kd.N_drewN | apply Kd.N_drew)); exact HO373.out) (Kd.S_base ho0) hb); have n2_ := Aside0.mk (Kd.N_lower (Kd.N_mono (ok' := fun k_ => some k_ ≠ (.slice Ao72 t327.length co72 : Value).ownBlock ∧ some k_ ≠ (.slice Ao77 t371.length co77 : Value).ownBlock) (Kd.S_N (Kd.S_bound ho0)) (fun k_ hk_ => ⟨(Kd.fresh' (Kd.N_lt (by (with_reducible repeat (first | apply Kd.N_alloc | apply Kd.N_drewN | apply Kd.N_drew)); exact HO329.out)) k_ hk_.2.1), (Kd.fresh' (Kd.N_lt (by (with_reducible repeat (first | apply Kd.N_alloc | apply Kd.N_drewN | apply Kd.N_drew)); exact HO373.out)) k_ hk_.2.1)⟩)) (below_size zhb)); have n3_ := Aside0.mk (below_step zhb hb); clear HO329; clear HO373; clear HB; have HO329 := n0_; have HO373 := n1_; have HO377 := n2_; have HB := n3_; clear n0_ n1_ n2_ n3_; (try clear hb); (try clear hb2); (try clear hk); (try clear hi); (try clear ho0); obtain ⟨Ao79, co79, eo79⟩ := Kd.N_slice HO377.out; subst eo79) | (go_at_call 40; (with_reducible refine (impl_ZPos.calls k _ _ t327 t378 _ ?side1 ?side2 A70.out).mono ?_); (case side1 => repeat (first | exact (Kd.N_reads' HO329.out).2.2 | (with_reducible refine Kd.C_alloc ?_ _) | (with_reducible refine Kd.C_drewN ?_ _) | (with_reducible refine Kd.C_drew ?_))); (case side2 => exact (Kd.N_reads' HO329.out).2.1); rintro e w80 ⟨v379, rfl, ho0, hb⟩; have n0_ := Aside0.mk (Kd.N_elder' (by (with_reducible repeat (first | apply Kd.N_alloc | apply Kd.N_drewN | apply Kd.N_drew)); exact HO329.out) (Kd.S_base ho0) hb); have n1_ := Aside0.mk (Kd.N_elder' (by (with_reducible repeat (first | apply Kd.N_alloc | apply Kd.N_drewN | apply Kd.N_drew)); exact HO373.out) (Kd.S_base ho0) hb); have n2_ := Aside0.mk (Kd.N_elder' (by (with_reducible repeat (first | apply Kd.N_alloc | apply Kd.N_drewN | apply Kd.N_drew)); exact HO377.out) (Kd.S_base ho0) hb); have n3_ := Aside0.mk (Kd.N_lower (Kd.N_mono (ok' := fun k_ => some k_ ≠ (.slice Ao72 t327.length co72 : Value).ownBlock ∧ some k_ ≠ (.slice Ao77 t371.length co77 : Value).ownBlock ∧ some k_ ≠ (.slice Ao79 t375.length co79 : Value).ownBlock) (Kd.S_N (Kd.S_bound ho0)) (fun k_ hk_ => ⟨(Kd.fresh' (Kd.N_lt (by (with_reducible repeat (first | apply Kd.N_alloc | apply Kd.N_drewN | apply Kd.N_drew)); exact HO329.out)) k_ hk_.2.1), (Kd.fresh' (Kd.N_lt (by (with_reducible repeat (first | apply Kd.N_alloc | apply Kd.N_drewN | apply Kd.N_drew)); exact HO373.out)) k_ hk_.2.1), (Kd.fresh' (Kd.N_lt (by (with_reducible repeat (first | apply Kd.N_alloc | apply Kd.N_drewN | apply Kd.N_drew)); exact HO377.out)) k_ hk_.2.1)⟩)) (below_size zhb)); have n4_ := Aside0.mk (below_step zhb hb); clear HO329; clear HO373; clear HO377; clear HB; have HO329 := n0_; have HO373 := n1_; have HO377 := n2_; have HO380 := n3_; have HB := n4_; clear n0_ n1_ n2_ n3_ n4_; (try clear hb); (try clear hb2); (try clear hk); (try clear hi); (try clear ho0); obtain ⟨Ao81, co81, eo81⟩ := Kd.N_slice HO380.out; subst eo81))
       go_ret
       exact ⟨by first | rfl | (simp [errW_none, errW_some] <;> rfl) | (simp [*, errW_none, errW_some] <;> rfl), zhb⟩
      ·rw [if_neg c69] at H
       have c69b0 : ((t375.length : Int) == 0) = false := beq_eq_false_iff_ne.mpr c69
       have c69b1 : ((t375.length : Int) != 0) = true := bne_iff_ne.mpr c69
       have c69b2 : ¬ (t375 = []) := fun h_ => c69 (by rw [h_]; rfl)
       exact absurd ((Option.some.inj H).trans HR_.out) (by decide)
     ·rw [if_neg c67] at H
      have c67b0 : ((t371.length : Int) == 0) = false := beq_eq_false_iff_ne.mpr c67
      have c67b1 : ((t371.length : Int) != 0) = true := bne_iff_ne.mpr c67
      have c67b2 : ¬ (t371 = []) := fun h_ => c67 (by rw [h_]; rfl)
      exact absurd ((Option.some.inj H).trans HR_.out) (by decide)

/-- THE ONE PURE STATEMENT of laws_FnZBent: yours. -/
def laws_FnZBent.Pure : Prop := ∀ (l0 : List Int), l0.length ≤ maxLen → l0.length * 1 ≤ 140737488351232 → (∀ x ∈ l0, (Lit.int .u8 x).wf = true) → ∃ k, laws_FnZBent.f k l0 = some true
theorem laws_FnZBent.walk (P : laws_FnZBent.Pure) (a0 : Option Addr) (len0 cap0 : Nat) (z0 : List Int) (w : World) (w0 : (a0 = none ∧ len0 = 0 ∧ cap0 = 0 ∧ z0 = []) ∨ ∃ x, a0 = some x ∧ len0 ≤ cap0 ∧ cap0 ≤ maxLen ∧ z0.length = cap0 ∧ (∀ i, i < z0.length → w.cell? (x.add i) = some (.int .u8 (z0.getD i 0))) ∧ ∀ n ∈ z0, (Lit.int .u8 n).wf = true) (y0 : len0 * 1 ≤ 140737488351232) :
  Calls Try.prog 10 #[.slice a0 len0 cap0] w fun e w' => e = .returned (.bool true) ∧ Below w.heap.size w w' := by
 obtain ⟨l0, rfl, hr0, hm0, hw0, hc0⟩ := ReadsInt.ofRowC w0
 obtain ⟨k, h⟩ := P l0 hm0 y0 hw0
 refine (laws_FnZBent.calls k _ _ l0 true w (Kd.C_of_reads (d := (0 : Int)) (h1 := fun _ => rfl) hr0) hc0 h rfl).mono ?_
 rintro e w' ⟨rfl, hd⟩
 exact ⟨rfl, hd⟩

end Go.Proofs.Ytpbmabfodfcfmaa.PFnZBent
