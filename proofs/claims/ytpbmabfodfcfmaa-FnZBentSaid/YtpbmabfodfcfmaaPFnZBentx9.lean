-- Written by wip/tools/pp.py, a program of this session over the kit's printer: not the kit's own print
import Derived.Test.YtpbmabfodfcfmaaPFnZBentx0
import Derived.Test.YtpbmabfodfcfmaaPFnZBentx8
namespace Go.Proofs.Ytpbmabfodfcfmaa.PFnZBent
open Go.RowKit Go.Proofs.YtpbmabfodfcfmaaW.PrintWords Go.Proofs.YtpbmabfodfcfmaaW.PrintLast Go.Proofs.YtpbmabfodfcfmaaW.PrintMore
attribute [local go_sem] max2_int min2_int max_two min_two max_three min_three max_four min_four   -- for this text's walks alone
set_option linter.unusedVariables false
set_option linter.unusedSimpArgs false

/-! ### impl_merged_impl_Item__impl_cmpItem_impl_together_1: function 106 -/
def impl_merged_impl_Item__impl_cmpItem_impl_together_1.l0 : Nat → List (S68) → List (S68) → List (S68) → Option ((List (S68)))
 | 0, _, _, _ => none
 | k + 1, x0, x1, x9 => if (x0.length : Int) > 0 then (if (x1.length : Int) > 0 then (if 0 < (x0.length : Int) then (if 0 < (x1.length : Int) then ((impl_cmpItem.f k ((rd_T68 x0 0).f0) ((rd_T68 x0 0).f1) ((rd_T68 x1 0).f0) ((rd_T68 x1 0).f1)).bind fun t253 => (if t253 < 0 then (if x9.length < 4398046511104 then (if 1 ≤ (x0.length : Int) then (impl_merged_impl_Item__impl_cmpItem_impl_together_1.l0 k (x0.drop 1) x1 (x9 ++ [(⟨(rd_T68 x0 0).f0, (rd_T68 x0 0).f1⟩ : S68)])) else (none)) else (none)) else (if t253 > 0 then (if x9.length < 4398046511104 then (if 1 ≤ (x1.length : Int) then (impl_merged_impl_Item__impl_cmpItem_impl_together_1.l0 k x0 (x1.drop 1) (x9 ++ [(⟨(rd_T68 x1 0).f0, (rd_T68 x1 0).f1⟩ : S68)])) else (none)) else (none)) else ((impl_together_1.f ((rd_T68 x0 0).f0) ((rd_T68 x0 0).f1) ((rd_T68 x1 0).f0) ((rd_T68 x1 0).f1)).bind fun bt274 => (if bt274.2.2 = true then (if x9.length < 4398046511104 then (if 1 ≤ (x0.length : Int) then (if 1 ≤ (x1.length : Int) then (impl_merged_impl_Item__impl_cmpItem_impl_together_1.l0 k (x0.drop 1) (x1.drop 1) (x9 ++ [(⟨bt274.1, bt274.2.1⟩ : S68)])) else (none)) else (none)) else (none)) else (if 1 ≤ (x0.length : Int) then (if 1 ≤ (x1.length : Int) then (impl_merged_impl_Item__impl_cmpItem_impl_together_1.l0 k (x0.drop 1) (x1.drop 1) x9) else (none)) else (none))))))) else (none)) else (none)) else (if x9.length + x0.length < 4398046511104 then ((some (x9 ++ x0 : List (S68))).bind fun y303 => (if y303.length + x1.length < 4398046511104 then (some (y303 ++ x1)) else (none))) else (none))) else (if x9.length + x0.length < 4398046511104 then ((some (x9 ++ x0 : List (S68))).bind fun y309 => (if y309.length + x1.length < 4398046511104 then (some (y309 ++ x1)) else (none))) else (none))
def impl_merged_impl_Item__impl_cmpItem_impl_together_1.f (k : Nat) (l0 : List (S68)) (l1 : List (S68))   : Option ((List (S68))) := impl_merged_impl_Item__impl_cmpItem_impl_together_1.l0 k l0 l1 ([] : List (S68))
theorem impl_merged_impl_Item__impl_cmpItem_impl_together_1.mono_l : ∀ k, (∀ y0 y1 y2, LeO (impl_merged_impl_Item__impl_cmpItem_impl_together_1.l0 k y0 y1 y2) (impl_merged_impl_Item__impl_cmpItem_impl_together_1.l0 (k + 1) y0 y1 y2))
 | 0 => fun _ _ _ r h => by simp [impl_merged_impl_Item__impl_cmpItem_impl_together_1.l0] at h
 | k + 1 => by
  have ih0 := impl_merged_impl_Item__impl_cmpItem_impl_together_1.mono_l k
  ·intro y0 y1 y2
   unfold impl_merged_impl_Item__impl_cmpItem_impl_together_1.l0
   repeat' first
   | (with_reducible exact ih0 _ _ _)
   | (with_reducible exact impl_cmpItem.mono _ _ _ _ _)
   | (with_reducible exact LeO.refl _)
   | (with_reducible exact LeO.none _)
   | (with_reducible refine LeO.ite ?_ ?_)
   | (with_reducible refine LeO.bind ?_ (fun _ => ?_))
   | exact LeO.none _
   | refine LeO.ite ?_ ?_
   | refine LeO.bind ?_ (fun _ => ?_)
theorem impl_merged_impl_Item__impl_cmpItem_impl_together_1.mono : ∀ a0 a1 k, LeO (impl_merged_impl_Item__impl_cmpItem_impl_together_1.f k a0 a1) (impl_merged_impl_Item__impl_cmpItem_impl_together_1.f (k + 1) a0 a1) := by
 intro a0 a1 k
 have ih0 := impl_merged_impl_Item__impl_cmpItem_impl_together_1.mono_l k
 unfold impl_merged_impl_Item__impl_cmpItem_impl_together_1.f
 repeat' first
   | (with_reducible exact ih0 _ _ _)
   | (with_reducible exact impl_cmpItem.mono _ _ _ _ _)
   | (with_reducible exact LeO.refl _)
   | (with_reducible exact LeO.none _)
   | (with_reducible refine LeO.ite ?_ ?_)
   | (with_reducible refine LeO.bind ?_ (fun _ => ?_))
   | exact LeO.none _
   | refine LeO.ite ?_ ?_
   | refine LeO.bind ?_ (fun _ => ?_)
def impl_merged_impl_Item__impl_cmpItem_impl_together_1.T3 : Bool × List (List Nat × List Nat) := (true, [([], []), ([], []), ([1], [1]), ([2], [2]), ([], []), ([4], [4]), ([5], [5]), ([0, 3, 6], [0, 3, 6]), ([7, 7, 0, 1, 2, 3, 4, 5, 6, 7], [7])])
def impl_merged_impl_Item__impl_cmpItem_impl_together_1.B3 : List Nat := [0, 0, 2, 6, 0, 16, 48, 127, 255]
theorem impl_merged_impl_Item__impl_cmpItem_impl_together_1.tab3 : rtab .any (opsOf Try.f106 3) = impl_merged_impl_Item__impl_cmpItem_impl_together_1.T3 := by kernel_rfl
theorem impl_merged_impl_Item__impl_cmpItem_impl_together_1.bits3 : waitsOk impl_merged_impl_Item__impl_cmpItem_impl_together_1.T3.2 impl_merged_impl_Item__impl_cmpItem_impl_together_1.B3 = true := by kernel_rfl
def impl_merged_impl_Item__impl_cmpItem_impl_together_1.T4 : Bool × List (List Nat × List Nat) := (true, [([], []), ([], []), ([1], [1]), ([2], [2]), ([], []), ([4], [4]), ([5], [5]), ([0, 3, 6], [0, 3, 6]), ([7], [7]), ([8], [8]), ([8], [8]), ([], []), ([11, 9, 7, 0, 1, 2, 3, 4, 5, 6, 7, 8, 9, 11], [9, 11]), ([10, 12, 0, 1, 2, 3, 4, 5, 6, 7, 8, 9, 10, 11, 12], [10])])
def impl_merged_impl_Item__impl_cmpItem_impl_together_1.B4 : List Nat := [0, 0, 2, 6, 0, 16, 48, 127, 255, 511, 511, 0, 3071, 8191]
theorem impl_merged_impl_Item__impl_cmpItem_impl_together_1.tab4 : rtab .any (opsOf Try.f106 4) = impl_merged_impl_Item__impl_cmpItem_impl_together_1.T4 := by kernel_rfl
theorem impl_merged_impl_Item__impl_cmpItem_impl_together_1.bits4 : waitsOk impl_merged_impl_Item__impl_cmpItem_impl_together_1.T4.2 impl_merged_impl_Item__impl_cmpItem_impl_together_1.B4 = true := by kernel_rfl
def impl_merged_impl_Item__impl_cmpItem_impl_together_1.T9 : Bool × List (List Nat × List Nat) := (true, [([], []), ([], []), ([1], [1]), ([2], [2]), ([3], [3]), ([0, 4], [0, 4]), ([], []), ([6], [6]), ([5, 5, 0, 1, 2, 3, 4, 5], [0, 5]), ([7, 8, 0, 1, 2, 3, 4, 5, 6, 7, 8], [1, 6, 7])])
def impl_merged_impl_Item__impl_cmpItem_impl_together_1.B9 : List Nat := [0, 0, 2, 6, 14, 31, 0, 64, 63, 511]
theorem impl_merged_impl_Item__impl_cmpItem_impl_together_1.tab9 : rtab .any (opsOf Try.f106 9) = impl_merged_impl_Item__impl_cmpItem_impl_together_1.T9 := by kernel_rfl
theorem impl_merged_impl_Item__impl_cmpItem_impl_together_1.bits9 : waitsOk impl_merged_impl_Item__impl_cmpItem_impl_together_1.T9.2 impl_merged_impl_Item__impl_cmpItem_impl_together_1.B9 = true := by kernel_rfl
def impl_merged_impl_Item__impl_cmpItem_impl_together_1.T11 : Bool × List (List Nat × List Nat) := (true, [([], []), ([], []), ([1], [1]), ([2], [2]), ([3], [3]), ([0, 4], [0, 4]), ([], []), ([6], [6]), ([5, 5, 0, 1, 2, 3, 4, 5], [0, 5]), ([7, 8, 0, 1, 2, 3, 4, 5, 6, 7, 8], [1, 6, 7])])
def impl_merged_impl_Item__impl_cmpItem_impl_together_1.B11 : List Nat := [0, 0, 2, 6, 14, 31, 0, 64, 63, 511]
theorem impl_merged_impl_Item__impl_cmpItem_impl_together_1.tab11 : rtab .any (opsOf Try.f106 11) = impl_merged_impl_Item__impl_cmpItem_impl_together_1.T11 := by kernel_rfl
theorem impl_merged_impl_Item__impl_cmpItem_impl_together_1.bits11 : waitsOk impl_merged_impl_Item__impl_cmpItem_impl_together_1.T11.2 impl_merged_impl_Item__impl_cmpItem_impl_together_1.B11 = true := by kernel_rfl
set_option maxHeartbeats 8000000 in
set_option maxRecDepth 100000 in
theorem impl_merged_impl_Item__impl_cmpItem_impl_together_1.calls (k : Nat) (P0_ : Nat → Prop) (A0 : Option Addr) (c0 : Nat) (l0 : List (S68)) (P1_ : Nat → Prop) (A1 : Option Addr) (c1 : Nat) (l1 : List (S68))   (r : List (S68)) (w : World) (hs0 : Kd.V k68 68 w w.heap.size (fun k_ => P0_ k_) (.slice A0 l0.length c0) l0) (hs1 : Kd.V k68 68 w w.heap.size (fun k_ => P1_ k_) (.slice A1 l1.length c1) l1) (h : impl_merged_impl_Item__impl_cmpItem_impl_together_1.f k l0 l1 = some r) :
  Calls Try.prog 106 #[.slice A0 l0.length c0, .slice A1 l1.length c1, .func (.func 107) #[] #[], .func (.func 108) #[] #[]] w fun e w' => ∃ v0_ : Value, e = .returned (v0_) ∧ Kd.N k68 68 w' w.heap.size (fun k_ => ((P0_ k_ ∨ P1_ k_) ∨ w.heap.size ≤ k_)) v0_ r ∧ Below w.heap.size w w' := by
 have hu68 := Try.underlying68
 have HO0 := Aside0.mk (show Kd.V k68 68 w w.heap.size (fun k_ => ((P0_ k_ ∨ P1_ k_) ∨ w.heap.size ≤ k_)) (.slice A0 l0.length c0) l0 from Kd.V_mono hs0 (fun k_ hk => .inl (.inl hk)))
 have HO1 := Aside0.mk (show Kd.V k68 68 w w.heap.size (fun k_ => ((P0_ k_ ∨ P1_ k_) ∨ w.heap.size ≤ k_)) (.slice A1 l1.length c1) l1 from Kd.V_mono hs1 (fun k_ hk => .inl (.inr hk)))
 have HB := Aside0.mk (Below.refl w.heap.size w)
 have H : (impl_merged_impl_Item__impl_cmpItem_impl_together_1.l0 k l0 l1 ([] : List (S68))) = some r := h
 clear h
 have H' := Aside0.mk H
 clear H
 go_enter Try.func106, Try.ntmps106
 go_wp2
 go_loopg [0, 1, 9] k (fun kq v0 v1 v9 w' => ∃ (x0_1 : List (S68)) (x1_1 : List (S68)) (x9_1 : List (S68)), Aside0 (impl_merged_impl_Item__impl_cmpItem_impl_together_1.l0 kq x0_1 x1_1 x9_1 = some r) ∧ Aside0 (kq ≤ k) ∧ Aside0 (Kd.V k68 68 w' w.heap.size (fun k_ => ((P0_ k_ ∨ P1_ k_) ∨ w.heap.size ≤ k_) ∧ some k_ ≠ (v9 : Value).ownBlock) v0 x0_1) ∧ Aside0 (Kd.V k68 68 w' w.heap.size (fun k_ => ((P0_ k_ ∨ P1_ k_) ∨ w.heap.size ≤ k_) ∧ some k_ ≠ (v9 : Value).ownBlock) v1 x1_1) ∧ Aside0 (Kd.N k68 68 w' w.heap.size (fun k_ => ((P0_ k_ ∨ P1_ k_) ∨ w.heap.size ≤ k_)) v9 x9_1) ∧ Aside0 (Below w.heap.size w w'))
 case atStart => exact ⟨(l0), (l1), (([] : List (S68))), H', ⟨Nat.le_refl _⟩, ⟨by (with_reducible repeat (first | apply Kd.V_alloc | apply Kd.V_drewN | apply Kd.V_drew)); exact Kd.V_mono HO0.out (fun _ hk => ⟨hk, (by simp [Value.ownBlock])⟩)⟩, ⟨by (with_reducible repeat (first | apply Kd.V_alloc | apply Kd.V_drewN | apply Kd.V_drew)); exact Kd.V_mono HO1.out (fun _ hk => ⟨hk, (by simp [Value.ownBlock])⟩)⟩, ⟨by first | exact Kd.S_nil _ _ _ _ _ | exact Kd.N_nil _ _ _ _ _ | exact Kd.V_nil _ _ _ _ _ | exact Kd.Q_nil _ _ _ _ _ | exact Kd.R_nil _ _ _ _ _⟩, ⟨zhb⟩⟩
 case round =>
  clear H'
  try clear c1
  try clear p2
  obtain ⟨x0_1, x1_1, x9_1, HA, HK1, HO_0, HO_1, HO_9, HB⟩ := hrel
  cases gk with
  | zero => exact absurd HA.out (by simp [impl_merged_impl_Item__impl_cmpItem_impl_together_1.l0])
  | succ k1 =>
   have H := HA.out
   clear HA
   simp only [impl_merged_impl_Item__impl_cmpItem_impl_together_1.l0] at H
   by_cases c5 : (x0_1.length : Int) > 0
   ·rw [if_pos c5] at H
    have c5b0 : decide (0 < (x0_1.length : Int)) = true := decide_eq_true c5
    have c5b1 : decide (0 < x0_1.length) = true := decide_eq_true (by omega)
    clear c5
    by_cases c6 : (x1_1.length : Int) > 0
    ·rw [if_pos c6] at H
     have c6b0 : decide (0 < (x1_1.length : Int)) = true := decide_eq_true c6
     have c6b1 : decide (0 < x1_1.length) = true := decide_eq_true (by omega)
     clear c6
     by_cases c7 : 0 < (x0_1.length : Int)
     ·rw [if_pos c7] at H
      have c7b0 : decide (0 < (x0_1.length : Int)) = true := decide_eq_true c7
      have c7b1 : decide (0 < x0_1.length) = true := decide_eq_true (by omega)
      clear c7
      by_cases c8 : 0 < (x1_1.length : Int)
      ·rw [if_pos c8] at H
       have c8b0 : decide (0 < (x1_1.length : Int)) = true := decide_eq_true c8
       have c8b1 : decide (0 < x1_1.length) = true := decide_eq_true (by omega)
       clear c8
       replace H := Option.bind_eq_some_iff.mp H
       obtain ⟨t253, A90, H⟩ := H
       (try dsimp only at H)
       have A9 := Aside0.mk A90
       clear A90
       by_cases c10 : t253 < 0
       ·rw [if_pos c10] at H
        have c10b0 : decide (t253 < 0) = true := decide_eq_true c10
        clear c10
        by_cases c11 : x9_1.length < 4398046511104
        ·rw [if_pos c11] at H
         have LMc11 := Aside0.mk c11
         clear c11
         obtain ⟨y255, hy255⟩ : ∃ y_ : List (S68), y_ = (x9_1 ++ [(⟨(rd_T68 x0_1 0).f0, (rd_T68 x0_1 0).f1⟩ : S68)]) := ⟨_, rfl⟩
         replace H : (if 1 ≤ (x0_1.length : Int) then (impl_merged_impl_Item__impl_cmpItem_impl_together_1.l0 k1 (x0_1.drop 1) x1_1 y255) else (none)) = some r := by first | (rw [hy255]; with_reducible exact H) | (have H2_ := (Option.bind_some _ _).symm.trans H; rw [hy255]; with_reducible exact H2_) | (have H2_ := (Option.bind_some _ _).symm.trans H; with_reducible exact H2_) | with_reducible exact H | (rw [hy255]; exact H) | exact H
         have Ny255 := Aside0.mk hy255
         clear hy255
         by_cases c12 : 1 ≤ (x0_1.length : Int)
         ·rw [if_pos c12] at H
          have c12b0 := eq_true c12
          have c12b1 : decide (1 ≤ (x0_1.length : Int)) = true := decide_eq_true c12
          clear c12
          obtain ⟨y258, hy258⟩ : ∃ y_ : List (S68), y_ = (x0_1.drop 1) := ⟨_, rfl⟩
          replace H : (impl_merged_impl_Item__impl_cmpItem_impl_together_1.l0 k1 y258 x1_1 y255) = some r := by first | (rw [hy258]; with_reducible exact H) | (have H2_ := (Option.bind_some _ _).symm.trans H; rw [hy258]; with_reducible exact H2_) | (have H2_ := (Option.bind_some _ _).symm.trans H; with_reducible exact H2_) | with_reducible exact H | (rw [hy258]; exact H) | exact H
          have Ny258 := Aside0.mk hy258
          clear hy258
          have H' := Aside0.mk H
          clear H
          obtain ⟨Ao13, co13, eo13⟩ := Kd.V_slice HO_0.out
          subst eo13
          obtain ⟨Ao14, co14, eo14⟩ := Kd.V_slice HO_1.out
          subst eo14
          try go_wp2
          have n0_ := Aside0.mk (Kd.V_drew HO_0.out)
          have n1_ := Aside0.mk (Kd.V_drew HO_1.out)
          have n2_ := Aside0.mk (Kd.N_drew HO_9.out)
          have n3_ := Aside0.mk (below_drew1 HB.out)
          clear HO_0
          clear HO_1
          clear HO_9
          clear HB
          have HO_0 := n0_
          have HO_1 := n1_
          have HO_9 := n2_
          have HB := n3_
          clear n0_ n1_ n2_ n3_
          have p251 : 0 ≤ (0 : Int) := (by omega)
          have q251 : 0 < (x0_1.length : Int) := zod
          obtain ⟨ad251, A251_0, c251_0, e251, hx251_0, hx251_1, hl251_0, hi251_0⟩ := at_T68 (Kd.V_reads' HO_0.out).2.2 0 p251 q251
          cases e251
          obtain ⟨ce251, hce251, hMe251, hcc251⟩ := Kd.V_get HO_0.out z68 0 p251 (by first | exact q251 | exact zod | (have e_ := (Kd.V_reads' HO_0.out).1; omega))
          obtain ⟨ua251_0, uc251_0, rfl, ul251_0, ge251_0⟩ := k68_openF hMe251
          have hv251_0 := hcc251 0 _ rfl
          rw [Nat.add_zero] at hv251_0
          replace hv251_0 := Option.some.inj (hv251_0.symm.trans hx251_0)
          injection hv251_0 with hva_ hvn_ hvc_
          rw [hva_] at ge251_0
          rw [hvc_] at ul251_0
          have HL251_0 := Aside0.mk (show Kd.V (Kd.int .i64) 3 _ w.heap.size _ _ ((rd_T68 x0_1 0).f0) from Kd.V_mk ul251_0 ge251_0)
          clear hva_ hvn_ hvc_ ge251_0 ul251_0
          clear hcc251 hce251
          have qi251 : (0 < x0_1.length) = True := eq_true (by omega)
          (try rw [show ((0 : Int)).toNat = 0 from rfl] at hx251_0)
          (try rw [show 0 * 2 = 0 from rfl] at hx251_0)
          (try rw [Addr.add_zero'] at hx251_0)
          (try rw [show ((0 : Int)).toNat = 0 from rfl] at hx251_1)
          (try rw [show 0 * 2 = 0 from rfl] at hx251_1)
          (try rw [Addr.add_zero'] at hx251_1)
          have HR251_0 := Aside0.mk hi251_0
          have HC251_0 := Aside0.mk hl251_0
          clear hi251_0 hl251_0
          replace p251 := eq_true p251
          replace q251 := eq_true q251
          have p252 : 0 ≤ (0 : Int) := (by omega)
          have q252 : 0 < (x1_1.length : Int) := zod
          obtain ⟨ad252, A252_0, c252_0, e252, hx252_0, hx252_1, hl252_0, hi252_0⟩ := at_T68 (Kd.V_reads' HO_1.out).2.2 0 p252 q252
          cases e252
          obtain ⟨ce252, hce252, hMe252, hcc252⟩ := Kd.V_get HO_1.out z68 0 p252 (by first | exact q252 | exact zod | (have e_ := (Kd.V_reads' HO_1.out).1; omega))
          obtain ⟨ua252_0, uc252_0, rfl, ul252_0, ge252_0⟩ := k68_openF hMe252
          have hv252_0 := hcc252 0 _ rfl
          rw [Nat.add_zero] at hv252_0
          replace hv252_0 := Option.some.inj (hv252_0.symm.trans hx252_0)
          injection hv252_0 with hva_ hvn_ hvc_
          rw [hva_] at ge252_0
          rw [hvc_] at ul252_0
          have HL252_0 := Aside0.mk (show Kd.V (Kd.int .i64) 3 _ w.heap.size _ _ ((rd_T68 x1_1 0).f0) from Kd.V_mk ul252_0 ge252_0)
          clear hva_ hvn_ hvc_ ge252_0 ul252_0
          clear hcc252 hce252
          have qi252 : (0 < x1_1.length) = True := eq_true (by omega)
          (try rw [show ((0 : Int)).toNat = 0 from rfl] at hx252_0)
          (try rw [show 0 * 2 = 0 from rfl] at hx252_0)
          (try rw [Addr.add_zero'] at hx252_0)
          (try rw [show ((0 : Int)).toNat = 0 from rfl] at hx252_1)
          (try rw [show 0 * 2 = 0 from rfl] at hx252_1)
          (try rw [Addr.add_zero'] at hx252_1)
          have HR252_0 := Aside0.mk hi252_0
          have HC252_0 := Aside0.mk hl252_0
          clear hi252_0 hl252_0
          replace p252 := eq_true p252
          replace q252 := eq_true q252
          refine start_ (n := 9) (S := fun w' => w'.cell? ad251 = some (.slice A251_0 ((rd_T68 x0_1 0).f0).length c251_0) ∧ w'.cell? ⟨ad251.block, ad251.off + 1, none⟩ = some (.int .i64 ((rd_T68 x0_1 0).f1)) ∧ w'.cell? ad252 = some (.slice A252_0 ((rd_T68 x1_1 0).f0).length c252_0) ∧ w'.cell? ⟨ad252.block, ad252.off + 1, none⟩ = some (.int .i64 ((rd_T68 x1_1 0).f1))) (ds := []) #[zf, zf, zf, zf, zf, zf, zf, zf, zf] (by kernel_rfl) rfl rfl ⟨hx251_0, hx251_1, hx252_0, hx252_1⟩ (fun hHeld => ?_); refine with_tabW impl_merged_impl_Item__impl_cmpItem_impl_together_1.tab3 impl_merged_impl_Item__impl_cmpItem_impl_together_1.bits3 (fun HT_ HW_ => ?_)
          generalize wr.drew = w15 at HO_0 HO_1 HO_9 HB HL251_0 HL252_0 HR251_0 HR252_0 hx251_0 hx251_1 hx252_0 hx252_1 hHeld ⊢
          refine pure_ (i := 0) (N := some 21) (v := ?_) (a' := ?_) #[zt, zf, zf, zf, zf, zf, zf, zf, zf] rfl rfl (any_of HT_.out (by kernel_rfl)) (fun _ _ _ h => h) (Or.inl ⟨by rfl, ?_⟩) ?_ ?_
          rotate_left
          ·intro w'
           go_simp
           with_reducible rfl
          rotate_left
          ·simp only [Act.put, zp1, zp2, zp3, i64_w, i32_w]
           rfl
          refine pure_ (i := 1) (N := some 22) (v := ?_) (a' := ?_) #[zt, zt, zf, zf, zf, zf, zf, zf, zf] rfl rfl (any_of HT_.out (by kernel_rfl)) (fun _ _ _ h => h) (Or.inl ⟨by rfl, ?_⟩) ?_ ?_
          rotate_left
          ·intro w'
           go_simp
           with_reducible rfl
          rotate_left
          ·simp only [Act.put, zp1, zp2, zp3, i64_w, i32_w]
           rfl
          refine pure_ (i := 2) (N := some 23) (v := ?_) (a' := ?_) #[zt, zt, zt, zf, zf, zf, zf, zf, zf] rfl rfl (any_of HT_.out (by kernel_rfl)) (fun _ _ _ h => h) (Or.inl ⟨by rfl, ?_⟩) ?_ ?_
          rotate_left
          ·intro w'
           go_simp
           with_reducible rfl
          rotate_left
          ·simp only [Act.put, zp1, zp2, zp3, i64_w, i32_w]
           rfl
          refine pure_ (i := 4) (N := some 25) (v := ?_) (a' := ?_) #[zt, zt, zt, zf, zt, zf, zf, zf, zf] rfl rfl (any_of HT_.out (by kernel_rfl)) (fun _ _ _ h => h) (Or.inl ⟨by rfl, ?_⟩) ?_ ?_
          rotate_left
          ·intro w'
           go_simp
           with_reducible rfl
          rotate_left
          ·simp only [Act.put, zp1, zp2, zp3, i64_w, i32_w]
           rfl
          refine pure_ (i := 5) (N := some 26) (v := ?_) (a' := ?_) #[zt, zt, zt, zf, zt, zt, zf, zf, zf] rfl rfl (any_of HT_.out (by kernel_rfl)) (fun _ _ _ h => h) (Or.inl ⟨by rfl, ?_⟩) ?_ ?_
          rotate_left
          ·intro w'
           go_simp
           with_reducible rfl
          rotate_left
          ·simp only [Act.put, zp1, zp2, zp3, i64_w, i32_w]
           rfl
          refine take_ (i := 3) (N := some 24) (v := ?_) (a' := ?_) #[zt, zt, zt, zt, zt, zt, zf, zf, zf] rfl rfl (take_ofW HT_.out HW_.out (by kernel_rfl)) (fun _ _ _ h => h) (Or.inl ⟨by rfl, ?_⟩) hHeld ?_ ?_
          rotate_left
          ·rintro w' ⟨s0, s1, s2, s3⟩
           go_simp
           with_reducible rfl
          rotate_left
          ·simp only [Act.put, zp1, zp2, zp3, i64_w, i32_w]
           rfl
          refine take_ (i := 6) (N := some 27) (v := ?_) (a' := ?_) #[zt, zt, zt, zt, zt, zt, zt, zf, zf] rfl rfl (take_ofW HT_.out HW_.out (by kernel_rfl)) (fun _ _ _ h => h) (Or.inl ⟨by rfl, ?_⟩) hHeld ?_ ?_
          rotate_left
          ·rintro w' ⟨s0, s1, s2, s3⟩
           go_simp
           with_reducible rfl
          rotate_left
          ·simp only [Act.put, zp1, zp2, zp3, i64_w, i32_w]
           rfl
          refine one_ (i := 7) (N := some 28) #[zt, zt, zt, zt, zt, zt, zt, zt, zf] rfl rfl (one_of HT_.out (by kernel_rfl)) (by decide) (fun K hK => ?_)
          refine goes_f (.tmp 21) Try.func107 (by kernel_rfl) rfl #[.agg #[.slice A251_0 ((rd_T68 x0_1 0).f0).length c251_0, .int .i64 ((rd_T68 x0_1 0).f1)], .agg #[.slice A252_0 ((rd_T68 x1_1 0).f0).length c252_0, .int .i64 ((rd_T68 x1_1 0).f1)]] (by rfl) rfl rfl rfl zar ?_
          with_reducible refine (impl_cmpItem.calls k1 _ _ ((rd_T68 x0_1 0).f0) ((rd_T68 x0_1 0).f1) _ _ ((rd_T68 x1_1 0).f0) ((rd_T68 x1_1 0).f1) t253 _ ?side1 ?side2 ?side3 ?side4 A9.out).mono ?_
          (case side1 => repeat (first | exact (by repeat (first | (with_reducible exact HR251_0.out) | (with_reducible refine Kd.C_alloc ?_ _) | (with_reducible refine Kd.C_drewN ?_ _) | (with_reducible refine Kd.C_drew ?_) | exact HR251_0.out)) | (with_reducible refine Kd.C_alloc ?_ _) | (with_reducible refine Kd.C_drewN ?_ _) | (with_reducible refine Kd.C_drew ?_)))
          (case side2 => exact HC251_0.out)
          (case side3 => repeat (first | exact (by repeat (first | (with_reducible exact HR252_0.out) | (with_reducible refine Kd.C_alloc ?_ _) | (with_reducible refine Kd.C_drewN ?_ _) | (with_reducible refine Kd.C_drew ?_) | exact HR252_0.out)) | (with_reducible refine Kd.C_alloc ?_ _) | (with_reducible refine Kd.C_drewN ?_ _) | (with_reducible refine Kd.C_drew ?_)))
          (case side4 => exact HC252_0.out)
          rintro e w16 ⟨rfl, hb⟩
          have HS0_ := (hb.cell (World.block_lt_of_cell? _ _ (hHeld.1))).trans (hHeld.1)
          have HS1_ := (hb.cell (World.block_lt_of_cell? _ _ (hHeld.2.1))).trans (hHeld.2.1)
          have HS2_ := (hb.cell (World.block_lt_of_cell? _ _ (hHeld.2.2.1))).trans (hHeld.2.2.1)
          have HS3_ := (hb.cell (World.block_lt_of_cell? _ _ (hHeld.2.2.2))).trans (hHeld.2.2.2)
          refine ⟨_, rfl, ?_⟩
          have n0_ := Aside0.mk (Kd.V_below (by (with_reducible repeat (first | apply Kd.V_alloc | apply Kd.V_drewN | apply Kd.V_drew)); exact HO_0.out) hb)
          have n1_ := Aside0.mk (Kd.V_below (by (with_reducible repeat (first | apply Kd.V_alloc | apply Kd.V_drewN | apply Kd.V_drew)); exact HO_1.out) hb)
          have n2_ := Aside0.mk (Kd.N_below (by (with_reducible repeat (first | apply Kd.N_alloc | apply Kd.N_drewN | apply Kd.N_drew)); exact HO_9.out) hb)
          have n3_ := Aside0.mk (Kd.V_below (by (with_reducible repeat (first | apply Kd.V_alloc | apply Kd.V_drewN | apply Kd.V_drew)); exact HL251_0.out) hb)
          have n4_ := Aside0.mk (Kd.V_below (by (with_reducible repeat (first | apply Kd.V_alloc | apply Kd.V_drewN | apply Kd.V_drew)); exact HL252_0.out) hb)
          have n5_ := Aside0.mk (Kd.C_below (by repeat (first | (with_reducible exact HR251_0.out) | (with_reducible refine Kd.C_alloc ?_ _) | (with_reducible refine Kd.C_drewN ?_ _) | (with_reducible refine Kd.C_drew ?_) | exact HR251_0.out)) hb)
          have n6_ := Aside0.mk (Kd.C_below (by repeat (first | (with_reducible exact HR252_0.out) | (with_reducible refine Kd.C_alloc ?_ _) | (with_reducible refine Kd.C_drewN ?_ _) | (with_reducible refine Kd.C_drew ?_) | exact HR252_0.out)) hb)
          have n7_ := Aside0.mk (below_step zhb hb)
          clear HO_0
          clear HO_1
          clear HO_9
          clear HL251_0
          clear HL252_0
          clear HR251_0
          clear HR252_0
          clear HB
          have HO_0 := n0_
          have HO_1 := n1_
          have HO_9 := n2_
          have HL251_0 := n3_
          have HL252_0 := n4_
          have HR251_0 := n5_
          have HR252_0 := n6_
          have HB := n7_
          clear n0_ n1_ n2_ n3_ n4_ n5_ n6_ n7_
          (try clear hb)
          (try clear hb2)
          (try clear hk)
          (try clear hi)
          refine hK.out _ _ ⟨HS0_, HS1_, HS2_, HS3_⟩ (fun hHeld => ?_)
          clear hK K
          refine norm_ (a' := ?_) ?_ ?_
          rotate_left
          ·show Act.put _ (some 28) _ = _
           simp only [Act.put, zp1, zp2, zp3, i64_w, i32_w]
           rfl
          refine pure_ (i := 8) (N := some 10) (v := ?_) (a' := ?_) #[zt, zt, zt, zt, zt, zt, zt, zt, zt] rfl rfl (any_of HT_.out (by kernel_rfl)) (fun _ _ _ h => h) (Or.inl ⟨by rfl, ?_⟩) ?_ ?_
          rotate_left
          ·intro w'
           go_simp
           with_reducible rfl
          rotate_left
          ·simp only [Act.put, zp1, zp2, zp3, i64_w, i32_w]
           rfl
          refine done_ (done_of HT_.out (by kernel_rfl)) ?_
          try go_wp2
          have n0_ := Aside0.mk (Kd.V_drew HO_0.out)
          have n1_ := Aside0.mk (Kd.V_drew HO_1.out)
          have n2_ := Aside0.mk (Kd.N_drew HO_9.out)
          have n3_ := Aside0.mk (Kd.V_drew HL251_0.out)
          have n4_ := Aside0.mk (Kd.V_drew HL252_0.out)
          have n5_ := Aside0.mk (Kd.C_drew HR251_0.out)
          have n6_ := Aside0.mk (Kd.C_drew HR252_0.out)
          have n7_ := Aside0.mk (below_drew1 HB.out)
          clear HO_0
          clear HO_1
          clear HO_9
          clear HL251_0
          clear HL252_0
          clear HR251_0
          clear HR252_0
          clear HB
          have HO_0 := n0_
          have HO_1 := n1_
          have HO_9 := n2_
          have HL251_0 := n3_
          have HL252_0 := n4_
          have HR251_0 := n5_
          have HR252_0 := n6_
          have HB := n7_
          clear n0_ n1_ n2_ n3_ n4_ n5_ n6_ n7_
          have p254 : 0 ≤ (0 : Int) := (by omega)
          have q254 : 0 < (x0_1.length : Int) := zod
          obtain ⟨ad254, A254_0, c254_0, e254, hx254_0, hx254_1, hl254_0, hi254_0⟩ := at_T68 (Kd.V_reads' HO_0.out).2.2 0 p254 q254
          obtain rfl : ad251 = ad254 := (by injection e254)
          obtain ⟨ce254, hce254, hMe254, hcc254⟩ := Kd.V_get HO_0.out z68 0 p254 (by first | exact q254 | exact zod | (have e_ := (Kd.V_reads' HO_0.out).1; omega))
          obtain ⟨ua254_0, uc254_0, rfl, ul254_0, ge254_0⟩ := k68_openF hMe254
          have hv254_0 := hcc254 0 _ rfl
          rw [Nat.add_zero] at hv254_0
          replace hv254_0 := Option.some.inj (hv254_0.symm.trans hx254_0)
          injection hv254_0 with hva_ hvn_ hvc_
          rw [hva_] at ge254_0
          rw [hvc_] at ul254_0
          have HL254_0 := Aside0.mk (show Kd.V (Kd.int .i64) 3 _ w.heap.size _ _ ((rd_T68 x0_1 0).f0) from Kd.V_mk ul254_0 ge254_0)
          clear hva_ hvn_ hvc_ ge254_0 ul254_0
          clear hcc254 hce254
          have qi254 : (0 < x0_1.length) = True := eq_true (by omega)
          (try rw [show ((0 : Int)).toNat = 0 from rfl] at hx254_0)
          (try rw [show 0 * 2 = 0 from rfl] at hx254_0)
          (try rw [Addr.add_zero'] at hx254_0)
          (try rw [show ((0 : Int)).toNat = 0 from rfl] at hx254_1)
          (try rw [show 0 * 2 = 0 from rfl] at hx254_1)
          (try rw [Addr.add_zero'] at hx254_1)
          have HR254_0 := Aside0.mk hi254_0
          have HC254_0 := Aside0.mk hl254_0
          clear hi254_0 hl254_0
          replace p254 := eq_true p254
          replace q254 := eq_true q254
          have q18 : (1 : Int) ≤ ((x0_1.length : Int) : Int) := zod
          obtain ⟨i018, hi018, _, hsz18, _⟩ := info_parts info68
          have hroom18 : x0_1.length ≤ co13 := (Kd.V_reads' HO_0.out).2.1
          have hC18 : Kd.F k68 _ _ (some ad251) x0_1.length x0_1 := (Kd.V_at (base := w.heap.size) HO_0.out).2.2
          have hcut18 := cut_from (P := Try.prog) 33 68 .i64 Try.underlying33 hi018 2 hsz18 (some ad251) x0_1.length co13 1 (by omega) q18
          have hr18 := Kd.F_cut (m := (1 : Int).toNat) (c := co13) hC18 (by omega) hroom18
          obtain ⟨A18, hA18⟩ : ∃ A1, A1 = (if co13 = (1 : Int).toNat then (some ad251) else ((some ad251) : Option Addr).map (·.add ((1 : Int).toNat * 2))) := ⟨_, rfl⟩
          obtain ⟨c18, hc18⟩ : ∃ c1, c1 = co13 - (1 : Int).toNat := ⟨_, rfl⟩
          have hy18 : y258.length = x0_1.length - (1 : Int).toNat := (by rw [Ny258.out, List.length_drop] <;> omega)
          rw [show (x0_1).drop (1 : Int).toNat = y258 from Ny258.out.symm] at hr18
          replace hr18 : Kd.F k68 _ _ A18 y258.length y258 := (by rw [hA18]; exact hr18)
          rw [← hy18, ← hA18, ← hc18] at hcut18
          have HO262 := Aside0.mk (show Kd.V k68 68 _ w.heap.size _ (.slice A18 y258.length c18) y258 from Kd.V_mk (by rw [hy18, hc18]; exact Nat.sub_le_sub_right hroom18 _) hr18)
          have HC262 := Aside0.mk (show y258.length ≤ c18 from by rw [hy18, hc18]; exact Nat.sub_le_sub_right hroom18 _)
          clear hr18 hC18 hroom18 hi018 hsz18 hc18
          have KY18 := Aside0.mk hy18
          have KA18 := Aside0.mk hA18
          clear hy18 hA18
          replace q18 := eq_true q18
          refine start_ (n := 10) (S := fun w' => w'.cell? ad251 = some (.slice A254_0 ((rd_T68 x0_1 0).f0).length c254_0) ∧ w'.cell? ⟨ad251.block, ad251.off + 1, none⟩ = some (.int .i64 ((rd_T68 x0_1 0).f1))) (ds := [4, 5]) #[zf, zf, zf, zf, zf, zf, zf, zf, zf, zf] (by kernel_rfl) rfl rfl ⟨hx254_0, hx254_1⟩ (fun hHeld => ?_); refine with_tabW impl_merged_impl_Item__impl_cmpItem_impl_together_1.tab9 impl_merged_impl_Item__impl_cmpItem_impl_together_1.bits9 (fun HT_ HW_ => ?_)
          generalize w16.drew = w17 at HO_0 HO_1 HO_9 HL251_0 HL252_0 HR251_0 HR252_0 HB HL254_0 HO262 HR254_0 hx254_0 hx254_1 hHeld ⊢
          refine pure_ (i := 0) (N := some 52) (v := ?_) (a' := ?_) #[zt, zf, zf, zf, zf, zf, zf, zf, zf, zf] rfl rfl (any_of HT_.out (by kernel_rfl)) (fun _ _ _ h => h) (Or.inl ⟨by rfl, ?_⟩) ?_ ?_
          rotate_left
          ·intro w'
           go_simp
           with_reducible rfl
          rotate_left
          ·simp only [Act.put, zp1, zp2, zp3, i64_w, i32_w]
           rfl
          refine pure_ (i := 1) (N := some 53) (v := ?_) (a' := ?_) #[zt, zt, zf, zf, zf, zf, zf, zf, zf, zf] rfl rfl (any_of HT_.out (by kernel_rfl)) (fun _ _ _ h => h) (Or.inl ⟨by rfl, ?_⟩) ?_ ?_
          rotate_left
          ·intro w'
           go_simp
           with_reducible rfl
          rotate_left
          ·simp only [Act.put, zp1, zp2, zp3, i64_w, i32_w]
           rfl
          refine pure_ (i := 2) (N := some 54) (v := ?_) (a' := ?_) #[zt, zt, zt, zf, zf, zf, zf, zf, zf, zf] rfl rfl (any_of HT_.out (by kernel_rfl)) (fun _ _ _ h => h) (Or.inl ⟨by rfl, ?_⟩) ?_ ?_
          rotate_left
          ·intro w'
           go_simp
           with_reducible rfl
          rotate_left
          ·simp only [Act.put, zp1, zp2, zp3, i64_w, i32_w]
           rfl
          refine pure_ (i := 6) (N := some 58) (v := ?_) (a' := ?_) #[zt, zt, zt, zf, zf, zf, zt, zf, zf, zf] rfl rfl (any_of HT_.out (by kernel_rfl)) (fun _ _ _ h => h) (Or.inl ⟨by rfl, ?_⟩) ?_ ?_
          rotate_left
          ·intro w'
           go_simp
           with_reducible rfl
          rotate_left
          ·simp only [Act.put, zp1, zp2, zp3, i64_w, i32_w]
           rfl
          refine pure_ (i := 7) (N := some 59) (v := ?_) (a' := ?_) #[zt, zt, zt, zf, zf, zf, zt, zt, zf, zf] rfl rfl (any_of HT_.out (by kernel_rfl)) (fun _ _ _ h => h) (Or.inl ⟨by rfl, ?_⟩) ?_ ?_
          rotate_left
          ·intro w'
           go_simp
           with_reducible rfl
          rotate_left
          ·simp only [Act.put, zp1, zp2, zp3, i64_w, i32_w]
           rfl
          refine take_ (i := 3) (N := some 55) (v := ?_) (a' := ?_) #[zt, zt, zt, zt, zf, zf, zt, zt, zf, zf] rfl rfl (take_ofW HT_.out HW_.out (by kernel_rfl)) (fun _ _ _ h => h) (Or.inl ⟨by rfl, ?_⟩) hHeld ?_ ?_
          rotate_left
          ·rintro w' ⟨s0, s1⟩
           go_simp
           with_reducible rfl
          rotate_left
          ·simp only [Act.put, zp1, zp2, zp3, i64_w, i32_w]
           rfl
          refine last_ (i := 4) (N := some 56) #[zt, zt, zt, zt, zt, zf, zt, zt, zf, zf] rfl rfl (one_of HT_.out (by kernel_rfl)) (by decide) (fun K hK => ?_)
          refine value_ (w1 := ?_) (v := ?_) (by rfl) rfl ?_ ?_
          rotate_left 2
          ·go_simp
           constructor
           ·rfl
           ·rfl
          refine hK.out _ _ ?_
          clear hK K
          refine norm_ (a' := ?_) ?_ ?_
          rotate_left
          ·show Act.put _ (some 56) _ = _
           simp only [Act.put, zp1, zp2, zp3, i64_w, i32_w]
           rfl
          refine last_ (i := 5) (N := some 57) #[zt, zt, zt, zt, zt, zt, zt, zt, zf, zf] rfl rfl (one_of HT_.out (by kernel_rfl)) (by decide) (fun K hK => ?_)
          refine Kd.N_append_step k68 (w0 := w) w.heap.size (by rfl) (.tmp 52) (.tmp 56) 33 68 (.agg #[(.slice none 0 0), (.int .i64 0)]) 32 rfl Try.underlying33 info68 rfl (by decide) (by omega) u9 x9_1 (⟨(rd_T68 x0_1 0).f0, (rd_T68 x0_1 0).f1⟩ : S68) [.slice A254_0 ((rd_T68 x0_1 0).f0).length c254_0, .int .i64 ((rd_T68 x0_1 0).f1)] (fun k_ => ((P0_ k_ ∨ P1_ k_) ∨ w.heap.size ≤ k_)) (fun k_ => ((fun k_ => ((P0_ k_ ∨ P1_ k_) ∨ w.heap.size ≤ k_))) k_ ∧ some k_ ≠ (u9 : Value).ownBlock) rfl rfl ?aP (fun _ hk => hk) ?aF ?aO ?aB ?aS ?aL ?_
          (case aP => exact (k68_mkF _ _ (⟨(rd_T68 x0_1 0).f0, (rd_T68 x0_1 0).f1⟩ : S68) (Kd.V_reads' (Kd.V_mono (ok' := (fun k_ => ((fun k_ => ((P0_ k_ ∨ P1_ k_) ∨ w.heap.size ≤ k_))) k_ ∧ some k_ ≠ (u9 : Value).ownBlock)) (HL254_0.out) (fun k_ hk => ⟨hk.1, hk.2⟩))).2.1 (Kd.V_F (Kd.V_mono (ok' := (fun k_ => ((fun k_ => ((P0_ k_ ∨ P1_ k_) ∨ w.heap.size ≤ k_))) k_ ∧ some k_ ≠ (u9 : Value).ownBlock)) (HL254_0.out) (fun k_ hk => ⟨hk.1, hk.2⟩)))))
          (case aB => exact zhb)
          (case aF => exact (fun k_ hk => (.inr (Nat.le_trans (below_size zhb) hk))))
          (case aO => exact (by (with_reducible repeat (first | apply Kd.N_alloc | apply Kd.N_drewN | apply Kd.N_drew)); exact HO_9.out))
          (case aS => exact (below_size zhb))
          (case aL => have := LMc11.out; omega)
          intro v256 w19 ho hb hg hat
          rw [← Ny255.out] at ho
          have n0_ := Aside0.mk (Kd.V_afterv (ok := (fun k_ => ((P0_ k_ ∨ P1_ k_) ∨ w.heap.size ≤ k_))) (by (with_reducible repeat (first | apply Kd.V_alloc | apply Kd.V_drewN | apply Kd.V_drew)); exact HO_0.out) hg hat)
          have n1_ := Aside0.mk (Kd.V_afterv (ok := (fun k_ => ((P0_ k_ ∨ P1_ k_) ∨ w.heap.size ≤ k_))) (by (with_reducible repeat (first | apply Kd.V_alloc | apply Kd.V_drewN | apply Kd.V_drew)); exact HO_1.out) hg hat)
          have n2_ := Aside0.mk (Kd.V_afterv (ok := (fun k_ => ((P0_ k_ ∨ P1_ k_) ∨ w.heap.size ≤ k_))) (by (with_reducible repeat (first | apply Kd.V_alloc | apply Kd.V_drewN | apply Kd.V_drew)); exact HL251_0.out) hg hat)
          have n3_ := Aside0.mk (Kd.V_afterv (ok := (fun k_ => ((P0_ k_ ∨ P1_ k_) ∨ w.heap.size ≤ k_))) (by (with_reducible repeat (first | apply Kd.V_alloc | apply Kd.V_drewN | apply Kd.V_drew)); exact HL252_0.out) hg hat)
          have n4_ := Aside0.mk (Kd.V_afterv (ok := (fun k_ => ((P0_ k_ ∨ P1_ k_) ∨ w.heap.size ≤ k_))) (by (with_reducible repeat (first | apply Kd.V_alloc | apply Kd.V_drewN | apply Kd.V_drew)); exact HL254_0.out) hg hat)
          have n5_ := Aside0.mk (Kd.V_afterv (ok := (fun k_ => ((P0_ k_ ∨ P1_ k_) ∨ w.heap.size ≤ k_))) (by (with_reducible repeat (first | apply Kd.V_alloc | apply Kd.V_drewN | apply Kd.V_drew)); exact HO262.out) hg hat)
          have n6_ := Aside0.mk (hb)
          have n7_ := Aside0.mk (ho)
          clear HO_0
          clear HO_1
          clear HL251_0
          clear HL252_0
          clear HL254_0
          clear HO262
          clear HB
          clear HO_9
          have HO_0 := n0_
          have HO_1 := n1_
          have HL251_0 := n2_
          have HL252_0 := n3_
          have HL254_0 := n4_
          have HO262 := n5_
          have HB := n6_
          have HO257 := n7_
          clear n0_ n1_ n2_ n3_ n4_ n5_ n6_ n7_
          clear ho hb hg hat
          refine hK.out _ _ ?_
          clear hK K
          refine norm_ (a' := ?_) ?_ ?_
          rotate_left
          ·show Act.put _ (some 57) _ = _
           simp only [Act.put, zp1, zp2, zp3, i64_w, i32_w]
           rfl
          refine pure_ (i := 8) (N := some 9) (v := ?_) (a' := ?_) #[zt, zt, zt, zt, zt, zt, zt, zt, zt, zf] rfl rfl (any_of HT_.out (by kernel_rfl)) (fun _ _ _ h => h) (Or.inl ⟨by rfl, ?_⟩) ?_ ?_
          rotate_left
          ·intro w'
           go_simp
           with_reducible rfl
          rotate_left
          ·simp only [Act.put, zp1, zp2, zp3, i64_w, i32_w]
           rfl
          refine pure_ (i := 9) (N := some 0) (v := ?_) (a' := ?_) #[zt, zt, zt, zt, zt, zt, zt, zt, zt, zt] rfl rfl (any_of HT_.out (by kernel_rfl)) (fun _ _ _ h => h) (Or.inl ⟨by rfl, ?_⟩) ?_ ?_
          rotate_left
          ·intro w'
           go_simp
           with_reducible rfl
          rotate_left
          ·simp only [Act.put, zp1, zp2, zp3, i64_w, i32_w]
           rfl
          refine done_ (done_of HT_.out (by kernel_rfl)) ?_
          try go_wp2
          go_roundg k1
          case measure => have := HK1.out; omega
          case rel => exact ⟨(y258), (x1_1), (y255), H', ⟨by have := HK1.out; omega⟩, ⟨by (with_reducible repeat (first | apply Kd.V_alloc | apply Kd.V_drewN | apply Kd.V_drew)); exact HO262.out⟩, ⟨by (with_reducible repeat (first | apply Kd.V_alloc | apply Kd.V_drewN | apply Kd.V_drew)); exact HO_1.out⟩, ⟨by (with_reducible repeat (first | apply Kd.N_alloc | apply Kd.N_drewN | apply Kd.N_drew)); exact HO257.out⟩, ⟨zhb⟩⟩
         ·rw [if_neg c12] at H
          exact absurd H (by simp)
        ·rw [if_neg c11] at H
         exact absurd H (by simp)
       ·rw [if_neg c10] at H
        have c10b0 : decide (t253 < 0) = false := decide_eq_false c10
        clear c10
        by_cases c20 : t253 > 0
        ·rw [if_pos c20] at H
         have c20b0 : decide (0 < t253) = true := decide_eq_true c20
         clear c20
         by_cases c21 : x9_1.length < 4398046511104
         ·rw [if_pos c21] at H
          have LMc21 := Aside0.mk c21
          clear c21
          obtain ⟨y264, hy264⟩ : ∃ y_ : List (S68), y_ = (x9_1 ++ [(⟨(rd_T68 x1_1 0).f0, (rd_T68 x1_1 0).f1⟩ : S68)]) := ⟨_, rfl⟩
          replace H : (if 1 ≤ (x1_1.length : Int) then (impl_merged_impl_Item__impl_cmpItem_impl_together_1.l0 k1 x0_1 (x1_1.drop 1) y264) else (none)) = some r := by first | (rw [hy264]; with_reducible exact H) | (have H2_ := (Option.bind_some _ _).symm.trans H; rw [hy264]; with_reducible exact H2_) | (have H2_ := (Option.bind_some _ _).symm.trans H; with_reducible exact H2_) | with_reducible exact H | (rw [hy264]; exact H) | exact H
          have Ny264 := Aside0.mk hy264
          clear hy264
          by_cases c22 : 1 ≤ (x1_1.length : Int)
          ·rw [if_pos c22] at H
           have c22b0 := eq_true c22
           have c22b1 : decide (1 ≤ (x1_1.length : Int)) = true := decide_eq_true c22
           clear c22
           obtain ⟨y267, hy267⟩ : ∃ y_ : List (S68), y_ = (x1_1.drop 1) := ⟨_, rfl⟩
           replace H : (impl_merged_impl_Item__impl_cmpItem_impl_together_1.l0 k1 x0_1 y267 y264) = some r := by first | (rw [hy267]; with_reducible exact H) | (have H2_ := (Option.bind_some _ _).symm.trans H; rw [hy267]; with_reducible exact H2_) | (have H2_ := (Option.bind_some _ _).symm.trans H; with_reducible exact H2_) | with_reducible exact H | (rw [hy267]; exact H) | exact H
           have Ny267 := Aside0.mk hy267
           clear hy267
           have H' := Aside0.mk H
           clear H
           obtain ⟨Ao23, co23, eo23⟩ := Kd.V_slice HO_0.out
           subst eo23
           obtain ⟨Ao24, co24, eo24⟩ := Kd.V_slice HO_1.out
           subst eo24
           try go_wp2
           have n0_ := Aside0.mk (Kd.V_drew HO_0.out)
           have n1_ := Aside0.mk (Kd.V_drew HO_1.out)
           have n2_ := Aside0.mk (Kd.N_drew HO_9.out)
           have n3_ := Aside0.mk (below_drew1 HB.out)
           clear HO_0
           clear HO_1
           clear HO_9
           clear HB
           have HO_0 := n0_
           have HO_1 := n1_
           have HO_9 := n2_
           have HB := n3_
           clear n0_ n1_ n2_ n3_
           have p251 : 0 ≤ (0 : Int) := (by omega)
           have q251 : 0 < (x0_1.length : Int) := zod
           obtain ⟨ad251, A251_0, c251_0, e251, hx251_0, hx251_1, hl251_0, hi251_0⟩ := at_T68 (Kd.V_reads' HO_0.out).2.2 0 p251 q251
           cases e251
           obtain ⟨ce251, hce251, hMe251, hcc251⟩ := Kd.V_get HO_0.out z68 0 p251 (by first | exact q251 | exact zod | (have e_ := (Kd.V_reads' HO_0.out).1; omega))
           obtain ⟨ua251_0, uc251_0, rfl, ul251_0, ge251_0⟩ := k68_openF hMe251
           have hv251_0 := hcc251 0 _ rfl
           rw [Nat.add_zero] at hv251_0
           replace hv251_0 := Option.some.inj (hv251_0.symm.trans hx251_0)
           injection hv251_0 with hva_ hvn_ hvc_
           rw [hva_] at ge251_0
           rw [hvc_] at ul251_0
           have HL251_0 := Aside0.mk (show Kd.V (Kd.int .i64) 3 _ w.heap.size _ _ ((rd_T68 x0_1 0).f0) from Kd.V_mk ul251_0 ge251_0)
           clear hva_ hvn_ hvc_ ge251_0 ul251_0
           clear hcc251 hce251
           have qi251 : (0 < x0_1.length) = True := eq_true (by omega)
           (try rw [show ((0 : Int)).toNat = 0 from rfl] at hx251_0)
           (try rw [show 0 * 2 = 0 from rfl] at hx251_0)
           (try rw [Addr.add_zero'] at hx251_0)
           (try rw [show ((0 : Int)).toNat = 0 from rfl] at hx251_1)
           (try rw [show 0 * 2 = 0 from rfl] at hx251_1)
           (try rw [Addr.add_zero'] at hx251_1)
           have HR251_0 := Aside0.mk hi251_0
           have HC251_0 := Aside0.mk hl251_0
           clear hi251_0 hl251_0
           replace p251 := eq_true p251
           replace q251 := eq_true q251
           have p252 : 0 ≤ (0 : Int) := (by omega)
           have q252 : 0 < (x1_1.length : Int) := zod
           obtain ⟨ad252, A252_0, c252_0, e252, hx252_0, hx252_1, hl252_0, hi252_0⟩ := at_T68 (Kd.V_reads' HO_1.out).2.2 0 p252 q252
           cases e252
           obtain ⟨ce252, hce252, hMe252, hcc252⟩ := Kd.V_get HO_1.out z68 0 p252 (by first | exact q252 | exact zod | (have e_ := (Kd.V_reads' HO_1.out).1; omega))
           obtain ⟨ua252_0, uc252_0, rfl, ul252_0, ge252_0⟩ := k68_openF hMe252
           have hv252_0 := hcc252 0 _ rfl
           rw [Nat.add_zero] at hv252_0
           replace hv252_0 := Option.some.inj (hv252_0.symm.trans hx252_0)
           injection hv252_0 with hva_ hvn_ hvc_
           rw [hva_] at ge252_0
           rw [hvc_] at ul252_0
           have HL252_0 := Aside0.mk (show Kd.V (Kd.int .i64) 3 _ w.heap.size _ _ ((rd_T68 x1_1 0).f0) from Kd.V_mk ul252_0 ge252_0)
           clear hva_ hvn_ hvc_ ge252_0 ul252_0
           clear hcc252 hce252
           have qi252 : (0 < x1_1.length) = True := eq_true (by omega)
           (try rw [show ((0 : Int)).toNat = 0 from rfl] at hx252_0)
           (try rw [show 0 * 2 = 0 from rfl] at hx252_0)
           (try rw [Addr.add_zero'] at hx252_0)
           (try rw [show ((0 : Int)).toNat = 0 from rfl] at hx252_1)
           (try rw [show 0 * 2 = 0 from rfl] at hx252_1)
           (try rw [Addr.add_zero'] at hx252_1)
           have HR252_0 := Aside0.mk hi252_0
           have HC252_0 := Aside0.mk hl252_0
           clear hi252_0 hl252_0
           replace p252 := eq_true p252
           replace q252 := eq_true q252
           refine start_ (n := 9) (S := fun w' => w'.cell? ad251 = some (.slice A251_0 ((rd_T68 x0_1 0).f0).length c251_0) ∧ w'.cell? ⟨ad251.block, ad251.off + 1, none⟩ = some (.int .i64 ((rd_T68 x0_1 0).f1)) ∧ w'.cell? ad252 = some (.slice A252_0 ((rd_T68 x1_1 0).f0).length c252_0) ∧ w'.cell? ⟨ad252.block, ad252.off + 1, none⟩ = some (.int .i64 ((rd_T68 x1_1 0).f1))) (ds := []) #[zf, zf, zf, zf, zf, zf, zf, zf, zf] (by kernel_rfl) rfl rfl ⟨hx251_0, hx251_1, hx252_0, hx252_1⟩ (fun hHeld => ?_); refine with_tabW impl_merged_impl_Item__impl_cmpItem_impl_together_1.tab3 impl_merged_impl_Item__impl_cmpItem_impl_together_1.bits3 (fun HT_ HW_ => ?_)
           generalize wr.drew = w25 at HO_0 HO_1 HO_9 HB HL251_0 HL252_0 HR251_0 HR252_0 hx251_0 hx251_1 hx252_0 hx252_1 hHeld ⊢
           refine pure_ (i := 0) (N := some 21) (v := ?_) (a' := ?_) #[zt, zf, zf, zf, zf, zf, zf, zf, zf] rfl rfl (any_of HT_.out (by kernel_rfl)) (fun _ _ _ h => h) (Or.inl ⟨by rfl, ?_⟩) ?_ ?_
           rotate_left
           ·intro w'
            go_simp
            with_reducible rfl
           rotate_left
           ·simp only [Act.put, zp1, zp2, zp3, i64_w, i32_w]
            rfl
           refine pure_ (i := 1) (N := some 22) (v := ?_) (a' := ?_) #[zt, zt, zf, zf, zf, zf, zf, zf, zf] rfl rfl (any_of HT_.out (by kernel_rfl)) (fun _ _ _ h => h) (Or.inl ⟨by rfl, ?_⟩) ?_ ?_
           rotate_left
           ·intro w'
            go_simp
            with_reducible rfl
           rotate_left
           ·simp only [Act.put, zp1, zp2, zp3, i64_w, i32_w]
            rfl
           refine pure_ (i := 2) (N := some 23) (v := ?_) (a' := ?_) #[zt, zt, zt, zf, zf, zf, zf, zf, zf] rfl rfl (any_of HT_.out (by kernel_rfl)) (fun _ _ _ h => h) (Or.inl ⟨by rfl, ?_⟩) ?_ ?_
           rotate_left
           ·intro w'
            go_simp
            with_reducible rfl
           rotate_left
           ·simp only [Act.put, zp1, zp2, zp3, i64_w, i32_w]
            rfl
           refine pure_ (i := 4) (N := some 25) (v := ?_) (a' := ?_) #[zt, zt, zt, zf, zt, zf, zf, zf, zf] rfl rfl (any_of HT_.out (by kernel_rfl)) (fun _ _ _ h => h) (Or.inl ⟨by rfl, ?_⟩) ?_ ?_
           rotate_left
           ·intro w'
            go_simp
            with_reducible rfl
           rotate_left
           ·simp only [Act.put, zp1, zp2, zp3, i64_w, i32_w]
            rfl
           refine pure_ (i := 5) (N := some 26) (v := ?_) (a' := ?_) #[zt, zt, zt, zf, zt, zt, zf, zf, zf] rfl rfl (any_of HT_.out (by kernel_rfl)) (fun _ _ _ h => h) (Or.inl ⟨by rfl, ?_⟩) ?_ ?_
           rotate_left
           ·intro w'
            go_simp
            with_reducible rfl
           rotate_left
           ·simp only [Act.put, zp1, zp2, zp3, i64_w, i32_w]
            rfl
           refine take_ (i := 3) (N := some 24) (v := ?_) (a' := ?_) #[zt, zt, zt, zt, zt, zt, zf, zf, zf] rfl rfl (take_ofW HT_.out HW_.out (by kernel_rfl)) (fun _ _ _ h => h) (Or.inl ⟨by rfl, ?_⟩) hHeld ?_ ?_
           rotate_left
           ·rintro w' ⟨s0, s1, s2, s3⟩
            go_simp
            with_reducible rfl
           rotate_left
           ·simp only [Act.put, zp1, zp2, zp3, i64_w, i32_w]
            rfl
           refine take_ (i := 6) (N := some 27) (v := ?_) (a' := ?_) #[zt, zt, zt, zt, zt, zt, zt, zf, zf] rfl rfl (take_ofW HT_.out HW_.out (by kernel_rfl)) (fun _ _ _ h => h) (Or.inl ⟨by rfl, ?_⟩) hHeld ?_ ?_
           rotate_left
           ·rintro w' ⟨s0, s1, s2, s3⟩
            go_simp
            with_reducible rfl
           rotate_left
           ·simp only [Act.put, zp1, zp2, zp3, i64_w, i32_w]
            rfl
           refine one_ (i := 7) (N := some 28) #[zt, zt, zt, zt, zt, zt, zt, zt, zf] rfl rfl (one_of HT_.out (by kernel_rfl)) (by decide) (fun K hK => ?_)
           refine goes_f (.tmp 21) Try.func107 (by kernel_rfl) rfl #[.agg #[.slice A251_0 ((rd_T68 x0_1 0).f0).length c251_0, .int .i64 ((rd_T68 x0_1 0).f1)], .agg #[.slice A252_0 ((rd_T68 x1_1 0).f0).length c252_0, .int .i64 ((rd_T68 x1_1 0).f1)]] (by rfl) rfl rfl rfl zar ?_
           with_reducible refine (impl_cmpItem.calls k1 _ _ ((rd_T68 x0_1 0).f0) ((rd_T68 x0_1 0).f1) _ _ ((rd_T68 x1_1 0).f0) ((rd_T68 x1_1 0).f1) t253 _ ?side1 ?side2 ?side3 ?side4 A9.out).mono ?_
           (case side1 => repeat (first | exact (by repeat (first | (with_reducible exact HR251_0.out) | (with_reducible refine Kd.C_alloc ?_ _) | (with_reducible refine Kd.C_drewN ?_ _) | (with_reducible refine Kd.C_drew ?_) | exact HR251_0.out)) | (with_reducible refine Kd.C_alloc ?_ _) | (with_reducible refine Kd.C_drewN ?_ _) | (with_reducible refine Kd.C_drew ?_)))
           (case side2 => exact HC251_0.out)
           (case side3 => repeat (first | exact (by repeat (first | (with_reducible exact HR252_0.out) | (with_reducible refine Kd.C_alloc ?_ _) | (with_reducible refine Kd.C_drewN ?_ _) | (with_reducible refine Kd.C_drew ?_) | exact HR252_0.out)) | (with_reducible refine Kd.C_alloc ?_ _) | (with_reducible refine Kd.C_drewN ?_ _) | (with_reducible refine Kd.C_drew ?_)))
           (case side4 => exact HC252_0.out)
           rintro e w26 ⟨rfl, hb⟩
           have HS0_ := (hb.cell (World.block_lt_of_cell? _ _ (hHeld.1))).trans (hHeld.1)
           have HS1_ := (hb.cell (World.block_lt_of_cell? _ _ (hHeld.2.1))).trans (hHeld.2.1)
           have HS2_ := (hb.cell (World.block_lt_of_cell? _ _ (hHeld.2.2.1))).trans (hHeld.2.2.1)
           have HS3_ := (hb.cell (World.block_lt_of_cell? _ _ (hHeld.2.2.2))).trans (hHeld.2.2.2)
           refine ⟨_, rfl, ?_⟩
           have n0_ := Aside0.mk (Kd.V_below (by (with_reducible repeat (first | apply Kd.V_alloc | apply Kd.V_drewN | apply Kd.V_drew)); exact HO_0.out) hb)
           have n1_ := Aside0.mk (Kd.V_below (by (with_reducible repeat (first | apply Kd.V_alloc | apply Kd.V_drewN | apply Kd.V_drew)); exact HO_1.out) hb)
           have n2_ := Aside0.mk (Kd.N_below (by (with_reducible repeat (first | apply Kd.N_alloc | apply Kd.N_drewN | apply Kd.N_drew)); exact HO_9.out) hb)
           have n3_ := Aside0.mk (Kd.V_below (by (with_reducible repeat (first | apply Kd.V_alloc | apply Kd.V_drewN | apply Kd.V_drew)); exact HL251_0.out) hb)
           have n4_ := Aside0.mk (Kd.V_below (by (with_reducible repeat (first | apply Kd.V_alloc | apply Kd.V_drewN | apply Kd.V_drew)); exact HL252_0.out) hb)
           have n5_ := Aside0.mk (Kd.C_below (by repeat (first | (with_reducible exact HR251_0.out) | (with_reducible refine Kd.C_alloc ?_ _) | (with_reducible refine Kd.C_drewN ?_ _) | (with_reducible refine Kd.C_drew ?_) | exact HR251_0.out)) hb)
           have n6_ := Aside0.mk (Kd.C_below (by repeat (first | (with_reducible exact HR252_0.out) | (with_reducible refine Kd.C_alloc ?_ _) | (with_reducible refine Kd.C_drewN ?_ _) | (with_reducible refine Kd.C_drew ?_) | exact HR252_0.out)) hb)
           have n7_ := Aside0.mk (below_step zhb hb)
           clear HO_0
           clear HO_1
           clear HO_9
           clear HL251_0
           clear HL252_0
           clear HR251_0
           clear HR252_0
           clear HB
           have HO_0 := n0_
           have HO_1 := n1_
           have HO_9 := n2_
           have HL251_0 := n3_
           have HL252_0 := n4_
           have HR251_0 := n5_
           have HR252_0 := n6_
           have HB := n7_
           clear n0_ n1_ n2_ n3_ n4_ n5_ n6_ n7_
           (try clear hb)
           (try clear hb2)
           (try clear hk)
           (try clear hi)
           refine hK.out _ _ ⟨HS0_, HS1_, HS2_, HS3_⟩ (fun hHeld => ?_)
           clear hK K
           refine norm_ (a' := ?_) ?_ ?_
           rotate_left
           ·show Act.put _ (some 28) _ = _
            simp only [Act.put, zp1, zp2, zp3, i64_w, i32_w]
            rfl
           refine pure_ (i := 8) (N := some 10) (v := ?_) (a' := ?_) #[zt, zt, zt, zt, zt, zt, zt, zt, zt] rfl rfl (any_of HT_.out (by kernel_rfl)) (fun _ _ _ h => h) (Or.inl ⟨by rfl, ?_⟩) ?_ ?_
           rotate_left
           ·intro w'
            go_simp
            with_reducible rfl
           rotate_left
           ·simp only [Act.put, zp1, zp2, zp3, i64_w, i32_w]
            rfl
           refine done_ (done_of HT_.out (by kernel_rfl)) ?_
           try go_wp2
           have n0_ := Aside0.mk (Kd.V_drew HO_0.out)
           have n1_ := Aside0.mk (Kd.V_drew HO_1.out)
           have n2_ := Aside0.mk (Kd.N_drew HO_9.out)
           have n3_ := Aside0.mk (Kd.V_drew HL251_0.out)
           have n4_ := Aside0.mk (Kd.V_drew HL252_0.out)
           have n5_ := Aside0.mk (Kd.C_drew HR251_0.out)
           have n6_ := Aside0.mk (Kd.C_drew HR252_0.out)
           have n7_ := Aside0.mk (below_drew1 HB.out)
           clear HO_0
           clear HO_1
           clear HO_9
           clear HL251_0
           clear HL252_0
           clear HR251_0
           clear HR252_0
           clear HB
           have HO_0 := n0_
           have HO_1 := n1_
           have HO_9 := n2_
           have HL251_0 := n3_
           have HL252_0 := n4_
           have HR251_0 := n5_
           have HR252_0 := n6_
           have HB := n7_
           clear n0_ n1_ n2_ n3_ n4_ n5_ n6_ n7_
           have p263 : 0 ≤ (0 : Int) := (by omega)
           have q263 : 0 < (x1_1.length : Int) := zod
           obtain ⟨ad263, A263_0, c263_0, e263, hx263_0, hx263_1, hl263_0, hi263_0⟩ := at_T68 (Kd.V_reads' HO_1.out).2.2 0 p263 q263
           obtain rfl : ad252 = ad263 := (by injection e263)
           obtain ⟨ce263, hce263, hMe263, hcc263⟩ := Kd.V_get HO_1.out z68 0 p263 (by first | exact q263 | exact zod | (have e_ := (Kd.V_reads' HO_1.out).1; omega))
           obtain ⟨ua263_0, uc263_0, rfl, ul263_0, ge263_0⟩ := k68_openF hMe263
           have hv263_0 := hcc263 0 _ rfl
           rw [Nat.add_zero] at hv263_0
           replace hv263_0 := Option.some.inj (hv263_0.symm.trans hx263_0)
           injection hv263_0 with hva_ hvn_ hvc_
           rw [hva_] at ge263_0
           rw [hvc_] at ul263_0
           have HL263_0 := Aside0.mk (show Kd.V (Kd.int .i64) 3 _ w.heap.size _ _ ((rd_T68 x1_1 0).f0) from Kd.V_mk ul263_0 ge263_0)
           clear hva_ hvn_ hvc_ ge263_0 ul263_0
           clear hcc263 hce263
           have qi263 : (0 < x1_1.length) = True := eq_true (by omega)
           (try rw [show ((0 : Int)).toNat = 0 from rfl] at hx263_0)
           (try rw [show 0 * 2 = 0 from rfl] at hx263_0)
           (try rw [Addr.add_zero'] at hx263_0)
           (try rw [show ((0 : Int)).toNat = 0 from rfl] at hx263_1)
           (try rw [show 0 * 2 = 0 from rfl] at hx263_1)
           (try rw [Addr.add_zero'] at hx263_1)
           have HR263_0 := Aside0.mk hi263_0
           have HC263_0 := Aside0.mk hl263_0
           clear hi263_0 hl263_0
           replace p263 := eq_true p263
           replace q263 := eq_true q263
           have q28 : (1 : Int) ≤ ((x1_1.length : Int) : Int) := zod
           obtain ⟨i028, hi028, _, hsz28, _⟩ := info_parts info68
           have hroom28 : x1_1.length ≤ co24 := (Kd.V_reads' HO_1.out).2.1
           have hC28 : Kd.F k68 _ _ (some ad252) x1_1.length x1_1 := (Kd.V_at (base := w.heap.size) HO_1.out).2.2
           have hcut28 := cut_from (P := Try.prog) 33 68 .i64 Try.underlying33 hi028 2 hsz28 (some ad252) x1_1.length co24 1 (by omega) q28
           have hr28 := Kd.F_cut (m := (1 : Int).toNat) (c := co24) hC28 (by omega) hroom28
           obtain ⟨A28, hA28⟩ : ∃ A1, A1 = (if co24 = (1 : Int).toNat then (some ad252) else ((some ad252) : Option Addr).map (·.add ((1 : Int).toNat * 2))) := ⟨_, rfl⟩
           obtain ⟨c28, hc28⟩ : ∃ c1, c1 = co24 - (1 : Int).toNat := ⟨_, rfl⟩
           have hy28 : y267.length = x1_1.length - (1 : Int).toNat := (by rw [Ny267.out, List.length_drop] <;> omega)
           rw [show (x1_1).drop (1 : Int).toNat = y267 from Ny267.out.symm] at hr28
           replace hr28 : Kd.F k68 _ _ A28 y267.length y267 := (by rw [hA28]; exact hr28)
           rw [← hy28, ← hA28, ← hc28] at hcut28
           have HO271 := Aside0.mk (show Kd.V k68 68 _ w.heap.size _ (.slice A28 y267.length c28) y267 from Kd.V_mk (by rw [hy28, hc28]; exact Nat.sub_le_sub_right hroom28 _) hr28)
           have HC271 := Aside0.mk (show y267.length ≤ c28 from by rw [hy28, hc28]; exact Nat.sub_le_sub_right hroom28 _)
           clear hr28 hC28 hroom28 hi028 hsz28 hc28
           have KY28 := Aside0.mk hy28
           have KA28 := Aside0.mk hA28
           clear hy28 hA28
           replace q28 := eq_true q28
           refine start_ (n := 10) (S := fun w' => w'.cell? ad252 = some (.slice A263_0 ((rd_T68 x1_1 0).f0).length c263_0) ∧ w'.cell? ⟨ad252.block, ad252.off + 1, none⟩ = some (.int .i64 ((rd_T68 x1_1 0).f1))) (ds := [4, 5]) #[zf, zf, zf, zf, zf, zf, zf, zf, zf, zf] (by kernel_rfl) rfl rfl ⟨hx263_0, hx263_1⟩ (fun hHeld => ?_); refine with_tabW impl_merged_impl_Item__impl_cmpItem_impl_together_1.tab11 impl_merged_impl_Item__impl_cmpItem_impl_together_1.bits11 (fun HT_ HW_ => ?_)
           generalize w26.drew = w27 at HO_0 HO_1 HO_9 HL251_0 HL252_0 HR251_0 HR252_0 HB HL263_0 HO271 HR263_0 hx263_0 hx263_1 hHeld ⊢
           refine pure_ (i := 0) (N := some 63) (v := ?_) (a' := ?_) #[zt, zf, zf, zf, zf, zf, zf, zf, zf, zf] rfl rfl (any_of HT_.out (by kernel_rfl)) (fun _ _ _ h => h) (Or.inl ⟨by rfl, ?_⟩) ?_ ?_
           rotate_left
           ·intro w'
            go_simp
            with_reducible rfl
           rotate_left
           ·simp only [Act.put, zp1, zp2, zp3, i64_w, i32_w]
            rfl
           refine pure_ (i := 1) (N := some 64) (v := ?_) (a' := ?_) #[zt, zt, zf, zf, zf, zf, zf, zf, zf, zf] rfl rfl (any_of HT_.out (by kernel_rfl)) (fun _ _ _ h => h) (Or.inl ⟨by rfl, ?_⟩) ?_ ?_
           rotate_left
           ·intro w'
            go_simp
            with_reducible rfl
           rotate_left
           ·simp only [Act.put, zp1, zp2, zp3, i64_w, i32_w]
            rfl
           refine pure_ (i := 2) (N := some 65) (v := ?_) (a' := ?_) #[zt, zt, zt, zf, zf, zf, zf, zf, zf, zf] rfl rfl (any_of HT_.out (by kernel_rfl)) (fun _ _ _ h => h) (Or.inl ⟨by rfl, ?_⟩) ?_ ?_
           rotate_left
           ·intro w'
            go_simp
            with_reducible rfl
           rotate_left
           ·simp only [Act.put, zp1, zp2, zp3, i64_w, i32_w]
            rfl
           refine pure_ (i := 6) (N := some 69) (v := ?_) (a' := ?_) #[zt, zt, zt, zf, zf, zf, zt, zf, zf, zf] rfl rfl (any_of HT_.out (by kernel_rfl)) (fun _ _ _ h => h) (Or.inl ⟨by rfl, ?_⟩) ?_ ?_
           rotate_left
           ·intro w'
            go_simp
            with_reducible rfl
           rotate_left
           ·simp only [Act.put, zp1, zp2, zp3, i64_w, i32_w]
            rfl
           refine pure_ (i := 7) (N := some 70) (v := ?_) (a' := ?_) #[zt, zt, zt, zf, zf, zf, zt, zt, zf, zf] rfl rfl (any_of HT_.out (by kernel_rfl)) (fun _ _ _ h => h) (Or.inl ⟨by rfl, ?_⟩) ?_ ?_
           rotate_left
           ·intro w'
            go_simp
            with_reducible rfl
           rotate_left
           ·simp only [Act.put, zp1, zp2, zp3, i64_w, i32_w]
            rfl
           refine take_ (i := 3) (N := some 66) (v := ?_) (a' := ?_) #[zt, zt, zt, zt, zf, zf, zt, zt, zf, zf] rfl rfl (take_ofW HT_.out HW_.out (by kernel_rfl)) (fun _ _ _ h => h) (Or.inl ⟨by rfl, ?_⟩) hHeld ?_ ?_
           rotate_left
           ·rintro w' ⟨s0, s1⟩
            go_simp
            with_reducible rfl
           rotate_left
           ·simp only [Act.put, zp1, zp2, zp3, i64_w, i32_w]
            rfl
           refine last_ (i := 4) (N := some 67) #[zt, zt, zt, zt, zt, zf, zt, zt, zf, zf] rfl rfl (one_of HT_.out (by kernel_rfl)) (by decide) (fun K hK => ?_)
           refine value_ (w1 := ?_) (v := ?_) (by rfl) rfl ?_ ?_
           rotate_left 2
           ·go_simp
            constructor
            ·rfl
            ·rfl
           refine hK.out _ _ ?_
           clear hK K
           refine norm_ (a' := ?_) ?_ ?_
           rotate_left
           ·show Act.put _ (some 67) _ = _
            simp only [Act.put, zp1, zp2, zp3, i64_w, i32_w]
            rfl
           refine last_ (i := 5) (N := some 68) #[zt, zt, zt, zt, zt, zt, zt, zt, zf, zf] rfl rfl (one_of HT_.out (by kernel_rfl)) (by decide) (fun K hK => ?_)
           refine Kd.N_append_step k68 (w0 := w) w.heap.size (by rfl) (.tmp 63) (.tmp 67) 33 68 (.agg #[(.slice none 0 0), (.int .i64 0)]) 32 rfl Try.underlying33 info68 rfl (by decide) (by omega) u9 x9_1 (⟨(rd_T68 x1_1 0).f0, (rd_T68 x1_1 0).f1⟩ : S68) [.slice A263_0 ((rd_T68 x1_1 0).f0).length c263_0, .int .i64 ((rd_T68 x1_1 0).f1)] (fun k_ => ((P0_ k_ ∨ P1_ k_) ∨ w.heap.size ≤ k_)) (fun k_ => ((fun k_ => ((P0_ k_ ∨ P1_ k_) ∨ w.heap.size ≤ k_))) k_ ∧ some k_ ≠ (u9 : Value).ownBlock) rfl rfl ?aP (fun _ hk => hk) ?aF ?aO ?aB ?aS ?aL ?_
           (case aP => exact (k68_mkF _ _ (⟨(rd_T68 x1_1 0).f0, (rd_T68 x1_1 0).f1⟩ : S68) (Kd.V_reads' (Kd.V_mono (ok' := (fun k_ => ((fun k_ => ((P0_ k_ ∨ P1_ k_) ∨ w.heap.size ≤ k_))) k_ ∧ some k_ ≠ (u9 : Value).ownBlock)) (HL263_0.out) (fun k_ hk => ⟨hk.1, hk.2⟩))).2.1 (Kd.V_F (Kd.V_mono (ok' := (fun k_ => ((fun k_ => ((P0_ k_ ∨ P1_ k_) ∨ w.heap.size ≤ k_))) k_ ∧ some k_ ≠ (u9 : Value).ownBlock)) (HL263_0.out) (fun k_ hk => ⟨hk.1, hk.2⟩)))))
           (case aB => exact zhb)
           (case aF => exact (fun k_ hk => (.inr (Nat.le_trans (below_size zhb) hk))))
           (case aO => exact (by (with_reducible repeat (first | apply Kd.N_alloc | apply Kd.N_drewN | apply Kd.N_drew)); exact HO_9.out))
           (case aS => exact (below_size zhb))
           (case aL => have := LMc21.out; omega)
           intro v265 w29 ho hb hg hat
           rw [← Ny264.out] at ho
           have n0_ := Aside0.mk (Kd.V_afterv (ok := (fun k_ => ((P0_ k_ ∨ P1_ k_) ∨ w.heap.size ≤ k_))) (by (with_reducible repeat (first | apply Kd.V_alloc | apply Kd.V_drewN | apply Kd.V_drew)); exact HO_0.out) hg hat)
           have n1_ := Aside0.mk (Kd.V_afterv (ok := (fun k_ => ((P0_ k_ ∨ P1_ k_) ∨ w.heap.size ≤ k_))) (by (with_reducible repeat (first | apply Kd.V_alloc | apply Kd.V_drewN | apply Kd.V_drew)); exact HO_1.out) hg hat)
           have n2_ := Aside0.mk (Kd.V_afterv (ok := (fun k_ => ((P0_ k_ ∨ P1_ k_) ∨ w.heap.size ≤ k_))) (by (with_reducible repeat (first | apply Kd.V_alloc | apply Kd.V_drewN | apply Kd.V_drew)); exact HL251_0.out) hg hat)
           have n3_ := Aside0.mk (Kd.V_afterv (ok := (fun k_ => ((P0_ k_ ∨ P1_ k_) ∨ w.heap.size ≤ k_))) (by (with_reducible repeat (first | apply Kd.V_alloc | apply Kd.V_drewN | apply Kd.V_drew)); exact HL252_0.out) hg hat)
           have n4_ := Aside0.mk (Kd.V_afterv (ok := (fun k_ => ((P0_ k_ ∨ P1_ k_) ∨ w.heap.size ≤ k_))) (by (with_reducible repeat (first | apply Kd.V_alloc | apply Kd.V_drewN | apply Kd.V_drew)); exact HL263_0.out) hg hat)
           have n5_ := Aside0.mk (Kd.V_afterv (ok := (fun k_ => ((P0_ k_ ∨ P1_ k_) ∨ w.heap.size ≤ k_))) (by (with_reducible repeat (first | apply Kd.V_alloc | apply Kd.V_drewN | apply Kd.V_drew)); exact HO271.out) hg hat)
           have n6_ := Aside0.mk (hb)
           have n7_ := Aside0.mk (ho)
           clear HO_0
           clear HO_1
           clear HL251_0
           clear HL252_0
           clear HL263_0
           clear HO271
           clear HB
           clear HO_9
           have HO_0 := n0_
           have HO_1 := n1_
           have HL251_0 := n2_
           have HL252_0 := n3_
           have HL263_0 := n4_
           have HO271 := n5_
           have HB := n6_
           have HO266 := n7_
           clear n0_ n1_ n2_ n3_ n4_ n5_ n6_ n7_
           clear ho hb hg hat
           refine hK.out _ _ ?_
           clear hK K
           refine norm_ (a' := ?_) ?_ ?_
           rotate_left
           ·show Act.put _ (some 68) _ = _
            simp only [Act.put, zp1, zp2, zp3, i64_w, i32_w]
            rfl
           refine pure_ (i := 8) (N := some 9) (v := ?_) (a' := ?_) #[zt, zt, zt, zt, zt, zt, zt, zt, zt, zf] rfl rfl (any_of HT_.out (by kernel_rfl)) (fun _ _ _ h => h) (Or.inl ⟨by rfl, ?_⟩) ?_ ?_
           rotate_left
           ·intro w'
            go_simp
            with_reducible rfl
           rotate_left
           ·simp only [Act.put, zp1, zp2, zp3, i64_w, i32_w]
            rfl
           refine pure_ (i := 9) (N := some 1) (v := ?_) (a' := ?_) #[zt, zt, zt, zt, zt, zt, zt, zt, zt, zt] rfl rfl (any_of HT_.out (by kernel_rfl)) (fun _ _ _ h => h) (Or.inl ⟨by rfl, ?_⟩) ?_ ?_
           rotate_left
           ·intro w'
            go_simp
            with_reducible rfl
           rotate_left
           ·simp only [Act.put, zp1, zp2, zp3, i64_w, i32_w]
            rfl
           refine done_ (done_of HT_.out (by kernel_rfl)) ?_
           try go_wp2
           go_roundg k1
           case measure => have := HK1.out; omega
           case rel => exact ⟨(x0_1), (y267), (y264), H', ⟨by have := HK1.out; omega⟩, ⟨by (with_reducible repeat (first | apply Kd.V_alloc | apply Kd.V_drewN | apply Kd.V_drew)); exact HO_0.out⟩, ⟨by (with_reducible repeat (first | apply Kd.V_alloc | apply Kd.V_drewN | apply Kd.V_drew)); exact HO271.out⟩, ⟨by (with_reducible repeat (first | apply Kd.N_alloc | apply Kd.N_drewN | apply Kd.N_drew)); exact HO266.out⟩, ⟨zhb⟩⟩
          ·rw [if_neg c22] at H
           exact absurd H (by simp)
         ·rw [if_neg c21] at H
          exact absurd H (by simp)
        ·rw [if_neg c20] at H
         have c20b0 : decide (0 < t253) = false := decide_eq_false c20
         clear c20
         replace H := Option.bind_eq_some_iff.mp H
         obtain ⟨⟨t274, t277, t278⟩, A300, H⟩ := H
         (try dsimp only at H)
         have A30 := Aside0.mk A300
         clear A300
         by_cases c31 : t278 = true
         ·subst c31
          have H1 : (if x9_1.length < 4398046511104 then (if 1 ≤ (x0_1.length : Int) then (if 1 ≤ (x1_1.length : Int) then (impl_merged_impl_Item__impl_cmpItem_impl_together_1.l0 k1 (x0_1.drop 1) (x1_1.drop 1) (x9_1 ++ [(⟨t274, t277⟩ : S68)])) else (none)) else (none)) else (none)) = some r := by rw [if_pos rfl] at H; exact H
          clear H
          have H := H1
          clear H1
          by_cases c32 : x9_1.length < 4398046511104
          ·rw [if_pos c32] at H
           have LMc32 := Aside0.mk c32
           clear c32
           obtain ⟨y280, hy280⟩ : ∃ y_ : List (S68), y_ = (x9_1 ++ [(⟨t274, t277⟩ : S68)]) := ⟨_, rfl⟩
           replace H : (if 1 ≤ (x0_1.length : Int) then (if 1 ≤ (x1_1.length : Int) then (impl_merged_impl_Item__impl_cmpItem_impl_together_1.l0 k1 (x0_1.drop 1) (x1_1.drop 1) y280) else (none)) else (none)) = some r := by first | (rw [hy280]; with_reducible exact H) | (have H2_ := (Option.bind_some _ _).symm.trans H; rw [hy280]; with_reducible exact H2_) | (have H2_ := (Option.bind_some _ _).symm.trans H; with_reducible exact H2_) | with_reducible exact H | (rw [hy280]; exact H) | exact H
           have Ny280 := Aside0.mk hy280
           clear hy280
           by_cases c33 : 1 ≤ (x0_1.length : Int)
           ·rw [if_pos c33] at H
            have c33b0 := eq_true c33
            have c33b1 : decide (1 ≤ (x0_1.length : Int)) = true := decide_eq_true c33
            clear c33
            obtain ⟨y283, hy283⟩ : ∃ y_ : List (S68), y_ = (x0_1.drop 1) := ⟨_, rfl⟩
            replace H : (if 1 ≤ (x1_1.length : Int) then (impl_merged_impl_Item__impl_cmpItem_impl_together_1.l0 k1 y283 (x1_1.drop 1) y280) else (none)) = some r := by first | (rw [hy283]; with_reducible exact H) | (have H2_ := (Option.bind_some _ _).symm.trans H; rw [hy283]; with_reducible exact H2_) | (have H2_ := (Option.bind_some _ _).symm.trans H; with_reducible exact H2_) | with_reducible exact H | (rw [hy283]; exact H) | exact H
            have Ny283 := Aside0.mk hy283
            clear hy283
            by_cases c34 : 1 ≤ (x1_1.length : Int)
            ·rw [if_pos c34] at H
             have c34b0 := eq_true c34
             have c34b1 : decide (1 ≤ (x1_1.length : Int)) = true := decide_eq_true c34
             clear c34
             obtain ⟨y288, hy288⟩ : ∃ y_ : List (S68), y_ = (x1_1.drop 1) := ⟨_, rfl⟩
             replace H : (impl_merged_impl_Item__impl_cmpItem_impl_together_1.l0 k1 y283 y288 y280) = some r := by first | (rw [hy288]; with_reducible exact H) | (have H2_ := (Option.bind_some _ _).symm.trans H; rw [hy288]; with_reducible exact H2_) | (have H2_ := (Option.bind_some _ _).symm.trans H; with_reducible exact H2_) | with_reducible exact H | (rw [hy288]; exact H) | exact H
             have Ny288 := Aside0.mk hy288
             clear hy288
             have H' := Aside0.mk H
             clear H
             obtain ⟨Ao35, co35, eo35⟩ := Kd.V_slice HO_0.out
             subst eo35
             obtain ⟨Ao36, co36, eo36⟩ := Kd.V_slice HO_1.out
             subst eo36
             try go_wp2
             have n0_ := Aside0.mk (Kd.V_drew HO_0.out)
             have n1_ := Aside0.mk (Kd.V_drew HO_1.out)
             have n2_ := Aside0.mk (Kd.N_drew HO_9.out)
             have n3_ := Aside0.mk (below_drew1 HB.out)
             clear HO_0
             clear HO_1
             clear HO_9
             clear HB
             have HO_0 := n0_
             have HO_1 := n1_
             have HO_9 := n2_
             have HB := n3_
             clear n0_ n1_ n2_ n3_
             have p251 : 0 ≤ (0 : Int) := (by omega)
             have q251 : 0 < (x0_1.length : Int) := zod
             obtain ⟨ad251, A251_0, c251_0, e251, hx251_0, hx251_1, hl251_0, hi251_0⟩ := at_T68 (Kd.V_reads' HO_0.out).2.2 0 p251 q251
             cases e251
             obtain ⟨ce251, hce251, hMe251, hcc251⟩ := Kd.V_get HO_0.out z68 0 p251 (by first | exact q251 | exact zod | (have e_ := (Kd.V_reads' HO_0.out).1; omega))
             obtain ⟨ua251_0, uc251_0, rfl, ul251_0, ge251_0⟩ := k68_openF hMe251
             have hv251_0 := hcc251 0 _ rfl
             rw [Nat.add_zero] at hv251_0
             replace hv251_0 := Option.some.inj (hv251_0.symm.trans hx251_0)
             injection hv251_0 with hva_ hvn_ hvc_
             rw [hva_] at ge251_0
             rw [hvc_] at ul251_0
             have HL251_0 := Aside0.mk (show Kd.V (Kd.int .i64) 3 _ w.heap.size _ _ ((rd_T68 x0_1 0).f0) from Kd.V_mk ul251_0 ge251_0)
             clear hva_ hvn_ hvc_ ge251_0 ul251_0
             clear hcc251 hce251
             have qi251 : (0 < x0_1.length) = True := eq_true (by omega)
             (try rw [show ((0 : Int)).toNat = 0 from rfl] at hx251_0)
             (try rw [show 0 * 2 = 0 from rfl] at hx251_0)
             (try rw [Addr.add_zero'] at hx251_0)
             (try rw [show ((0 : Int)).toNat = 0 from rfl] at hx251_1)
             (try rw [show 0 * 2 = 0 from rfl] at hx251_1)
             (try rw [Addr.add_zero'] at hx251_1)
             have HR251_0 := Aside0.mk hi251_0
             have HC251_0 := Aside0.mk hl251_0
             clear hi251_0 hl251_0
             replace p251 := eq_true p251
             replace q251 := eq_true q251
             have p252 : 0 ≤ (0 : Int) := (by omega)
             have q252 : 0 < (x1_1.length : Int) := zod
             obtain ⟨ad252, A252_0, c252_0, e252, hx252_0, hx252_1, hl252_0, hi252_0⟩ := at_T68 (Kd.V_reads' HO_1.out).2.2 0 p252 q252
             cases e252
             obtain ⟨ce252, hce252, hMe252, hcc252⟩ := Kd.V_get HO_1.out z68 0 p252 (by first | exact q252 | exact zod | (have e_ := (Kd.V_reads' HO_1.out).1; omega))
             obtain ⟨ua252_0, uc252_0, rfl, ul252_0, ge252_0⟩ := k68_openF hMe252
             have hv252_0 := hcc252 0 _ rfl
             rw [Nat.add_zero] at hv252_0
             replace hv252_0 := Option.some.inj (hv252_0.symm.trans hx252_0)
             injection hv252_0 with hva_ hvn_ hvc_
             rw [hva_] at ge252_0
             rw [hvc_] at ul252_0
             have HL252_0 := Aside0.mk (show Kd.V (Kd.int .i64) 3 _ w.heap.size _ _ ((rd_T68 x1_1 0).f0) from Kd.V_mk ul252_0 ge252_0)
             clear hva_ hvn_ hvc_ ge252_0 ul252_0
             clear hcc252 hce252
             have qi252 : (0 < x1_1.length) = True := eq_true (by omega)
             (try rw [show ((0 : Int)).toNat = 0 from rfl] at hx252_0)
             (try rw [show 0 * 2 = 0 from rfl] at hx252_0)
             (try rw [Addr.add_zero'] at hx252_0)
             (try rw [show ((0 : Int)).toNat = 0 from rfl] at hx252_1)
             (try rw [show 0 * 2 = 0 from rfl] at hx252_1)
             (try rw [Addr.add_zero'] at hx252_1)
             have HR252_0 := Aside0.mk hi252_0
             have HC252_0 := Aside0.mk hl252_0
             clear hi252_0 hl252_0
             replace p252 := eq_true p252
             replace q252 := eq_true q252
             refine start_ (n := 9) (S := fun w' => w'.cell? ad251 = some (.slice A251_0 ((rd_T68 x0_1 0).f0).length c251_0) ∧ w'.cell? ⟨ad251.block, ad251.off + 1, none⟩ = some (.int .i64 ((rd_T68 x0_1 0).f1)) ∧ w'.cell? ad252 = some (.slice A252_0 ((rd_T68 x1_1 0).f0).length c252_0) ∧ w'.cell? ⟨ad252.block, ad252.off + 1, none⟩ = some (.int .i64 ((rd_T68 x1_1 0).f1))) (ds := []) #[zf, zf, zf, zf, zf, zf, zf, zf, zf] (by kernel_rfl) rfl rfl ⟨hx251_0, hx251_1, hx252_0, hx252_1⟩ (fun hHeld => ?_); refine with_tabW impl_merged_impl_Item__impl_cmpItem_impl_together_1.tab3 impl_merged_impl_Item__impl_cmpItem_impl_together_1.bits3 (fun HT_ HW_ => ?_)
             generalize wr.drew = w37 at HO_0 HO_1 HO_9 HB HL251_0 HL252_0 HR251_0 HR252_0 hx251_0 hx251_1 hx252_0 hx252_1 hHeld ⊢
             refine pure_ (i := 0) (N := some 21) (v := ?_) (a' := ?_) #[zt, zf, zf, zf, zf, zf, zf, zf, zf] rfl rfl (any_of HT_.out (by kernel_rfl)) (fun _ _ _ h => h) (Or.inl ⟨by rfl, ?_⟩) ?_ ?_
             rotate_left
             ·intro w'
              go_simp
              with_reducible rfl
             rotate_left
             ·simp only [Act.put, zp1, zp2, zp3, i64_w, i32_w]
              rfl
             refine pure_ (i := 1) (N := some 22) (v := ?_) (a' := ?_) #[zt, zt, zf, zf, zf, zf, zf, zf, zf] rfl rfl (any_of HT_.out (by kernel_rfl)) (fun _ _ _ h => h) (Or.inl ⟨by rfl, ?_⟩) ?_ ?_
             rotate_left
             ·intro w'
              go_simp
              with_reducible rfl
             rotate_left
             ·simp only [Act.put, zp1, zp2, zp3, i64_w, i32_w]
              rfl
             refine pure_ (i := 2) (N := some 23) (v := ?_) (a' := ?_) #[zt, zt, zt, zf, zf, zf, zf, zf, zf] rfl rfl (any_of HT_.out (by kernel_rfl)) (fun _ _ _ h => h) (Or.inl ⟨by rfl, ?_⟩) ?_ ?_
             rotate_left
             ·intro w'
              go_simp
              with_reducible rfl
             rotate_left
             ·simp only [Act.put, zp1, zp2, zp3, i64_w, i32_w]
              rfl
             refine pure_ (i := 4) (N := some 25) (v := ?_) (a' := ?_) #[zt, zt, zt, zf, zt, zf, zf, zf, zf] rfl rfl (any_of HT_.out (by kernel_rfl)) (fun _ _ _ h => h) (Or.inl ⟨by rfl, ?_⟩) ?_ ?_
             rotate_left
             ·intro w'
              go_simp
              with_reducible rfl
             rotate_left
             ·simp only [Act.put, zp1, zp2, zp3, i64_w, i32_w]
              rfl
             refine pure_ (i := 5) (N := some 26) (v := ?_) (a' := ?_) #[zt, zt, zt, zf, zt, zt, zf, zf, zf] rfl rfl (any_of HT_.out (by kernel_rfl)) (fun _ _ _ h => h) (Or.inl ⟨by rfl, ?_⟩) ?_ ?_
             rotate_left
             ·intro w'
              go_simp
              with_reducible rfl
             rotate_left
             ·simp only [Act.put, zp1, zp2, zp3, i64_w, i32_w]
              rfl
             refine take_ (i := 3) (N := some 24) (v := ?_) (a' := ?_) #[zt, zt, zt, zt, zt, zt, zf, zf, zf] rfl rfl (take_ofW HT_.out HW_.out (by kernel_rfl)) (fun _ _ _ h => h) (Or.inl ⟨by rfl, ?_⟩) hHeld ?_ ?_
             rotate_left
             ·rintro w' ⟨s0, s1, s2, s3⟩
              go_simp
              with_reducible rfl
             rotate_left
             ·simp only [Act.put, zp1, zp2, zp3, i64_w, i32_w]
              rfl
             refine take_ (i := 6) (N := some 27) (v := ?_) (a' := ?_) #[zt, zt, zt, zt, zt, zt, zt, zf, zf] rfl rfl (take_ofW HT_.out HW_.out (by kernel_rfl)) (fun _ _ _ h => h) (Or.inl ⟨by rfl, ?_⟩) hHeld ?_ ?_
             rotate_left
             ·rintro w' ⟨s0, s1, s2, s3⟩
              go_simp
              with_reducible rfl
             rotate_left
             ·simp only [Act.put, zp1, zp2, zp3, i64_w, i32_w]
              rfl
             refine one_ (i := 7) (N := some 28) #[zt, zt, zt, zt, zt, zt, zt, zt, zf] rfl rfl (one_of HT_.out (by kernel_rfl)) (by decide) (fun K hK => ?_)
             refine goes_f (.tmp 21) Try.func107 (by kernel_rfl) rfl #[.agg #[.slice A251_0 ((rd_T68 x0_1 0).f0).length c251_0, .int .i64 ((rd_T68 x0_1 0).f1)], .agg #[.slice A252_0 ((rd_T68 x1_1 0).f0).length c252_0, .int .i64 ((rd_T68 x1_1 0).f1)]] (by rfl) rfl rfl rfl zar ?_
             with_reducible refine (impl_cmpItem.calls k1 _ _ ((rd_T68 x0_1 0).f0) ((rd_T68 x0_1 0).f1) _ _ ((rd_T68 x1_1 0).f0) ((rd_T68 x1_1 0).f1) t253 _ ?side1 ?side2 ?side3 ?side4 A9.out).mono ?_
             (case side1 => repeat (first | exact (by repeat (first | (with_reducible exact HR251_0.out) | (with_reducible refine Kd.C_alloc ?_ _) | (with_reducible refine Kd.C_drewN ?_ _) | (with_reducible refine Kd.C_drew ?_) | exact HR251_0.out)) | (with_reducible refine Kd.C_alloc ?_ _) | (with_reducible refine Kd.C_drewN ?_ _) | (with_reducible refine Kd.C_drew ?_)))
             (case side2 => exact HC251_0.out)
             (case side3 => repeat (first | exact (by repeat (first | (with_reducible exact HR252_0.out) | (with_reducible refine Kd.C_alloc ?_ _) | (with_reducible refine Kd.C_drewN ?_ _) | (with_reducible refine Kd.C_drew ?_) | exact HR252_0.out)) | (with_reducible refine Kd.C_alloc ?_ _) | (with_reducible refine Kd.C_drewN ?_ _) | (with_reducible refine Kd.C_drew ?_)))
             (case side4 => exact HC252_0.out)
             rintro e w38 ⟨rfl, hb⟩
             have HS0_ := (hb.cell (World.block_lt_of_cell? _ _ (hHeld.1))).trans (hHeld.1)
             have HS1_ := (hb.cell (World.block_lt_of_cell? _ _ (hHeld.2.1))).trans (hHeld.2.1)
             have HS2_ := (hb.cell (World.block_lt_of_cell? _ _ (hHeld.2.2.1))).trans (hHeld.2.2.1)
             have HS3_ := (hb.cell (World.block_lt_of_cell? _ _ (hHeld.2.2.2))).trans (hHeld.2.2.2)
             refine ⟨_, rfl, ?_⟩
             have n0_ := Aside0.mk (Kd.V_below (by (with_reducible repeat (first | apply Kd.V_alloc | apply Kd.V_drewN | apply Kd.V_drew)); exact HO_0.out) hb)
             have n1_ := Aside0.mk (Kd.V_below (by (with_reducible repeat (first | apply Kd.V_alloc | apply Kd.V_drewN | apply Kd.V_drew)); exact HO_1.out) hb)
             have n2_ := Aside0.mk (Kd.N_below (by (with_reducible repeat (first | apply Kd.N_alloc | apply Kd.N_drewN | apply Kd.N_drew)); exact HO_9.out) hb)
             have n3_ := Aside0.mk (Kd.V_below (by (with_reducible repeat (first | apply Kd.V_alloc | apply Kd.V_drewN | apply Kd.V_drew)); exact HL251_0.out) hb)
             have n4_ := Aside0.mk (Kd.V_below (by (with_reducible repeat (first | apply Kd.V_alloc | apply Kd.V_drewN | apply Kd.V_drew)); exact HL252_0.out) hb)
             have n5_ := Aside0.mk (Kd.C_below (by repeat (first | (with_reducible exact HR251_0.out) | (with_reducible refine Kd.C_alloc ?_ _) | (with_reducible refine Kd.C_drewN ?_ _) | (with_reducible refine Kd.C_drew ?_) | exact HR251_0.out)) hb)
             have n6_ := Aside0.mk (Kd.C_below (by repeat (first | (with_reducible exact HR252_0.out) | (with_reducible refine Kd.C_alloc ?_ _) | (with_reducible refine Kd.C_drewN ?_ _) | (with_reducible refine Kd.C_drew ?_) | exact HR252_0.out)) hb)
             have n7_ := Aside0.mk (below_step zhb hb)
             clear HO_0
             clear HO_1
             clear HO_9
             clear HL251_0
             clear HL252_0
             clear HR251_0
             clear HR252_0
             clear HB
             have HO_0 := n0_
             have HO_1 := n1_
             have HO_9 := n2_
             have HL251_0 := n3_
             have HL252_0 := n4_
             have HR251_0 := n5_
             have HR252_0 := n6_
             have HB := n7_
             clear n0_ n1_ n2_ n3_ n4_ n5_ n6_ n7_
             (try clear hb)
             (try clear hb2)
             (try clear hk)
             (try clear hi)
             refine hK.out _ _ ⟨HS0_, HS1_, HS2_, HS3_⟩ (fun hHeld => ?_)
             clear hK K
             refine norm_ (a' := ?_) ?_ ?_
             rotate_left
             ·show Act.put _ (some 28) _ = _
              simp only [Act.put, zp1, zp2, zp3, i64_w, i32_w]
              rfl
             refine pure_ (i := 8) (N := some 10) (v := ?_) (a' := ?_) #[zt, zt, zt, zt, zt, zt, zt, zt, zt] rfl rfl (any_of HT_.out (by kernel_rfl)) (fun _ _ _ h => h) (Or.inl ⟨by rfl, ?_⟩) ?_ ?_
             rotate_left
             ·intro w'
              go_simp
              with_reducible rfl
             rotate_left
             ·simp only [Act.put, zp1, zp2, zp3, i64_w, i32_w]
              rfl
             refine done_ (done_of HT_.out (by kernel_rfl)) ?_
             try go_wp2
             have n0_ := Aside0.mk (Kd.V_drew HO_0.out)
             have n1_ := Aside0.mk (Kd.V_drew HO_1.out)
             have n2_ := Aside0.mk (Kd.N_drew HO_9.out)
             have n3_ := Aside0.mk (Kd.V_drew HL251_0.out)
             have n4_ := Aside0.mk (Kd.V_drew HL252_0.out)
             have n5_ := Aside0.mk (Kd.C_drew HR251_0.out)
             have n6_ := Aside0.mk (Kd.C_drew HR252_0.out)
             have n7_ := Aside0.mk (below_drew1 HB.out)
             clear HO_0
             clear HO_1
             clear HO_9
             clear HL251_0
             clear HL252_0
             clear HR251_0
             clear HR252_0
             clear HB
             have HO_0 := n0_
             have HO_1 := n1_
             have HO_9 := n2_
             have HL251_0 := n3_
             have HL252_0 := n4_
             have HR251_0 := n5_
             have HR252_0 := n6_
             have HB := n7_
             clear n0_ n1_ n2_ n3_ n4_ n5_ n6_ n7_
             have p272 : 0 ≤ (0 : Int) := (by omega)
             have q272 : 0 < (x0_1.length : Int) := zod
             obtain ⟨ad272, A272_0, c272_0, e272, hx272_0, hx272_1, hl272_0, hi272_0⟩ := at_T68 (Kd.V_reads' HO_0.out).2.2 0 p272 q272
             obtain rfl : ad251 = ad272 := (by injection e272)
             obtain ⟨ce272, hce272, hMe272, hcc272⟩ := Kd.V_get HO_0.out z68 0 p272 (by first | exact q272 | exact zod | (have e_ := (Kd.V_reads' HO_0.out).1; omega))
             obtain ⟨ua272_0, uc272_0, rfl, ul272_0, ge272_0⟩ := k68_openF hMe272
             have hv272_0 := hcc272 0 _ rfl
             rw [Nat.add_zero] at hv272_0
             replace hv272_0 := Option.some.inj (hv272_0.symm.trans hx272_0)
             injection hv272_0 with hva_ hvn_ hvc_
             rw [hva_] at ge272_0
             rw [hvc_] at ul272_0
             have HL272_0 := Aside0.mk (show Kd.V (Kd.int .i64) 3 _ w.heap.size _ _ ((rd_T68 x0_1 0).f0) from Kd.V_mk ul272_0 ge272_0)
             clear hva_ hvn_ hvc_ ge272_0 ul272_0
             clear hcc272 hce272
             have qi272 : (0 < x0_1.length) = True := eq_true (by omega)
             (try rw [show ((0 : Int)).toNat = 0 from rfl] at hx272_0)
             (try rw [show 0 * 2 = 0 from rfl] at hx272_0)
             (try rw [Addr.add_zero'] at hx272_0)
             (try rw [show ((0 : Int)).toNat = 0 from rfl] at hx272_1)
             (try rw [show 0 * 2 = 0 from rfl] at hx272_1)
             (try rw [Addr.add_zero'] at hx272_1)
             have HR272_0 := Aside0.mk hi272_0
             have HC272_0 := Aside0.mk hl272_0
             clear hi272_0 hl272_0
             replace p272 := eq_true p272
             replace q272 := eq_true q272
             have p273 : 0 ≤ (0 : Int) := (by omega)
             have q273 : 0 < (x1_1.length : Int) := zod
             obtain ⟨ad273, A273_0, c273_0, e273, hx273_0, hx273_1, hl273_0, hi273_0⟩ := at_T68 (Kd.V_reads' HO_1.out).2.2 0 p273 q273
             obtain rfl : ad252 = ad273 := (by injection e273)
             obtain ⟨ce273, hce273, hMe273, hcc273⟩ := Kd.V_get HO_1.out z68 0 p273 (by first | exact q273 | exact zod | (have e_ := (Kd.V_reads' HO_1.out).1; omega))
             obtain ⟨ua273_0, uc273_0, rfl, ul273_0, ge273_0⟩ := k68_openF hMe273
             have hv273_0 := hcc273 0 _ rfl
             rw [Nat.add_zero] at hv273_0
             replace hv273_0 := Option.some.inj (hv273_0.symm.trans hx273_0)
             injection hv273_0 with hva_ hvn_ hvc_
             rw [hva_] at ge273_0
             rw [hvc_] at ul273_0
             have HL273_0 := Aside0.mk (show Kd.V (Kd.int .i64) 3 _ w.heap.size _ _ ((rd_T68 x1_1 0).f0) from Kd.V_mk ul273_0 ge273_0)
             clear hva_ hvn_ hvc_ ge273_0 ul273_0
             clear hcc273 hce273
             have qi273 : (0 < x1_1.length) = True := eq_true (by omega)
             (try rw [show ((0 : Int)).toNat = 0 from rfl] at hx273_0)
             (try rw [show 0 * 2 = 0 from rfl] at hx273_0)
             (try rw [Addr.add_zero'] at hx273_0)
             (try rw [show ((0 : Int)).toNat = 0 from rfl] at hx273_1)
             (try rw [show 0 * 2 = 0 from rfl] at hx273_1)
             (try rw [Addr.add_zero'] at hx273_1)
             have HR273_0 := Aside0.mk hi273_0
             have HC273_0 := Aside0.mk hl273_0
             clear hi273_0 hl273_0
             replace p273 := eq_true p273
             replace q273 := eq_true q273
             refine start_ (n := 14) (S := fun w' => w'.cell? ad251 = some (.slice A272_0 ((rd_T68 x0_1 0).f0).length c272_0) ∧ w'.cell? ⟨ad251.block, ad251.off + 1, none⟩ = some (.int .i64 ((rd_T68 x0_1 0).f1)) ∧ w'.cell? ad252 = some (.slice A273_0 ((rd_T68 x1_1 0).f0).length c273_0) ∧ w'.cell? ⟨ad252.block, ad252.off + 1, none⟩ = some (.int .i64 ((rd_T68 x1_1 0).f1))) (ds := []) #[zf, zf, zf, zf, zf, zf, zf, zf, zf, zf, zf, zf, zf, zf] (by kernel_rfl) rfl rfl ⟨hx272_0, hx272_1, hx273_0, hx273_1⟩ (fun hHeld => ?_); refine with_tabW impl_merged_impl_Item__impl_cmpItem_impl_together_1.tab4 impl_merged_impl_Item__impl_cmpItem_impl_together_1.bits4 (fun HT_ HW_ => ?_)
             generalize w38.drew = w39 at HO_0 HO_1 HO_9 HL251_0 HL252_0 HR251_0 HR252_0 HB HL272_0 HL273_0 HR272_0 HR273_0 hx272_0 hx272_1 hx273_0 hx273_1 hHeld ⊢
             refine pure_ (i := 0) (N := some 30) (v := ?_) (a' := ?_) #[zt, zf, zf, zf, zf, zf, zf, zf, zf, zf, zf, zf, zf, zf] rfl rfl (any_of HT_.out (by kernel_rfl)) (fun _ _ _ h => h) (Or.inl ⟨by rfl, ?_⟩) ?_ ?_
             rotate_left
             ·intro w'
              go_simp
              with_reducible rfl
             rotate_left
             ·simp only [Act.put, zp1, zp2, zp3, i64_w, i32_w]
              rfl
             refine pure_ (i := 1) (N := some 31) (v := ?_) (a' := ?_) #[zt, zt, zf, zf, zf, zf, zf, zf, zf, zf, zf, zf, zf, zf] rfl rfl (any_of HT_.out (by kernel_rfl)) (fun _ _ _ h => h) (Or.inl ⟨by rfl, ?_⟩) ?_ ?_
             rotate_left
             ·intro w'
              go_simp
              with_reducible rfl
             rotate_left
             ·simp only [Act.put, zp1, zp2, zp3, i64_w, i32_w]
              rfl
             refine pure_ (i := 2) (N := some 32) (v := ?_) (a' := ?_) #[zt, zt, zt, zf, zf, zf, zf, zf, zf, zf, zf, zf, zf, zf] rfl rfl (any_of HT_.out (by kernel_rfl)) (fun _ _ _ h => h) (Or.inl ⟨by rfl, ?_⟩) ?_ ?_
             rotate_left
             ·intro w'
              go_simp
              with_reducible rfl
             rotate_left
             ·simp only [Act.put, zp1, zp2, zp3, i64_w, i32_w]
              rfl
             refine pure_ (i := 4) (N := some 34) (v := ?_) (a' := ?_) #[zt, zt, zt, zf, zt, zf, zf, zf, zf, zf, zf, zf, zf, zf] rfl rfl (any_of HT_.out (by kernel_rfl)) (fun _ _ _ h => h) (Or.inl ⟨by rfl, ?_⟩) ?_ ?_
             rotate_left
             ·intro w'
              go_simp
              with_reducible rfl
             rotate_left
             ·simp only [Act.put, zp1, zp2, zp3, i64_w, i32_w]
              rfl
             refine pure_ (i := 5) (N := some 35) (v := ?_) (a' := ?_) #[zt, zt, zt, zf, zt, zt, zf, zf, zf, zf, zf, zf, zf, zf] rfl rfl (any_of HT_.out (by kernel_rfl)) (fun _ _ _ h => h) (Or.inl ⟨by rfl, ?_⟩) ?_ ?_
             rotate_left
             ·intro w'
              go_simp
              with_reducible rfl
             rotate_left
             ·simp only [Act.put, zp1, zp2, zp3, i64_w, i32_w]
              rfl
             refine take_ (i := 3) (N := some 33) (v := ?_) (a' := ?_) #[zt, zt, zt, zt, zt, zt, zf, zf, zf, zf, zf, zf, zf, zf] rfl rfl (take_ofW HT_.out HW_.out (by kernel_rfl)) (fun _ _ _ h => h) (Or.inl ⟨by rfl, ?_⟩) hHeld ?_ ?_
             rotate_left
             ·rintro w' ⟨s0, s1, s2, s3⟩
              go_simp
              with_reducible rfl
             rotate_left
             ·simp only [Act.put, zp1, zp2, zp3, i64_w, i32_w]
              rfl
             refine take_ (i := 6) (N := some 36) (v := ?_) (a' := ?_) #[zt, zt, zt, zt, zt, zt, zt, zf, zf, zf, zf, zf, zf, zf] rfl rfl (take_ofW HT_.out HW_.out (by kernel_rfl)) (fun _ _ _ h => h) (Or.inl ⟨by rfl, ?_⟩) hHeld ?_ ?_
             rotate_left
             ·rintro w' ⟨s0, s1, s2, s3⟩
              go_simp
              with_reducible rfl
             rotate_left
             ·simp only [Act.put, zp1, zp2, zp3, i64_w, i32_w]
              rfl
             refine join_ (σ := Value × Nat) 2 #[zt, zt, zt, zt, zt, zt, zt, zt, zt, zt, zt, zt, zf, zf] (fun s_ => [(37, .tuple #[.agg #[s_.1, .int .i64 t277], .bool true]), (11, .pointer (some ⟨s_.2, 0, none⟩)), (29, .tuple #[.agg #[s_.1, .int .i64 t277], .bool true]), (38, .agg #[s_.1, .int .i64 t277]), (39, .bool true)]) (fun s_ w' => (w'.cell? ad251 = some (.slice A272_0 ((rd_T68 x0_1 0).f0).length c272_0) ∧ w'.cell? ⟨ad251.block, ad251.off + 1, none⟩ = some (.int .i64 ((rd_T68 x0_1 0).f1)) ∧ w'.cell? ad252 = some (.slice A273_0 ((rd_T68 x1_1 0).f0).length c273_0) ∧ w'.cell? ⟨ad252.block, ad252.off + 1, none⟩ = some (.int .i64 ((rd_T68 x1_1 0).f1))) ∧ (Kd.V (Kd.int .i64) 3 w' w.heap.size (fun k_ => ((P0_ k_ ∨ P1_ k_) ∨ w.heap.size ≤ k_) ∧ some k_ ≠ (u9 : Value).ownBlock ∧ k_ ≠ s_.2) (.slice A251_0 ((rd_T68 x0_1 0).f0).length c251_0) ((rd_T68 x0_1 0).f0)) ∧ (Kd.V (Kd.int .i64) 3 w' w.heap.size (fun k_ => ((P0_ k_ ∨ P1_ k_) ∨ w.heap.size ≤ k_) ∧ some k_ ≠ (u9 : Value).ownBlock ∧ k_ ≠ s_.2) (.slice A252_0 ((rd_T68 x1_1 0).f0).length c252_0) ((rd_T68 x1_1 0).f0)) ∧ (Kd.V (Kd.int .i64) 3 w' w.heap.size (fun k_ => ((P0_ k_ ∨ P1_ k_) ∨ w.heap.size ≤ k_) ∧ some k_ ≠ (u9 : Value).ownBlock ∧ k_ ≠ s_.2) (.slice A272_0 ((rd_T68 x0_1 0).f0).length c272_0) ((rd_T68 x0_1 0).f0)) ∧ (Kd.V (Kd.int .i64) 3 w' w.heap.size (fun k_ => ((P0_ k_ ∨ P1_ k_) ∨ w.heap.size ≤ k_) ∧ some k_ ≠ (u9 : Value).ownBlock ∧ k_ ≠ s_.2) (.slice A273_0 ((rd_T68 x1_1 0).f0).length c273_0) ((rd_T68 x1_1 0).f0)) ∧ (Kd.V (Kd.int .i64) 3 w' w.heap.size (fun k_ => ((P0_ k_ ∨ P1_ k_) ∨ w.heap.size ≤ k_) ∧ some k_ ≠ (u9 : Value).ownBlock ∧ k_ ≠ s_.2) s_.1 t274) ∧ (Kd.V k68 68 w' w.heap.size (fun k_ => ((P0_ k_ ∨ P1_ k_) ∨ w.heap.size ≤ k_) ∧ some k_ ≠ (u9 : Value).ownBlock ∧ k_ ≠ s_.2) (.slice (some ad251) x0_1.length co35) x0_1) ∧ (Kd.V k68 68 w' w.heap.size (fun k_ => ((P0_ k_ ∨ P1_ k_) ∨ w.heap.size ≤ k_) ∧ some k_ ≠ (u9 : Value).ownBlock ∧ k_ ≠ s_.2) (.slice (some ad252) x1_1.length co36) x1_1) ∧ (Kd.N k68 68 w' w.heap.size (fun k_ => ((P0_ k_ ∨ P1_ k_) ∨ w.heap.size ≤ k_) ∧ k_ ≠ s_.2) u9 x9_1) ∧ (w'.heap[s_.2]? = some (.cells #[.slice none 0 0, .int .i64 0] 68 (0, 0))) ∧ (w.heap.size ≤ s_.2) ∧ (w.heap.size ≤ s_.2) ∧ (Below w.heap.size w w')) ?_ ?_
             rotate_left
             ·intro hCont
              refine two_ (i := 7) (j := 11) (Ni := some 37) (Nj := some 11) #[zt, zt, zt, zt, zt, zt, zt, zt, zf, zf, zf, zf, zf, zf] #[zt, zt, zt, zt, zt, zt, zt, zf, zf, zf, zf, zt, zf, zf] rfl rfl rfl rfl (two_of HT_.out (by kernel_rfl)) (by decide) (by decide) (fun K hK => ?_) (fun K hK => ?_)
              ·skip
               refine goes_f (.tmp 30) Try.func108 (by kernel_rfl) rfl #[.agg #[.slice A272_0 ((rd_T68 x0_1 0).f0).length c272_0, .int .i64 ((rd_T68 x0_1 0).f1)], .agg #[.slice A273_0 ((rd_T68 x1_1 0).f0).length c273_0, .int .i64 ((rd_T68 x1_1 0).f1)]] (by rfl) rfl rfl rfl zar ?_
               with_reducible refine (impl_together_1.calls (fun k_ => (((P0_ k_ ∨ P1_ k_) ∨ w.heap.size ≤ k_) ∧ some k_ ≠ (u9 : Value).ownBlock)) _ _ ((rd_T68 x0_1 0).f0) ((rd_T68 x0_1 0).f1) _ _ ((rd_T68 x1_1 0).f0) ((rd_T68 x1_1 0).f1) t274 t277 true _ ?side1 ?side2 ?side3 A30.out).mono ?_
               (case side1 => exact HL272_0.out)
               (case side2 => repeat (first | exact (by repeat (first | (with_reducible exact HR273_0.out) | (with_reducible refine Kd.C_alloc ?_ _) | (with_reducible refine Kd.C_drewN ?_ _) | (with_reducible refine Kd.C_drew ?_) | exact HR273_0.out)) | (with_reducible refine Kd.C_alloc ?_ _) | (with_reducible refine Kd.C_drewN ?_ _) | (with_reducible refine Kd.C_drew ?_)))
               (case side3 => exact HC273_0.out)
               rintro e w40 ⟨v275, rfl, ho0, hb⟩
               have HS0_ := (hb.cell (World.block_lt_of_cell? _ _ (hHeld.1))).trans (hHeld.1)
               have HS1_ := (hb.cell (World.block_lt_of_cell? _ _ (hHeld.2.1))).trans (hHeld.2.1)
               have HS2_ := (hb.cell (World.block_lt_of_cell? _ _ (hHeld.2.2.1))).trans (hHeld.2.2.1)
               have HS3_ := (hb.cell (World.block_lt_of_cell? _ _ (hHeld.2.2.2))).trans (hHeld.2.2.2)
               refine ⟨_, rfl, ?_⟩
               have n0_ := Aside0.mk (Kd.V_below (by (with_reducible repeat (first | apply Kd.V_alloc | apply Kd.V_drewN | apply Kd.V_drew)); exact HO_0.out) hb)
               have n1_ := Aside0.mk (Kd.V_below (by (with_reducible repeat (first | apply Kd.V_alloc | apply Kd.V_drewN | apply Kd.V_drew)); exact HO_1.out) hb)
               have n2_ := Aside0.mk (Kd.N_below (by (with_reducible repeat (first | apply Kd.N_alloc | apply Kd.N_drewN | apply Kd.N_drew)); exact HO_9.out) hb)
               have n3_ := Aside0.mk (Kd.V_below (by (with_reducible repeat (first | apply Kd.V_alloc | apply Kd.V_drewN | apply Kd.V_drew)); exact HL251_0.out) hb)
               have n4_ := Aside0.mk (Kd.V_below (by (with_reducible repeat (first | apply Kd.V_alloc | apply Kd.V_drewN | apply Kd.V_drew)); exact HL252_0.out) hb)
               have n5_ := Aside0.mk (Kd.V_below (by (with_reducible repeat (first | apply Kd.V_alloc | apply Kd.V_drewN | apply Kd.V_drew)); exact HL272_0.out) hb)
               have n6_ := Aside0.mk (Kd.V_below (by (with_reducible repeat (first | apply Kd.V_alloc | apply Kd.V_drewN | apply Kd.V_drew)); exact HL273_0.out) hb)
               have n7_ := Aside0.mk (Kd.V_lower (Kd.V_mono (ok' := fun k_ => ((P0_ k_ ∨ P1_ k_) ∨ w.heap.size ≤ k_) ∧ some k_ ≠ (u9 : Value).ownBlock) ho0 (fun k_ hk_ => ⟨Or.elim hk_ (fun hs_ => hs_.1) (fun hn_ => (.inr (Nat.le_trans (below_size zhb) hn_))), Or.elim hk_ (fun hs_ => hs_.2) (fun hn_ => (Kd.fresh' (Kd.N_lt (by (with_reducible repeat (first | apply Kd.N_alloc | apply Kd.N_drewN | apply Kd.N_drew)); exact HO_9.out)) k_ hn_))⟩)) (below_size zhb))
               have n8_ := Aside0.mk (Kd.C_below (by repeat (first | (with_reducible exact HR251_0.out) | (with_reducible refine Kd.C_alloc ?_ _) | (with_reducible refine Kd.C_drewN ?_ _) | (with_reducible refine Kd.C_drew ?_) | exact HR251_0.out)) hb)
               have n9_ := Aside0.mk (Kd.C_below (by repeat (first | (with_reducible exact HR252_0.out) | (with_reducible refine Kd.C_alloc ?_ _) | (with_reducible refine Kd.C_drewN ?_ _) | (with_reducible refine Kd.C_drew ?_) | exact HR252_0.out)) hb)
               have n10_ := Aside0.mk (Kd.C_below (by repeat (first | (with_reducible exact HR272_0.out) | (with_reducible refine Kd.C_alloc ?_ _) | (with_reducible refine Kd.C_drewN ?_ _) | (with_reducible refine Kd.C_drew ?_) | exact HR272_0.out)) hb)
               have n11_ := Aside0.mk (Kd.C_below (by repeat (first | (with_reducible exact HR273_0.out) | (with_reducible refine Kd.C_alloc ?_ _) | (with_reducible refine Kd.C_drewN ?_ _) | (with_reducible refine Kd.C_drew ?_) | exact HR273_0.out)) hb)
               have n12_ := Aside0.mk (below_step zhb hb)
               clear HO_0
               clear HO_1
               clear HO_9
               clear HL251_0
               clear HL252_0
               clear HL272_0
               clear HL273_0
               clear HR251_0
               clear HR252_0
               clear HR272_0
               clear HR273_0
               clear HB
               have HO_0 := n0_
               have HO_1 := n1_
               have HO_9 := n2_
               have HL251_0 := n3_
               have HL252_0 := n4_
               have HL272_0 := n5_
               have HL273_0 := n6_
               have HO276 := n7_
               have HR251_0 := n8_
               have HR252_0 := n9_
               have HR272_0 := n10_
               have HR273_0 := n11_
               have HB := n12_
               clear n0_ n1_ n2_ n3_ n4_ n5_ n6_ n7_ n8_ n9_ n10_ n11_ n12_
               (try clear hb)
               (try clear hb2)
               (try clear hk)
               (try clear hi)
               (try clear ho0)
               refine hK.out _ _ ⟨HS0_, HS1_, HS2_, HS3_⟩ (fun hHeld => ?_)
               clear hK K
               refine norm_ (a' := ?_) ?_ ?_
               rotate_left
               ·show Act.put _ (some 37) _ = _
                simp only [Act.put, zp1, zp2, zp3, i64_w, i32_w]
                rfl
               refine pure_ (i := 8) (N := some 29) (v := ?_) (a' := ?_) #[zt, zt, zt, zt, zt, zt, zt, zt, zt, zf, zf, zf, zf, zf] rfl rfl (any_of HT_.out (by kernel_rfl)) (fun _ _ _ h => h) (Or.inl ⟨by rfl, ?_⟩) ?_ ?_
               rotate_left
               ·intro w'
                go_simp
                with_reducible rfl
               rotate_left
               ·simp only [Act.put, zp1, zp2, zp3, i64_w, i32_w]
                rfl
               refine pure_ (i := 9) (N := some 38) (v := ?_) (a' := ?_) #[zt, zt, zt, zt, zt, zt, zt, zt, zt, zt, zf, zf, zf, zf] rfl rfl (any_of HT_.out (by kernel_rfl)) (fun _ _ _ h => h) (Or.inl ⟨by rfl, ?_⟩) ?_ ?_
               rotate_left
               ·intro w'
                go_simp
                with_reducible rfl
               rotate_left
               ·simp only [Act.put, zp1, zp2, zp3, i64_w, i32_w]
                rfl
               refine pure_ (i := 10) (N := some 39) (v := ?_) (a' := ?_) #[zt, zt, zt, zt, zt, zt, zt, zt, zt, zt, zt, zf, zf, zf] rfl rfl (any_of HT_.out (by kernel_rfl)) (fun _ _ _ h => h) (Or.inl ⟨by rfl, ?_⟩) ?_ ?_
               rotate_left
               ·intro w'
                go_simp
                with_reducible rfl
               rotate_left
               ·simp only [Act.put, zp1, zp2, zp3, i64_w, i32_w]
                rfl
               refine one_ (i := 11) (N := some 11) #[zt, zt, zt, zt, zt, zt, zt, zt, zt, zt, zt, zt, zf, zf] rfl rfl (one_of HT_.out (by kernel_rfl)) (by decide) (fun K hK => ?_)
               refine box_step ?hg (N := 11) ?hd (cs := #[.slice none 0 0, .int .i64 0]) (t := 68) ?hr ?_; (case hd => rfl); (case hg => rfl); (case hr => first | (go_simp; done) | (go_simp; rfl))
               intro gb279 hg w41 hbox hb
               have HS0_ := (hb.cell (World.block_lt_of_cell? _ _ (hHeld.1))).trans (hHeld.1)
               have HS1_ := (hb.cell (World.block_lt_of_cell? _ _ (hHeld.2.1))).trans (hHeld.2.1)
               have HS2_ := (hb.cell (World.block_lt_of_cell? _ _ (hHeld.2.2.1))).trans (hHeld.2.2.1)
               have HS3_ := (hb.cell (World.block_lt_of_cell? _ _ (hHeld.2.2.2))).trans (hHeld.2.2.2)
               have n0_ := Aside0.mk (Kd.V_below (Kd.V_elderB (by (with_reducible repeat (first | apply Kd.V_alloc | apply Kd.V_drewN | apply Kd.V_drew)); exact HO_0.out) gb279 (Nat.le_of_eq hg.symm)) hb)
               have n1_ := Aside0.mk (Kd.V_below (Kd.V_elderB (by (with_reducible repeat (first | apply Kd.V_alloc | apply Kd.V_drewN | apply Kd.V_drew)); exact HO_1.out) gb279 (Nat.le_of_eq hg.symm)) hb)
               have n2_ := Aside0.mk (Kd.N_below (Kd.N_elderB (by (with_reducible repeat (first | apply Kd.N_alloc | apply Kd.N_drewN | apply Kd.N_drew)); exact HO_9.out) gb279 (Nat.le_of_eq hg.symm)) hb)
               have n3_ := Aside0.mk (Kd.V_below (Kd.V_elderB (by (with_reducible repeat (first | apply Kd.V_alloc | apply Kd.V_drewN | apply Kd.V_drew)); exact HL251_0.out) gb279 (Nat.le_of_eq hg.symm)) hb)
               have n4_ := Aside0.mk (Kd.V_below (Kd.V_elderB (by (with_reducible repeat (first | apply Kd.V_alloc | apply Kd.V_drewN | apply Kd.V_drew)); exact HL252_0.out) gb279 (Nat.le_of_eq hg.symm)) hb)
               have n5_ := Aside0.mk (Kd.V_below (Kd.V_elderB (by (with_reducible repeat (first | apply Kd.V_alloc | apply Kd.V_drewN | apply Kd.V_drew)); exact HL272_0.out) gb279 (Nat.le_of_eq hg.symm)) hb)
               have n6_ := Aside0.mk (Kd.V_below (Kd.V_elderB (by (with_reducible repeat (first | apply Kd.V_alloc | apply Kd.V_drewN | apply Kd.V_drew)); exact HL273_0.out) gb279 (Nat.le_of_eq hg.symm)) hb)
               have n7_ := Aside0.mk (Kd.V_below (Kd.V_elderB (by (with_reducible repeat (first | apply Kd.V_alloc | apply Kd.V_drewN | apply Kd.V_drew)); exact HO276.out) gb279 (Nat.le_of_eq hg.symm)) hb)
               have n8_ := Aside0.mk (Kd.C_below (by repeat (first | (with_reducible exact HR251_0.out) | (with_reducible refine Kd.C_alloc ?_ _) | (with_reducible refine Kd.C_drewN ?_ _) | (with_reducible refine Kd.C_drew ?_) | exact HR251_0.out)) hb)
               have n9_ := Aside0.mk (Kd.C_below (by repeat (first | (with_reducible exact HR252_0.out) | (with_reducible refine Kd.C_alloc ?_ _) | (with_reducible refine Kd.C_drewN ?_ _) | (with_reducible refine Kd.C_drew ?_) | exact HR252_0.out)) hb)
               have n10_ := Aside0.mk (Kd.C_below (by repeat (first | (with_reducible exact HR272_0.out) | (with_reducible refine Kd.C_alloc ?_ _) | (with_reducible refine Kd.C_drewN ?_ _) | (with_reducible refine Kd.C_drew ?_) | exact HR272_0.out)) hb)
               have n11_ := Aside0.mk (Kd.C_below (by repeat (first | (with_reducible exact HR273_0.out) | (with_reducible refine Kd.C_alloc ?_ _) | (with_reducible refine Kd.C_drewN ?_ _) | (with_reducible refine Kd.C_drew ?_) | exact HR273_0.out)) hb)
               have n12_ := Aside0.mk (below_step zhb hb)
               have n13_ := Aside0.mk (hbox)
               have n14_ := Aside0.mk ((by rw [hg]; exact (below_size zhb) : w.heap.size ≤ gb279))
               have n15_ := Aside0.mk ((by rw [hg]; exact (below_size zhb) : w.heap.size ≤ gb279))
               clear HO_0
               clear HO_1
               clear HO_9
               clear HL251_0
               clear HL252_0
               clear HL272_0
               clear HL273_0
               clear HO276
               clear HR251_0
               clear HR252_0
               clear HR272_0
               clear HR273_0
               clear HB
               have HO_0 := n0_
               have HO_1 := n1_
               have HO_9 := n2_
               have HL251_0 := n3_
               have HL252_0 := n4_
               have HL272_0 := n5_
               have HL273_0 := n6_
               have HO276 := n7_
               have HR251_0 := n8_
               have HR252_0 := n9_
               have HR272_0 := n10_
               have HR273_0 := n11_
               have HB := n12_
               have BK279 := n13_
               have GW279 := n14_
               have GE279 := n15_
               clear n0_ n1_ n2_ n3_ n4_ n5_ n6_ n7_ n8_ n9_ n10_ n11_ n12_ n13_ n14_ n15_
               clear hb hbox hg
               refine hK.out _ _ ⟨HS0_, HS1_, HS2_, HS3_⟩ (fun hHeld => ?_)
               clear hK K
               refine norm_ (a' := ?_) ?_ ?_
               rotate_left
               ·show Act.put _ (some 11) _ = _
                simp only [Act.put, zp1, zp2, zp3, i64_w, i32_w]
                rfl
               exact norm_ (by simp only [putAll, Act.put, zp1, zp2, zp3]) (hCont (v275, gb279) _ ⟨hHeld, (by (with_reducible repeat (first | apply Kd.V_alloc | apply Kd.V_drewN | apply Kd.V_drew)); exact Kd.V_mono HL251_0.out (fun _ hk => ⟨hk.1.1, ⟨hk.1.2, hk.2⟩⟩)), (by (with_reducible repeat (first | apply Kd.V_alloc | apply Kd.V_drewN | apply Kd.V_drew)); exact Kd.V_mono HL252_0.out (fun _ hk => ⟨hk.1.1, ⟨hk.1.2, hk.2⟩⟩)), (by (with_reducible repeat (first | apply Kd.V_alloc | apply Kd.V_drewN | apply Kd.V_drew)); exact Kd.V_mono HL272_0.out (fun _ hk => ⟨hk.1.1, ⟨hk.1.2, hk.2⟩⟩)), (by (with_reducible repeat (first | apply Kd.V_alloc | apply Kd.V_drewN | apply Kd.V_drew)); exact Kd.V_mono HL273_0.out (fun _ hk => ⟨hk.1.1, ⟨hk.1.2, hk.2⟩⟩)), (by (with_reducible repeat (first | apply Kd.V_alloc | apply Kd.V_drewN | apply Kd.V_drew)); exact Kd.V_mono HO276.out (fun _ hk => ⟨hk.1.1, ⟨hk.1.2, hk.2⟩⟩)), (by (with_reducible repeat (first | apply Kd.V_alloc | apply Kd.V_drewN | apply Kd.V_drew)); exact Kd.V_mono HO_0.out (fun _ hk => ⟨hk.1.1, ⟨hk.1.2, hk.2⟩⟩)), (by (with_reducible repeat (first | apply Kd.V_alloc | apply Kd.V_drewN | apply Kd.V_drew)); exact Kd.V_mono HO_1.out (fun _ hk => ⟨hk.1.1, ⟨hk.1.2, hk.2⟩⟩)), (by (with_reducible repeat (first | apply Kd.N_alloc | apply Kd.N_drewN | apply Kd.N_drew)); exact HO_9.out), (by (with_reducible repeat (first | refine blk_drewN ?_ _ | refine blk_drew ?_ | refine blk_alloc ?_ _)); exact BK279.out), GW279.out, GE279.out, (by repeat (first | (with_reducible first | exact HB.out | apply below_alloc | apply pw_below_drewN | apply below_drew1 | refine below_set ?_ GE279.out) | exact HB.out))⟩)
              ·skip
               refine box_step ?hg (N := 11) ?hd (cs := #[.slice none 0 0, .int .i64 0]) (t := 68) ?hr ?_; (case hd => rfl); (case hg => rfl); (case hr => first | (go_simp; done) | (go_simp; rfl))
               intro gb279 hg w40 hbox hb
               have HS0_ := (hb.cell (World.block_lt_of_cell? _ _ (hHeld.1))).trans (hHeld.1)
               have HS1_ := (hb.cell (World.block_lt_of_cell? _ _ (hHeld.2.1))).trans (hHeld.2.1)
               have HS2_ := (hb.cell (World.block_lt_of_cell? _ _ (hHeld.2.2.1))).trans (hHeld.2.2.1)
               have HS3_ := (hb.cell (World.block_lt_of_cell? _ _ (hHeld.2.2.2))).trans (hHeld.2.2.2)
               have n0_ := Aside0.mk (Kd.V_below (Kd.V_elderB (by (with_reducible repeat (first | apply Kd.V_alloc | apply Kd.V_drewN | apply Kd.V_drew)); exact HO_0.out) gb279 (Nat.le_of_eq hg.symm)) hb)
               have n1_ := Aside0.mk (Kd.V_below (Kd.V_elderB (by (with_reducible repeat (first | apply Kd.V_alloc | apply Kd.V_drewN | apply Kd.V_drew)); exact HO_1.out) gb279 (Nat.le_of_eq hg.symm)) hb)
               have n2_ := Aside0.mk (Kd.N_below (Kd.N_elderB (by (with_reducible repeat (first | apply Kd.N_alloc | apply Kd.N_drewN | apply Kd.N_drew)); exact HO_9.out) gb279 (Nat.le_of_eq hg.symm)) hb)
               have n3_ := Aside0.mk (Kd.V_below (Kd.V_elderB (by (with_reducible repeat (first | apply Kd.V_alloc | apply Kd.V_drewN | apply Kd.V_drew)); exact HL251_0.out) gb279 (Nat.le_of_eq hg.symm)) hb)
               have n4_ := Aside0.mk (Kd.V_below (Kd.V_elderB (by (with_reducible repeat (first | apply Kd.V_alloc | apply Kd.V_drewN | apply Kd.V_drew)); exact HL252_0.out) gb279 (Nat.le_of_eq hg.symm)) hb)
               have n5_ := Aside0.mk (Kd.V_below (Kd.V_elderB (by (with_reducible repeat (first | apply Kd.V_alloc | apply Kd.V_drewN | apply Kd.V_drew)); exact HL272_0.out) gb279 (Nat.le_of_eq hg.symm)) hb)
               have n6_ := Aside0.mk (Kd.V_below (Kd.V_elderB (by (with_reducible repeat (first | apply Kd.V_alloc | apply Kd.V_drewN | apply Kd.V_drew)); exact HL273_0.out) gb279 (Nat.le_of_eq hg.symm)) hb)
               have n7_ := Aside0.mk (Kd.C_below (by repeat (first | (with_reducible exact HR251_0.out) | (with_reducible refine Kd.C_alloc ?_ _) | (with_reducible refine Kd.C_drewN ?_ _) | (with_reducible refine Kd.C_drew ?_) | exact HR251_0.out)) hb)
               have n8_ := Aside0.mk (Kd.C_below (by repeat (first | (with_reducible exact HR252_0.out) | (with_reducible refine Kd.C_alloc ?_ _) | (with_reducible refine Kd.C_drewN ?_ _) | (with_reducible refine Kd.C_drew ?_) | exact HR252_0.out)) hb)
               have n9_ := Aside0.mk (Kd.C_below (by repeat (first | (with_reducible exact HR272_0.out) | (with_reducible refine Kd.C_alloc ?_ _) | (with_reducible refine Kd.C_drewN ?_ _) | (with_reducible refine Kd.C_drew ?_) | exact HR272_0.out)) hb)
               have n10_ := Aside0.mk (Kd.C_below (by repeat (first | (with_reducible exact HR273_0.out) | (with_reducible refine Kd.C_alloc ?_ _) | (with_reducible refine Kd.C_drewN ?_ _) | (with_reducible refine Kd.C_drew ?_) | exact HR273_0.out)) hb)
               have n11_ := Aside0.mk (below_step zhb hb)
               have n12_ := Aside0.mk (hbox)
               have n13_ := Aside0.mk ((by rw [hg]; exact (below_size zhb) : w.heap.size ≤ gb279))
               have n14_ := Aside0.mk ((by rw [hg]; exact (below_size zhb) : w.heap.size ≤ gb279))
               clear HO_0
               clear HO_1
               clear HO_9
               clear HL251_0
               clear HL252_0
               clear HL272_0
               clear HL273_0
               clear HR251_0
               clear HR252_0
               clear HR272_0
               clear HR273_0
               clear HB
               have HO_0 := n0_
               have HO_1 := n1_
               have HO_9 := n2_
               have HL251_0 := n3_
               have HL252_0 := n4_
               have HL272_0 := n5_
               have HL273_0 := n6_
               have HR251_0 := n7_
               have HR252_0 := n8_
               have HR272_0 := n9_
               have HR273_0 := n10_
               have HB := n11_
               have BK279 := n12_
               have GW279 := n13_
               have GE279 := n14_
               clear n0_ n1_ n2_ n3_ n4_ n5_ n6_ n7_ n8_ n9_ n10_ n11_ n12_ n13_ n14_
               clear hb hbox hg
               refine hK.out _ _ ⟨HS0_, HS1_, HS2_, HS3_⟩ (fun hHeld => ?_)
               clear hK K
               refine norm_ (a' := ?_) ?_ ?_
               rotate_left
               ·show Act.put _ (some 11) _ = _
                simp only [Act.put, zp1, zp2, zp3, i64_w, i32_w]
                rfl
               refine one_ (i := 7) (N := some 37) #[zt, zt, zt, zt, zt, zt, zt, zt, zf, zf, zf, zt, zf, zf] rfl rfl (one_of HT_.out (by kernel_rfl)) (by decide) (fun K hK => ?_)
               refine goes_f (.tmp 30) Try.func108 (by kernel_rfl) rfl #[.agg #[.slice A272_0 ((rd_T68 x0_1 0).f0).length c272_0, .int .i64 ((rd_T68 x0_1 0).f1)], .agg #[.slice A273_0 ((rd_T68 x1_1 0).f0).length c273_0, .int .i64 ((rd_T68 x1_1 0).f1)]] (by rfl) rfl rfl rfl zar ?_
               with_reducible refine (impl_together_1.calls (fun k_ => ((((P0_ k_ ∨ P1_ k_) ∨ w.heap.size ≤ k_) ∧ some k_ ≠ (u9 : Value).ownBlock) ∧ k_ ≠ gb279)) _ _ ((rd_T68 x0_1 0).f0) ((rd_T68 x0_1 0).f1) _ _ ((rd_T68 x1_1 0).f0) ((rd_T68 x1_1 0).f1) t274 t277 true _ ?side1 ?side2 ?side3 A30.out).mono ?_
               (case side1 => exact HL272_0.out)
               (case side2 => repeat (first | exact (by repeat (first | (with_reducible exact HR273_0.out) | (with_reducible refine Kd.C_alloc ?_ _) | (with_reducible refine Kd.C_drewN ?_ _) | (with_reducible refine Kd.C_drew ?_) | exact HR273_0.out)) | (with_reducible refine Kd.C_alloc ?_ _) | (with_reducible refine Kd.C_drewN ?_ _) | (with_reducible refine Kd.C_drew ?_)))
               (case side3 => exact HC273_0.out)
               rintro e w41 ⟨v275, rfl, ho0, hb⟩
               have HS0_ := (hb.cell (World.block_lt_of_cell? _ _ (hHeld.1))).trans (hHeld.1)
               have HS1_ := (hb.cell (World.block_lt_of_cell? _ _ (hHeld.2.1))).trans (hHeld.2.1)
               have HS2_ := (hb.cell (World.block_lt_of_cell? _ _ (hHeld.2.2.1))).trans (hHeld.2.2.1)
               have HS3_ := (hb.cell (World.block_lt_of_cell? _ _ (hHeld.2.2.2))).trans (hHeld.2.2.2)
               refine ⟨_, rfl, ?_⟩
               have n0_ := Aside0.mk (Kd.V_below (by (with_reducible repeat (first | apply Kd.V_alloc | apply Kd.V_drewN | apply Kd.V_drew)); exact HO_0.out) hb)
               have n1_ := Aside0.mk (Kd.V_below (by (with_reducible repeat (first | apply Kd.V_alloc | apply Kd.V_drewN | apply Kd.V_drew)); exact HO_1.out) hb)
               have n2_ := Aside0.mk (Kd.N_below (by (with_reducible repeat (first | apply Kd.N_alloc | apply Kd.N_drewN | apply Kd.N_drew)); exact HO_9.out) hb)
               have n3_ := Aside0.mk (Kd.V_below (by (with_reducible repeat (first | apply Kd.V_alloc | apply Kd.V_drewN | apply Kd.V_drew)); exact HL251_0.out) hb)
               have n4_ := Aside0.mk (Kd.V_below (by (with_reducible repeat (first | apply Kd.V_alloc | apply Kd.V_drewN | apply Kd.V_drew)); exact HL252_0.out) hb)
               have n5_ := Aside0.mk (Kd.V_below (by (with_reducible repeat (first | apply Kd.V_alloc | apply Kd.V_drewN | apply Kd.V_drew)); exact HL272_0.out) hb)
               have n6_ := Aside0.mk (Kd.V_below (by (with_reducible repeat (first | apply Kd.V_alloc | apply Kd.V_drewN | apply Kd.V_drew)); exact HL273_0.out) hb)
               have n7_ := Aside0.mk (Kd.V_lower (Kd.V_mono (ok' := fun k_ => ((P0_ k_ ∨ P1_ k_) ∨ w.heap.size ≤ k_) ∧ some k_ ≠ (u9 : Value).ownBlock ∧ k_ ≠ gb279) ho0 (fun k_ hk_ => ⟨Or.elim hk_ (fun hs_ => hs_.1.1) (fun hn_ => (.inr (Nat.le_trans (below_size (by repeat (first | (with_reducible first | exact HB.out | apply below_alloc | apply pw_below_drewN | apply below_drew1 | refine below_set ?_ GE279.out) | exact HB.out))) hn_))), Or.elim hk_ (fun hs_ => hs_.1.2) (fun hn_ => (Kd.fresh' (Kd.N_lt (by (with_reducible repeat (first | apply Kd.N_alloc | apply Kd.N_drewN | apply Kd.N_drew)); exact HO_9.out)) k_ hn_)), Or.elim hk_ (fun hs_ => hs_.2) (fun hn_ => (Kd.freshB (g := gb279) (o := .cells #[.slice none 0 0, .int .i64 0] 68 (0, 0)) (by (with_reducible repeat (first | refine blk_drewN ?_ _ | refine blk_drew ?_ | refine blk_alloc ?_ _)); exact BK279.out) k_ hn_))⟩)) (below_size (by repeat (first | (with_reducible first | exact HB.out | apply below_alloc | apply pw_below_drewN | apply below_drew1 | refine below_set ?_ GE279.out) | exact HB.out))))
               have n8_ := Aside0.mk (Kd.C_below (by repeat (first | (with_reducible exact HR251_0.out) | (with_reducible refine Kd.C_alloc ?_ _) | (with_reducible refine Kd.C_drewN ?_ _) | (with_reducible refine Kd.C_drew ?_) | exact HR251_0.out)) hb)
               have n9_ := Aside0.mk (Kd.C_below (by repeat (first | (with_reducible exact HR252_0.out) | (with_reducible refine Kd.C_alloc ?_ _) | (with_reducible refine Kd.C_drewN ?_ _) | (with_reducible refine Kd.C_drew ?_) | exact HR252_0.out)) hb)
               have n10_ := Aside0.mk (Kd.C_below (by repeat (first | (with_reducible exact HR272_0.out) | (with_reducible refine Kd.C_alloc ?_ _) | (with_reducible refine Kd.C_drewN ?_ _) | (with_reducible refine Kd.C_drew ?_) | exact HR272_0.out)) hb)
               have n11_ := Aside0.mk (Kd.C_below (by repeat (first | (with_reducible exact HR273_0.out) | (with_reducible refine Kd.C_alloc ?_ _) | (with_reducible refine Kd.C_drewN ?_ _) | (with_reducible refine Kd.C_drew ?_) | exact HR273_0.out)) hb)
               have n12_ := Aside0.mk (blk_below (g := gb279) (o := .cells #[.slice none 0 0, .int .i64 0] 68 (0, 0)) (by (with_reducible repeat (first | refine blk_drewN ?_ _ | refine blk_drew ?_ | refine blk_alloc ?_ _)); exact BK279.out) hb)
               have n13_ := Aside0.mk (below_step (by repeat (first | (with_reducible first | exact HB.out | apply below_alloc | apply pw_below_drewN | apply below_drew1 | refine below_set ?_ GE279.out) | exact HB.out)) hb)
               clear HO_0
               clear HO_1
               clear HO_9
               clear HL251_0
               clear HL252_0
               clear HL272_0
               clear HL273_0
               clear HR251_0
               clear HR252_0
               clear HR272_0
               clear HR273_0
               clear BK279
               clear HB
               have HO_0 := n0_
               have HO_1 := n1_
               have HO_9 := n2_
               have HL251_0 := n3_
               have HL252_0 := n4_
               have HL272_0 := n5_
               have HL273_0 := n6_
               have HO276 := n7_
               have HR251_0 := n8_
               have HR252_0 := n9_
               have HR272_0 := n10_
               have HR273_0 := n11_
               have BK279 := n12_
               have HB := n13_
               clear n0_ n1_ n2_ n3_ n4_ n5_ n6_ n7_ n8_ n9_ n10_ n11_ n12_ n13_
               (try clear hb)
               (try clear hb2)
               (try clear hk)
               (try clear hi)
               (try clear ho0)
               refine hK.out _ _ ⟨HS0_, HS1_, HS2_, HS3_⟩ (fun hHeld => ?_)
               clear hK K
               refine norm_ (a' := ?_) ?_ ?_
               rotate_left
               ·show Act.put _ (some 37) _ = _
                simp only [Act.put, zp1, zp2, zp3, i64_w, i32_w]
                rfl
               refine pure_ (i := 8) (N := some 29) (v := ?_) (a' := ?_) #[zt, zt, zt, zt, zt, zt, zt, zt, zt, zf, zf, zt, zf, zf] rfl rfl (any_of HT_.out (by kernel_rfl)) (fun _ _ _ h => h) (Or.inl ⟨by rfl, ?_⟩) ?_ ?_
               rotate_left
               ·intro w'
                go_simp
                with_reducible rfl
               rotate_left
               ·simp only [Act.put, zp1, zp2, zp3, i64_w, i32_w]
                rfl
               refine pure_ (i := 9) (N := some 38) (v := ?_) (a' := ?_) #[zt, zt, zt, zt, zt, zt, zt, zt, zt, zt, zf, zt, zf, zf] rfl rfl (any_of HT_.out (by kernel_rfl)) (fun _ _ _ h => h) (Or.inl ⟨by rfl, ?_⟩) ?_ ?_
               rotate_left
               ·intro w'
                go_simp
                with_reducible rfl
               rotate_left
               ·simp only [Act.put, zp1, zp2, zp3, i64_w, i32_w]
                rfl
               refine pure_ (i := 10) (N := some 39) (v := ?_) (a' := ?_) #[zt, zt, zt, zt, zt, zt, zt, zt, zt, zt, zt, zt, zf, zf] rfl rfl (any_of HT_.out (by kernel_rfl)) (fun _ _ _ h => h) (Or.inl ⟨by rfl, ?_⟩) ?_ ?_
               rotate_left
               ·intro w'
                go_simp
                with_reducible rfl
               rotate_left
               ·simp only [Act.put, zp1, zp2, zp3, i64_w, i32_w]
                rfl
               exact norm_ (by simp only [putAll, Act.put, zp1, zp2, zp3]) (hCont (v275, gb279) _ ⟨hHeld, (by (with_reducible repeat (first | apply Kd.V_alloc | apply Kd.V_drewN | apply Kd.V_drew)); exact Kd.V_mono HL251_0.out (fun _ hk => ⟨hk.1.1, ⟨hk.1.2, hk.2⟩⟩)), (by (with_reducible repeat (first | apply Kd.V_alloc | apply Kd.V_drewN | apply Kd.V_drew)); exact Kd.V_mono HL252_0.out (fun _ hk => ⟨hk.1.1, ⟨hk.1.2, hk.2⟩⟩)), (by (with_reducible repeat (first | apply Kd.V_alloc | apply Kd.V_drewN | apply Kd.V_drew)); exact Kd.V_mono HL272_0.out (fun _ hk => ⟨hk.1.1, ⟨hk.1.2, hk.2⟩⟩)), (by (with_reducible repeat (first | apply Kd.V_alloc | apply Kd.V_drewN | apply Kd.V_drew)); exact Kd.V_mono HL273_0.out (fun _ hk => ⟨hk.1.1, ⟨hk.1.2, hk.2⟩⟩)), (by (with_reducible repeat (first | apply Kd.V_alloc | apply Kd.V_drewN | apply Kd.V_drew)); exact HO276.out), (by (with_reducible repeat (first | apply Kd.V_alloc | apply Kd.V_drewN | apply Kd.V_drew)); exact Kd.V_mono HO_0.out (fun _ hk => ⟨hk.1.1, ⟨hk.1.2, hk.2⟩⟩)), (by (with_reducible repeat (first | apply Kd.V_alloc | apply Kd.V_drewN | apply Kd.V_drew)); exact Kd.V_mono HO_1.out (fun _ hk => ⟨hk.1.1, ⟨hk.1.2, hk.2⟩⟩)), (by (with_reducible repeat (first | apply Kd.N_alloc | apply Kd.N_drewN | apply Kd.N_drew)); exact HO_9.out), (by (with_reducible repeat (first | refine blk_drewN ?_ _ | refine blk_drew ?_ | refine blk_alloc ?_ _)); exact BK279.out), GW279.out, GE279.out, (by repeat (first | (with_reducible first | exact HB.out | apply below_alloc | apply pw_below_drewN | apply below_drew1 | refine below_set ?_ GE279.out) | exact HB.out))⟩)
             rintro ⟨v275, gb279⟩ w42 ⟨hS_, h0_, h1_, h2_, h3_, h4_, h5_, h6_, h7_, h8_, h9_, h10_, h11_⟩
             have n0_ : Aside0 (Kd.V (Kd.int .i64) 3 w42 w.heap.size (fun k_ => ((P0_ k_ ∨ P1_ k_) ∨ w.heap.size ≤ k_) ∧ some k_ ≠ (u9 : Value).ownBlock ∧ k_ ≠ gb279) (.slice A251_0 ((rd_T68 x0_1 0).f0).length c251_0) ((rd_T68 x0_1 0).f0)) := ⟨h0_⟩
             have n1_ : Aside0 (Kd.V (Kd.int .i64) 3 w42 w.heap.size (fun k_ => ((P0_ k_ ∨ P1_ k_) ∨ w.heap.size ≤ k_) ∧ some k_ ≠ (u9 : Value).ownBlock ∧ k_ ≠ gb279) (.slice A252_0 ((rd_T68 x1_1 0).f0).length c252_0) ((rd_T68 x1_1 0).f0)) := ⟨h1_⟩
             have n2_ : Aside0 (Kd.V (Kd.int .i64) 3 w42 w.heap.size (fun k_ => ((P0_ k_ ∨ P1_ k_) ∨ w.heap.size ≤ k_) ∧ some k_ ≠ (u9 : Value).ownBlock ∧ k_ ≠ gb279) (.slice A272_0 ((rd_T68 x0_1 0).f0).length c272_0) ((rd_T68 x0_1 0).f0)) := ⟨h2_⟩
             have n3_ : Aside0 (Kd.V (Kd.int .i64) 3 w42 w.heap.size (fun k_ => ((P0_ k_ ∨ P1_ k_) ∨ w.heap.size ≤ k_) ∧ some k_ ≠ (u9 : Value).ownBlock ∧ k_ ≠ gb279) (.slice A273_0 ((rd_T68 x1_1 0).f0).length c273_0) ((rd_T68 x1_1 0).f0)) := ⟨h3_⟩
             have n4_ : Aside0 (Kd.V (Kd.int .i64) 3 w42 w.heap.size (fun k_ => ((P0_ k_ ∨ P1_ k_) ∨ w.heap.size ≤ k_) ∧ some k_ ≠ (u9 : Value).ownBlock ∧ k_ ≠ gb279) v275 t274) := ⟨h4_⟩
             have n5_ : Aside0 (Kd.V k68 68 w42 w.heap.size (fun k_ => ((P0_ k_ ∨ P1_ k_) ∨ w.heap.size ≤ k_) ∧ some k_ ≠ (u9 : Value).ownBlock ∧ k_ ≠ gb279) (.slice (some ad251) x0_1.length co35) x0_1) := ⟨h5_⟩
             have n6_ : Aside0 (Kd.V k68 68 w42 w.heap.size (fun k_ => ((P0_ k_ ∨ P1_ k_) ∨ w.heap.size ≤ k_) ∧ some k_ ≠ (u9 : Value).ownBlock ∧ k_ ≠ gb279) (.slice (some ad252) x1_1.length co36) x1_1) := ⟨h6_⟩
             have n7_ : Aside0 (Kd.N k68 68 w42 w.heap.size (fun k_ => ((P0_ k_ ∨ P1_ k_) ∨ w.heap.size ≤ k_) ∧ k_ ≠ gb279) u9 x9_1) := ⟨h7_⟩
             have n8_ : Aside0 (w42.heap[gb279]? = some (.cells #[.slice none 0 0, .int .i64 0] 68 (0, 0))) := ⟨h8_⟩
             have n9_ : Aside0 (w.heap.size ≤ gb279) := ⟨h9_⟩
             have n10_ : Aside0 (w.heap.size ≤ gb279) := ⟨h10_⟩
             have n11_ : Aside0 (Below w.heap.size w w42) := ⟨h11_⟩
             clear HO_0
             clear HO_1
             clear HO_9
             clear HL251_0
             clear HL252_0
             clear HR251_0
             clear HR252_0
             clear HB
             clear h0_ h1_ h2_ h3_ h4_ h5_ h6_ h7_ h8_ h9_ h10_ h11_
             have HL251_0 := n0_
             have HL252_0 := n1_
             have HL272_0 := n2_
             have HL273_0 := n3_
             have HO276 := n4_
             have HO_0 := n5_
             have HO_1 := n6_
             have HO_9 := n7_
             have BK279 := n8_
             have GW279 := n9_
             have GE279 := n10_
             have HB := n11_
             clear n0_ n1_ n2_ n3_ n4_ n5_ n6_ n7_ n8_ n9_ n10_ n11_
             have hHeld : w42.cell? ad251 = some (.slice A272_0 ((rd_T68 x0_1 0).f0).length c272_0) ∧ w42.cell? ⟨ad251.block, ad251.off + 1, none⟩ = some (.int .i64 ((rd_T68 x0_1 0).f1)) ∧ w42.cell? ad252 = some (.slice A273_0 ((rd_T68 x1_1 0).f0).length c273_0) ∧ w42.cell? ⟨ad252.block, ad252.off + 1, none⟩ = some (.int .i64 ((rd_T68 x1_1 0).f1)) := hS_
             obtain ⟨Ao43, co43, eo43⟩ := Kd.V_slice HO276.out
             (first | subst eo43 | (injection eo43 with f1_ f2_ f3_; have f4_ := f1_.symm; have f5_ := f3_.symm; clear f1_ f2_ f3_; subst f4_; subst f5_))
             refine norm_ (a' := ?_) ?_ ?_
             rotate_left
             ·simp only [putAll, Act.put, zp1, zp2, zp3]
              rfl
             refine one_ (i := 12) (N := none) #[zt, zt, zt, zt, zt, zt, zt, zt, zt, zt, zt, zt, zt, zf] rfl rfl (one_of HT_.out (by kernel_rfl)) (by decide) (fun K hK => ?_)
             have hs44 : w42.cell? ⟨gb279, 0, none⟩ = some (.slice none 0 0) := (blk_cell BK279.out 0).trans rfl
             have hfs44 := blk_frozen BK279.out 0
             have hs45 : w42.cell? ⟨gb279, 1, none⟩ = some (.int .i64 0) := (blk_cell BK279.out 1).trans rfl
             have hfs45 := blk_frozen BK279.out 1
             refine skip_ (w1 := ?_) (by rfl) rfl ?_ ?_
             rotate_left
             ·go_simp
              rfl
             refine hK.out _ _ ⟨((cell_far (p := ⟨gb279, _, none⟩) (by first | exact Kd.own_blk (Kd.V_away HO_0.out (fun _ hk => hk.2.2)) | (rw [add_block]; exact Kd.own_blk (Kd.V_away HO_0.out (fun _ hk => hk.2.2))) | (show (Addr.add _ _).block ≠ _; rw [add_block]; exact Kd.own_blk (Kd.V_away HO_0.out (fun _ hk => hk.2.2))) | (dsimp only; exact Kd.own_blk (Kd.V_away HO_0.out (fun _ hk => hk.2.2)))) _).trans (((cell_far (p := ⟨gb279, _, none⟩) (by first | exact Kd.own_blk (Kd.V_away HO_0.out (fun _ hk => hk.2.2)) | (rw [add_block]; exact Kd.own_blk (Kd.V_away HO_0.out (fun _ hk => hk.2.2))) | (show (Addr.add _ _).block ≠ _; rw [add_block]; exact Kd.own_blk (Kd.V_away HO_0.out (fun _ hk => hk.2.2))) | (dsimp only; exact Kd.own_blk (Kd.V_away HO_0.out (fun _ hk => hk.2.2)))) _).trans (hHeld.1)))), ((cell_far (p := ⟨gb279, _, none⟩) (by first | exact Kd.own_blk (Kd.V_away HO_0.out (fun _ hk => hk.2.2)) | (rw [add_block]; exact Kd.own_blk (Kd.V_away HO_0.out (fun _ hk => hk.2.2))) | (show (Addr.add _ _).block ≠ _; rw [add_block]; exact Kd.own_blk (Kd.V_away HO_0.out (fun _ hk => hk.2.2))) | (dsimp only; exact Kd.own_blk (Kd.V_away HO_0.out (fun _ hk => hk.2.2)))) _).trans (((cell_far (p := ⟨gb279, _, none⟩) (by first | exact Kd.own_blk (Kd.V_away HO_0.out (fun _ hk => hk.2.2)) | (rw [add_block]; exact Kd.own_blk (Kd.V_away HO_0.out (fun _ hk => hk.2.2))) | (show (Addr.add _ _).block ≠ _; rw [add_block]; exact Kd.own_blk (Kd.V_away HO_0.out (fun _ hk => hk.2.2))) | (dsimp only; exact Kd.own_blk (Kd.V_away HO_0.out (fun _ hk => hk.2.2)))) _).trans (hHeld.2.1)))), ((cell_far (p := ⟨gb279, _, none⟩) (by first | exact Kd.own_blk (Kd.V_away HO_1.out (fun _ hk => hk.2.2)) | (rw [add_block]; exact Kd.own_blk (Kd.V_away HO_1.out (fun _ hk => hk.2.2))) | (show (Addr.add _ _).block ≠ _; rw [add_block]; exact Kd.own_blk (Kd.V_away HO_1.out (fun _ hk => hk.2.2))) | (dsimp only; exact Kd.own_blk (Kd.V_away HO_1.out (fun _ hk => hk.2.2)))) _).trans (((cell_far (p := ⟨gb279, _, none⟩) (by first | exact Kd.own_blk (Kd.V_away HO_1.out (fun _ hk => hk.2.2)) | (rw [add_block]; exact Kd.own_blk (Kd.V_away HO_1.out (fun _ hk => hk.2.2))) | (show (Addr.add _ _).block ≠ _; rw [add_block]; exact Kd.own_blk (Kd.V_away HO_1.out (fun _ hk => hk.2.2))) | (dsimp only; exact Kd.own_blk (Kd.V_away HO_1.out (fun _ hk => hk.2.2)))) _).trans (hHeld.2.2.1)))), ((cell_far (p := ⟨gb279, _, none⟩) (by first | exact Kd.own_blk (Kd.V_away HO_1.out (fun _ hk => hk.2.2)) | (rw [add_block]; exact Kd.own_blk (Kd.V_away HO_1.out (fun _ hk => hk.2.2))) | (show (Addr.add _ _).block ≠ _; rw [add_block]; exact Kd.own_blk (Kd.V_away HO_1.out (fun _ hk => hk.2.2))) | (dsimp only; exact Kd.own_blk (Kd.V_away HO_1.out (fun _ hk => hk.2.2)))) _).trans (((cell_far (p := ⟨gb279, _, none⟩) (by first | exact Kd.own_blk (Kd.V_away HO_1.out (fun _ hk => hk.2.2)) | (rw [add_block]; exact Kd.own_blk (Kd.V_away HO_1.out (fun _ hk => hk.2.2))) | (show (Addr.add _ _).block ≠ _; rw [add_block]; exact Kd.own_blk (Kd.V_away HO_1.out (fun _ hk => hk.2.2))) | (dsimp only; exact Kd.own_blk (Kd.V_away HO_1.out (fun _ hk => hk.2.2)))) _).trans (hHeld.2.2.2))))⟩ (fun hHeld => ?_)
             clear hK K
             refine pure_ (i := 13) (N := some 12) (v := ?_) (a' := ?_) #[zt, zt, zt, zt, zt, zt, zt, zt, zt, zt, zt, zt, zt, zt] rfl rfl (any_of HT_.out (by kernel_rfl)) (fun _ _ _ h => h) (Or.inl ⟨by rfl, ?_⟩) ?_ ?_
             rotate_left
             ·intro w'
              go_simp
              with_reducible rfl
             rotate_left
             ·simp only [Act.put, zp1, zp2, zp3, i64_w, i32_w]
              rfl
             refine done_ (done_of HT_.out (by kernel_rfl)) ?_
             have n0_ : Aside0 (Kd.V k68 68 ((w42.setCell ⟨gb279, 0, none⟩ (.slice Ao43 t274.length co43)).setCell ⟨gb279, 1, none⟩ (.int .i64 t277)) w.heap.size (fun k_ => ((P0_ k_ ∨ P1_ k_) ∨ w.heap.size ≤ k_) ∧ some k_ ≠ (u9 : Value).ownBlock ∧ k_ ≠ gb279) (.slice (some ad251) x0_1.length co35) x0_1) := ⟨by (with_reducible repeat (first | apply Kd.V_alloc | apply Kd.V_drewN | apply Kd.V_drew)); exact Kd.V_mono (Kd.V_far (p := ⟨gb279, 1, none⟩) (Kd.V_far (p := ⟨gb279, 0, none⟩) (Kd.V_mono HO_0.out (fun k_ hk => (⟨hk, hk.2.2⟩ : _ ∧ k_ ≠ gb279))) (fun _ hk => hk.2) (.slice Ao43 t274.length co43)) (fun _ hk => hk.2) (.int .i64 t277)) (fun _ hk => ⟨hk.1.1, ⟨hk.1.2.1, hk.1.2.2⟩⟩)⟩
             have n1_ : Aside0 (Kd.V k68 68 ((w42.setCell ⟨gb279, 0, none⟩ (.slice Ao43 t274.length co43)).setCell ⟨gb279, 1, none⟩ (.int .i64 t277)) w.heap.size (fun k_ => ((P0_ k_ ∨ P1_ k_) ∨ w.heap.size ≤ k_) ∧ some k_ ≠ (u9 : Value).ownBlock ∧ k_ ≠ gb279) (.slice (some ad252) x1_1.length co36) x1_1) := ⟨by (with_reducible repeat (first | apply Kd.V_alloc | apply Kd.V_drewN | apply Kd.V_drew)); exact Kd.V_mono (Kd.V_far (p := ⟨gb279, 1, none⟩) (Kd.V_far (p := ⟨gb279, 0, none⟩) (Kd.V_mono HO_1.out (fun k_ hk => (⟨hk, hk.2.2⟩ : _ ∧ k_ ≠ gb279))) (fun _ hk => hk.2) (.slice Ao43 t274.length co43)) (fun _ hk => hk.2) (.int .i64 t277)) (fun _ hk => ⟨hk.1.1, ⟨hk.1.2.1, hk.1.2.2⟩⟩)⟩
             have n2_ : Aside0 (Kd.N k68 68 ((w42.setCell ⟨gb279, 0, none⟩ (.slice Ao43 t274.length co43)).setCell ⟨gb279, 1, none⟩ (.int .i64 t277)) w.heap.size (fun k_ => ((P0_ k_ ∨ P1_ k_) ∨ w.heap.size ≤ k_) ∧ k_ ≠ gb279) u9 x9_1) := ⟨by (with_reducible repeat (first | apply Kd.N_alloc | apply Kd.N_drewN | apply Kd.N_drew)); exact Kd.N_mono (Kd.N_far (p := ⟨gb279, 1, none⟩) (Kd.N_far (p := ⟨gb279, 0, none⟩) (Kd.N_mono HO_9.out (fun k_ hk => (⟨hk, hk.2⟩ : _ ∧ k_ ≠ gb279))) (fun _ hk => hk.2) (.slice Ao43 t274.length co43)) (fun _ hk => hk.2) (.int .i64 t277)) (fun _ hk => ⟨hk.1.1, hk.1.2⟩)⟩
             have n3_ : Aside0 (Kd.V (Kd.int .i64) 3 ((w42.setCell ⟨gb279, 0, none⟩ (.slice Ao43 t274.length co43)).setCell ⟨gb279, 1, none⟩ (.int .i64 t277)) w.heap.size (fun k_ => ((P0_ k_ ∨ P1_ k_) ∨ w.heap.size ≤ k_) ∧ some k_ ≠ (u9 : Value).ownBlock ∧ k_ ≠ gb279) (.slice A251_0 ((rd_T68 x0_1 0).f0).length c251_0) ((rd_T68 x0_1 0).f0)) := ⟨by (with_reducible repeat (first | apply Kd.V_alloc | apply Kd.V_drewN | apply Kd.V_drew)); exact Kd.V_mono (Kd.V_far (p := ⟨gb279, 1, none⟩) (Kd.V_far (p := ⟨gb279, 0, none⟩) (Kd.V_mono HL251_0.out (fun k_ hk => (⟨hk, hk.2.2⟩ : _ ∧ k_ ≠ gb279))) (fun _ hk => hk.2) (.slice Ao43 t274.length co43)) (fun _ hk => hk.2) (.int .i64 t277)) (fun _ hk => ⟨hk.1.1, ⟨hk.1.2.1, hk.1.2.2⟩⟩)⟩
             have n4_ : Aside0 (Kd.V (Kd.int .i64) 3 ((w42.setCell ⟨gb279, 0, none⟩ (.slice Ao43 t274.length co43)).setCell ⟨gb279, 1, none⟩ (.int .i64 t277)) w.heap.size (fun k_ => ((P0_ k_ ∨ P1_ k_) ∨ w.heap.size ≤ k_) ∧ some k_ ≠ (u9 : Value).ownBlock ∧ k_ ≠ gb279) (.slice A252_0 ((rd_T68 x1_1 0).f0).length c252_0) ((rd_T68 x1_1 0).f0)) := ⟨by (with_reducible repeat (first | apply Kd.V_alloc | apply Kd.V_drewN | apply Kd.V_drew)); exact Kd.V_mono (Kd.V_far (p := ⟨gb279, 1, none⟩) (Kd.V_far (p := ⟨gb279, 0, none⟩) (Kd.V_mono HL252_0.out (fun k_ hk => (⟨hk, hk.2.2⟩ : _ ∧ k_ ≠ gb279))) (fun _ hk => hk.2) (.slice Ao43 t274.length co43)) (fun _ hk => hk.2) (.int .i64 t277)) (fun _ hk => ⟨hk.1.1, ⟨hk.1.2.1, hk.1.2.2⟩⟩)⟩
             have n5_ : Aside0 (Kd.V (Kd.int .i64) 3 ((w42.setCell ⟨gb279, 0, none⟩ (.slice Ao43 t274.length co43)).setCell ⟨gb279, 1, none⟩ (.int .i64 t277)) w.heap.size (fun k_ => ((P0_ k_ ∨ P1_ k_) ∨ w.heap.size ≤ k_) ∧ some k_ ≠ (u9 : Value).ownBlock ∧ k_ ≠ gb279) (.slice A272_0 ((rd_T68 x0_1 0).f0).length c272_0) ((rd_T68 x0_1 0).f0)) := ⟨by (with_reducible repeat (first | apply Kd.V_alloc | apply Kd.V_drewN | apply Kd.V_drew)); exact Kd.V_mono (Kd.V_far (p := ⟨gb279, 1, none⟩) (Kd.V_far (p := ⟨gb279, 0, none⟩) (Kd.V_mono HL272_0.out (fun k_ hk => (⟨hk, hk.2.2⟩ : _ ∧ k_ ≠ gb279))) (fun _ hk => hk.2) (.slice Ao43 t274.length co43)) (fun _ hk => hk.2) (.int .i64 t277)) (fun _ hk => ⟨hk.1.1, ⟨hk.1.2.1, hk.1.2.2⟩⟩)⟩
             have n6_ : Aside0 (Kd.V (Kd.int .i64) 3 ((w42.setCell ⟨gb279, 0, none⟩ (.slice Ao43 t274.length co43)).setCell ⟨gb279, 1, none⟩ (.int .i64 t277)) w.heap.size (fun k_ => ((P0_ k_ ∨ P1_ k_) ∨ w.heap.size ≤ k_) ∧ some k_ ≠ (u9 : Value).ownBlock ∧ k_ ≠ gb279) (.slice A273_0 ((rd_T68 x1_1 0).f0).length c273_0) ((rd_T68 x1_1 0).f0)) := ⟨by (with_reducible repeat (first | apply Kd.V_alloc | apply Kd.V_drewN | apply Kd.V_drew)); exact Kd.V_mono (Kd.V_far (p := ⟨gb279, 1, none⟩) (Kd.V_far (p := ⟨gb279, 0, none⟩) (Kd.V_mono HL273_0.out (fun k_ hk => (⟨hk, hk.2.2⟩ : _ ∧ k_ ≠ gb279))) (fun _ hk => hk.2) (.slice Ao43 t274.length co43)) (fun _ hk => hk.2) (.int .i64 t277)) (fun _ hk => ⟨hk.1.1, ⟨hk.1.2.1, hk.1.2.2⟩⟩)⟩
             have n7_ : Aside0 (Kd.V (Kd.int .i64) 3 ((w42.setCell ⟨gb279, 0, none⟩ (.slice Ao43 t274.length co43)).setCell ⟨gb279, 1, none⟩ (.int .i64 t277)) w.heap.size (fun k_ => ((P0_ k_ ∨ P1_ k_) ∨ w.heap.size ≤ k_) ∧ some k_ ≠ (u9 : Value).ownBlock ∧ k_ ≠ gb279) (.slice Ao43 t274.length co43) t274) := ⟨by (with_reducible repeat (first | apply Kd.V_alloc | apply Kd.V_drewN | apply Kd.V_drew)); exact Kd.V_mono (Kd.V_far (p := ⟨gb279, 1, none⟩) (Kd.V_far (p := ⟨gb279, 0, none⟩) (Kd.V_mono HO276.out (fun k_ hk => (⟨hk, hk.2.2⟩ : _ ∧ k_ ≠ gb279))) (fun _ hk => hk.2) (.slice Ao43 t274.length co43)) (fun _ hk => hk.2) (.int .i64 t277)) (fun _ hk => ⟨hk.1.1, ⟨hk.1.2.1, hk.1.2.2⟩⟩)⟩
             have n8_ : Aside0 (((w42.setCell ⟨gb279, 0, none⟩ (.slice Ao43 t274.length co43)).setCell ⟨gb279, 1, none⟩ (.int .i64 t277)).heap[gb279]? = some (.cells #[.slice Ao43 t274.length co43, .int .i64 t277] 68 (0, 0))) := ⟨by (with_reducible repeat (first | refine blk_drewN ?_ _ | refine blk_drew ?_ | refine blk_alloc ?_ _)); refine blk_put (cs := #[.slice Ao43 t274.length co43, .int .i64 0]) ?_ 1 _ rfl; (with_reducible repeat (first | refine blk_drewN ?_ _ | refine blk_drew ?_ | refine blk_alloc ?_ _)); refine blk_put (cs := #[.slice none 0 0, .int .i64 0]) ?_ 0 _ rfl; (with_reducible repeat (first | refine blk_drewN ?_ _ | refine blk_drew ?_ | refine blk_alloc ?_ _)); exact BK279.out⟩
             have n9_ : Aside0 (Below w.heap.size w ((w42.setCell ⟨gb279, 0, none⟩ (.slice Ao43 t274.length co43)).setCell ⟨gb279, 1, none⟩ (.int .i64 t277))) := ⟨by repeat (first | (with_reducible first | exact HB.out | apply below_alloc | apply pw_below_drewN | apply below_drew1 | refine below_set ?_ GE279.out) | exact HB.out)⟩
             (try clear HO_0)
             (try clear HO_1)
             (try clear HO_9)
             (try clear HL251_0)
             (try clear HL252_0)
             (try clear HL272_0)
             (try clear HL273_0)
             (try clear HO276)
             (try clear BK279)
             (try clear HB)
             generalize ((w42.setCell ⟨gb279, 0, none⟩ (.slice Ao43 t274.length co43)).setCell ⟨gb279, 1, none⟩ (.int .i64 t277)) = w46 at n0_ n1_ n2_ n3_ n4_ n5_ n6_ n7_ n8_ n9_ ⊢
             have HO_0 := n0_
             have HO_1 := n1_
             have HO_9 := n2_
             have HL251_0 := n3_
             have HL252_0 := n4_
             have HL272_0 := n5_
             have HL273_0 := n6_
             have HO276 := n7_
             have BK279 := n8_
             have HB := n9_
             clear n0_ n1_ n2_ n3_ n4_ n5_ n6_ n7_ n8_ n9_
             have hcz47_0 : w46.cell? ⟨gb279, 0, none⟩ = some (.slice Ao43 t274.length co43) := (blk_cell BK279.out 0).trans rfl
             have hcz47_1 : w46.cell? ⟨gb279, 1, none⟩ = some (.int .i64 t277) := (blk_cell BK279.out 1).trans rfl
             have hfz47_0 := blk_frozen BK279.out 0
             have hfz47_1 := blk_frozen BK279.out 1
             try go_wp2_with (first | ((with_reducible refine gate_builtin (b := .append) (xs := #[.tmp 41, .tmp 43]) rfl ?_); (try (refine gate_guard (by rfl) ?_; dsimp only)); at_builtin; refine Kd.N_append k68 (w0 := w) w.heap.size rfl (.tmp 41) (.tmp 43) 33 68 (.agg #[(.slice none 0 0), (.int .i64 0)]) 32 rfl Try.underlying33 info68 rfl (by decide) (by omega) u9 x9_1 (⟨t274, t277⟩ : S68) [.slice Ao43 t274.length co43, .int .i64 t277] (fun k_ => ((P0_ k_ ∨ P1_ k_) ∨ w.heap.size ≤ k_) ∧ k_ ≠ gb279) (fun k_ => ((fun k_ => ((P0_ k_ ∨ P1_ k_) ∨ w.heap.size ≤ k_) ∧ k_ ≠ gb279)) k_ ∧ some k_ ≠ (u9 : Value).ownBlock) rfl rfl ?aP (fun _ hk => hk) ?aF ?aO ?aB ?aS ?aL ?_; (case aP => exact (k68_mkF _ _ (⟨t274, t277⟩ : S68) (Kd.V_reads' (Kd.V_mono (ok' := (fun k_ => ((fun k_ => ((P0_ k_ ∨ P1_ k_) ∨ w.heap.size ≤ k_) ∧ k_ ≠ gb279)) k_ ∧ some k_ ≠ (u9 : Value).ownBlock)) (HO276.out) (fun k_ hk => ⟨⟨hk.1, hk.2.2⟩, hk.2.1⟩))).2.1 (Kd.V_F (Kd.V_mono (ok' := (fun k_ => ((fun k_ => ((P0_ k_ ∨ P1_ k_) ∨ w.heap.size ≤ k_) ∧ k_ ≠ gb279)) k_ ∧ some k_ ≠ (u9 : Value).ownBlock)) (HO276.out) (fun k_ hk => ⟨⟨hk.1, hk.2.2⟩, hk.2.1⟩))))); (case aB => exact (by repeat (first | (with_reducible first | exact HB.out | apply below_alloc | apply pw_below_drewN | apply below_drew1 | refine below_set ?_ GE279.out) | exact HB.out))); (case aF => exact (fun k_ hk => ⟨(.inr (Nat.le_trans (below_size (by repeat (first | (with_reducible first | exact HB.out | apply below_alloc | apply pw_below_drewN | apply below_drew1 | refine below_set ?_ GE279.out) | exact HB.out))) hk)), Kd.freshB (g := gb279) (o := .cells #[.slice Ao43 t274.length co43, .int .i64 t277] 68 (0, 0)) (by (with_reducible repeat (first | refine blk_drewN ?_ _ | refine blk_drew ?_ | refine blk_alloc ?_ _)); exact BK279.out) k_ hk⟩)); (case aO => exact (by (with_reducible repeat (first | apply Kd.N_alloc | apply Kd.N_drewN | apply Kd.N_drew)); exact HO_9.out)); (case aS => exact (below_size (by repeat (first | (with_reducible first | exact HB.out | apply below_alloc | apply pw_below_drewN | apply below_drew1 | refine below_set ?_ GE279.out) | exact HB.out)))); (case aL => have := LMc32.out; omega); intro v281 w48 ho hb hg hat; rw [← Ny280.out] at ho; have n0_ := Aside0.mk (Kd.V_afterv (ok := (fun k_ => ((P0_ k_ ∨ P1_ k_) ∨ w.heap.size ≤ k_) ∧ k_ ≠ gb279)) (by (with_reducible repeat (first | apply Kd.V_alloc | apply Kd.V_drewN | apply Kd.V_drew)); exact Kd.V_mono HO_0.out (fun _ hk => ⟨⟨hk.1, hk.2.2⟩, hk.2.1⟩)) hg hat); have n1_ := Aside0.mk (Kd.V_afterv (ok := (fun k_ => ((P0_ k_ ∨ P1_ k_) ∨ w.heap.size ≤ k_) ∧ k_ ≠ gb279)) (by (with_reducible repeat (first | apply Kd.V_alloc | apply Kd.V_drewN | apply Kd.V_drew)); exact Kd.V_mono HO_1.out (fun _ hk => ⟨⟨hk.1, hk.2.2⟩, hk.2.1⟩)) hg hat); have n2_ := Aside0.mk (Kd.V_afterv (ok := (fun k_ => ((P0_ k_ ∨ P1_ k_) ∨ w.heap.size ≤ k_) ∧ k_ ≠ gb279)) (by (with_reducible repeat (first | apply Kd.V_alloc | apply Kd.V_drewN | apply Kd.V_drew)); exact Kd.V_mono HL251_0.out (fun _ hk => ⟨⟨hk.1, hk.2.2⟩, hk.2.1⟩)) hg hat); have n3_ := Aside0.mk (Kd.V_afterv (ok := (fun k_ => ((P0_ k_ ∨ P1_ k_) ∨ w.heap.size ≤ k_) ∧ k_ ≠ gb279)) (by (with_reducible repeat (first | apply Kd.V_alloc | apply Kd.V_drewN | apply Kd.V_drew)); exact Kd.V_mono HL252_0.out (fun _ hk => ⟨⟨hk.1, hk.2.2⟩, hk.2.1⟩)) hg hat); have n4_ := Aside0.mk (Kd.V_afterv (ok := (fun k_ => ((P0_ k_ ∨ P1_ k_) ∨ w.heap.size ≤ k_) ∧ k_ ≠ gb279)) (by (with_reducible repeat (first | apply Kd.V_alloc | apply Kd.V_drewN | apply Kd.V_drew)); exact Kd.V_mono HL272_0.out (fun _ hk => ⟨⟨hk.1, hk.2.2⟩, hk.2.1⟩)) hg hat); have n5_ := Aside0.mk (Kd.V_afterv (ok := (fun k_ => ((P0_ k_ ∨ P1_ k_) ∨ w.heap.size ≤ k_) ∧ k_ ≠ gb279)) (by (with_reducible repeat (first | apply Kd.V_alloc | apply Kd.V_drewN | apply Kd.V_drew)); exact Kd.V_mono HL273_0.out (fun _ hk => ⟨⟨hk.1, hk.2.2⟩, hk.2.1⟩)) hg hat); have n6_ := Aside0.mk (Kd.V_afterv (ok := (fun k_ => ((P0_ k_ ∨ P1_ k_) ∨ w.heap.size ≤ k_) ∧ k_ ≠ gb279)) (by (with_reducible repeat (first | apply Kd.V_alloc | apply Kd.V_drewN | apply Kd.V_drew)); exact Kd.V_mono HO276.out (fun _ hk => ⟨⟨hk.1, hk.2.2⟩, hk.2.1⟩)) hg hat); have n7_ := Aside0.mk (blk_grown (g := gb279) (o := .cells #[.slice Ao43 t274.length co43, .int .i64 t277] 68 (0, 0)) (by (with_reducible repeat (first | refine blk_drewN ?_ _ | refine blk_drew ?_ | refine blk_alloc ?_ _)); exact BK279.out) hg (Kd.N_away HO_9.out (fun _ hk => hk.2))); have n8_ := Aside0.mk (hb); have n9_ := Aside0.mk (ho); clear HO_0; clear HO_1; clear HL251_0; clear HL252_0; clear HL272_0; clear HL273_0; clear HO276; clear BK279; clear HB; clear HO_9; have HO_0 := n0_; have HO_1 := n1_; have HL251_0 := n2_; have HL252_0 := n3_; have HL272_0 := n4_; have HL273_0 := n5_; have HO276 := n6_; have BK279 := n7_; have HB := n8_; have HO282 := n9_; clear n0_ n1_ n2_ n3_ n4_ n5_ n6_ n7_ n8_ n9_; clear ho hb hg hat))
             have n0_ := Aside0.mk (Kd.V_drew HO_0.out)
             have n1_ := Aside0.mk (Kd.V_drew HO_1.out)
             have n2_ := Aside0.mk (Kd.V_drew HL251_0.out)
             have n3_ := Aside0.mk (Kd.V_drew HL252_0.out)
             have n4_ := Aside0.mk (Kd.V_drew HL272_0.out)
             have n5_ := Aside0.mk (Kd.V_drew HL273_0.out)
             have n6_ := Aside0.mk (Kd.V_drew HO276.out)
             have n7_ := Aside0.mk (Kd.N_drew HO282.out)
             have n8_ := Aside0.mk (blk_drew BK279.out)
             have n9_ := Aside0.mk (below_drew1 HB.out)
             clear HO_0
             clear HO_1
             clear HL251_0
             clear HL252_0
             clear HL272_0
             clear HL273_0
             clear HO276
             clear HO282
             clear BK279
             clear HB
             have HO_0 := n0_
             have HO_1 := n1_
             have HL251_0 := n2_
             have HL252_0 := n3_
             have HL272_0 := n4_
             have HL273_0 := n5_
             have HO276 := n6_
             have HO282 := n7_
             have BK279 := n8_
             have HB := n9_
             clear n0_ n1_ n2_ n3_ n4_ n5_ n6_ n7_ n8_ n9_
             have q50 : (1 : Int) ≤ ((x0_1.length : Int) : Int) := zod
             obtain ⟨i050, hi050, _, hsz50, _⟩ := info_parts info68
             have hroom50 : x0_1.length ≤ co35 := (Kd.V_reads' HO_0.out).2.1
             have hC50 : Kd.F k68 _ _ (some ad251) x0_1.length x0_1 := (Kd.V_at (base := w.heap.size) HO_0.out).2.2
             have hcut50 := cut_from (P := Try.prog) 33 68 .i64 Try.underlying33 hi050 2 hsz50 (some ad251) x0_1.length co35 1 (by omega) q50
             have hr50 := Kd.F_cut (m := (1 : Int).toNat) (c := co35) hC50 (by omega) hroom50
             obtain ⟨A50, hA50⟩ : ∃ A1, A1 = (if co35 = (1 : Int).toNat then (some ad251) else ((some ad251) : Option Addr).map (·.add ((1 : Int).toNat * 2))) := ⟨_, rfl⟩
             obtain ⟨c50, hc50⟩ : ∃ c1, c1 = co35 - (1 : Int).toNat := ⟨_, rfl⟩
             have hy50 : y283.length = x0_1.length - (1 : Int).toNat := (by rw [Ny283.out, List.length_drop] <;> omega)
             rw [show (x0_1).drop (1 : Int).toNat = y283 from Ny283.out.symm] at hr50
             replace hr50 : Kd.F k68 _ _ A50 y283.length y283 := (by rw [hA50]; exact hr50)
             rw [← hy50, ← hA50, ← hc50] at hcut50
             have HO287 := Aside0.mk (show Kd.V k68 68 _ w.heap.size _ (.slice A50 y283.length c50) y283 from Kd.V_mk (by rw [hy50, hc50]; exact Nat.sub_le_sub_right hroom50 _) hr50)
             have HC287 := Aside0.mk (show y283.length ≤ c50 from by rw [hy50, hc50]; exact Nat.sub_le_sub_right hroom50 _)
             clear hr50 hC50 hroom50 hi050 hsz50 hc50
             have KY50 := Aside0.mk hy50
             have KA50 := Aside0.mk hA50
             clear hy50 hA50
             replace q50 := eq_true q50
             have q51 : (1 : Int) ≤ ((x1_1.length : Int) : Int) := zod
             obtain ⟨i051, hi051, _, hsz51, _⟩ := info_parts info68
             have hroom51 : x1_1.length ≤ co36 := (Kd.V_reads' HO_1.out).2.1
             have hC51 : Kd.F k68 _ _ (some ad252) x1_1.length x1_1 := (Kd.V_at (base := w.heap.size) HO_1.out).2.2
             have hcut51 := cut_from (P := Try.prog) 33 68 .i64 Try.underlying33 hi051 2 hsz51 (some ad252) x1_1.length co36 1 (by omega) q51
             have hr51 := Kd.F_cut (m := (1 : Int).toNat) (c := co36) hC51 (by omega) hroom51
             obtain ⟨A51, hA51⟩ : ∃ A1, A1 = (if co36 = (1 : Int).toNat then (some ad252) else ((some ad252) : Option Addr).map (·.add ((1 : Int).toNat * 2))) := ⟨_, rfl⟩
             obtain ⟨c51, hc51⟩ : ∃ c1, c1 = co36 - (1 : Int).toNat := ⟨_, rfl⟩
             have hy51 : y288.length = x1_1.length - (1 : Int).toNat := (by rw [Ny288.out, List.length_drop] <;> omega)
             rw [show (x1_1).drop (1 : Int).toNat = y288 from Ny288.out.symm] at hr51
             replace hr51 : Kd.F k68 _ _ A51 y288.length y288 := (by rw [hA51]; exact hr51)
             rw [← hy51, ← hA51, ← hc51] at hcut51
             have HO292 := Aside0.mk (show Kd.V k68 68 _ w.heap.size _ (.slice A51 y288.length c51) y288 from Kd.V_mk (by rw [hy51, hc51]; exact Nat.sub_le_sub_right hroom51 _) hr51)
             have HC292 := Aside0.mk (show y288.length ≤ c51 from by rw [hy51, hc51]; exact Nat.sub_le_sub_right hroom51 _)
             clear hr51 hC51 hroom51 hi051 hsz51 hc51
             have KY51 := Aside0.mk hy51
             have KA51 := Aside0.mk hA51
             clear hy51 hA51
             replace q51 := eq_true q51
             refine start_ (n := 6) (S := fun w' => True) (ds := []) #[zf, zf, zf, zf, zf, zf] (by kernel_rfl) rfl rfl trivial (fun hHeld => ?_)
             generalize w48.drew = w49 at HO_0 HO_1 HL251_0 HL252_0 HL272_0 HL273_0 HO276 HO282 BK279 HB HO287 HO292 hHeld ⊢
             refine pure_ (i := 0) (N := some 45) (v := ?_) (a' := ?_) #[zt, zf, zf, zf, zf, zf] rfl rfl (by kernel_rfl) (fun _ _ _ h => h) (Or.inl ⟨by rfl, ?_⟩) ?_ ?_
             rotate_left
             ·intro w'
              go_simp
              with_reducible rfl
             rotate_left
             ·simp only [Act.put, zp1, zp2, zp3, i64_w, i32_w]
              rfl
             refine pure_ (i := 1) (N := some 46) (v := ?_) (a' := ?_) #[zt, zt, zf, zf, zf, zf] rfl rfl (by kernel_rfl) (fun _ _ _ h => h) (Or.inl ⟨by rfl, ?_⟩) ?_ ?_
             rotate_left
             ·intro w'
              go_simp
              with_reducible rfl
             rotate_left
             ·simp only [Act.put, zp1, zp2, zp3, i64_w, i32_w]
              rfl
             refine pure_ (i := 2) (N := some 47) (v := ?_) (a' := ?_) #[zt, zt, zt, zf, zf, zf] rfl rfl (by kernel_rfl) (fun _ _ _ h => h) (Or.inl ⟨by rfl, ?_⟩) ?_ ?_
             rotate_left
             ·intro w'
              go_simp
              with_reducible rfl
             rotate_left
             ·simp only [Act.put, zp1, zp2, zp3, i64_w, i32_w]
              rfl
             refine pure_ (i := 3) (N := some 48) (v := ?_) (a' := ?_) #[zt, zt, zt, zt, zf, zf] rfl rfl (by kernel_rfl) (fun _ _ _ h => h) (Or.inl ⟨by rfl, ?_⟩) ?_ ?_
             rotate_left
             ·intro w'
              go_simp
              with_reducible rfl
             rotate_left
             ·simp only [Act.put, zp1, zp2, zp3, i64_w, i32_w]
              rfl
             refine pure_ (i := 4) (N := some 0) (v := ?_) (a' := ?_) #[zt, zt, zt, zt, zt, zf] rfl rfl (by kernel_rfl) (fun _ _ _ h => h) (Or.inl ⟨by rfl, ?_⟩) ?_ ?_
             rotate_left
             ·intro w'
              go_simp
              with_reducible rfl
             rotate_left
             ·simp only [Act.put, zp1, zp2, zp3, i64_w, i32_w]
              rfl
             refine pure_ (i := 5) (N := some 1) (v := ?_) (a' := ?_) #[zt, zt, zt, zt, zt, zt] rfl rfl (by kernel_rfl) (fun _ _ _ h => h) (Or.inl ⟨by rfl, ?_⟩) ?_ ?_
             rotate_left
             ·intro w'
              go_simp
              with_reducible rfl
             rotate_left
             ·simp only [Act.put, zp1, zp2, zp3, i64_w, i32_w]
              rfl
             refine done_ (by kernel_rfl) ?_
             try go_wp2
             go_roundg k1
             case measure => have := HK1.out; omega
             case rel => exact ⟨(y283), (y288), (y280), H', ⟨by have := HK1.out; omega⟩, ⟨by (with_reducible repeat (first | apply Kd.V_alloc | apply Kd.V_drewN | apply Kd.V_drew)); exact Kd.V_mono HO287.out (fun _ hk => ⟨hk.1.1, hk.2⟩)⟩, ⟨by (with_reducible repeat (first | apply Kd.V_alloc | apply Kd.V_drewN | apply Kd.V_drew)); exact Kd.V_mono HO292.out (fun _ hk => ⟨hk.1.1, hk.2⟩)⟩, ⟨by (with_reducible repeat (first | apply Kd.N_alloc | apply Kd.N_drewN | apply Kd.N_drew)); exact Kd.N_mono HO282.out (fun _ hk => hk.1)⟩, ⟨by repeat (first | (with_reducible first | exact HB.out | apply below_alloc | apply pw_below_drewN | apply below_drew1 | refine below_set ?_ GE279.out) | exact HB.out)⟩⟩
            ·rw [if_neg c34] at H
             exact absurd H (by simp)
           ·rw [if_neg c33] at H
            exact absurd H (by simp)
          ·rw [if_neg c32] at H
           exact absurd H (by simp)
         ·replace c31 := Bool.eq_false_iff.mpr c31
          subst c31
          have H1 : (if 1 ≤ (x0_1.length : Int) then (if 1 ≤ (x1_1.length : Int) then (impl_merged_impl_Item__impl_cmpItem_impl_together_1.l0 k1 (x0_1.drop 1) (x1_1.drop 1) x9_1) else (none)) else (none)) = some r := by rw [if_neg (show ¬ (false = true) by decide)] at H; exact H
          clear H
          have H := H1
          clear H1
          by_cases c52 : 1 ≤ (x0_1.length : Int)
          ·rw [if_pos c52] at H
           have c52b0 := eq_true c52
           have c52b1 : decide (1 ≤ (x0_1.length : Int)) = true := decide_eq_true c52
           clear c52
           obtain ⟨y293, hy293⟩ : ∃ y_ : List (S68), y_ = (x0_1.drop 1) := ⟨_, rfl⟩
           replace H : (if 1 ≤ (x1_1.length : Int) then (impl_merged_impl_Item__impl_cmpItem_impl_together_1.l0 k1 y293 (x1_1.drop 1) x9_1) else (none)) = some r := by first | (rw [hy293]; with_reducible exact H) | (have H2_ := (Option.bind_some _ _).symm.trans H; rw [hy293]; with_reducible exact H2_) | (have H2_ := (Option.bind_some _ _).symm.trans H; with_reducible exact H2_) | with_reducible exact H | (rw [hy293]; exact H) | exact H
           have Ny293 := Aside0.mk hy293
           clear hy293
           by_cases c53 : 1 ≤ (x1_1.length : Int)
           ·rw [if_pos c53] at H
            have c53b0 := eq_true c53
            have c53b1 : decide (1 ≤ (x1_1.length : Int)) = true := decide_eq_true c53
            clear c53
            obtain ⟨y298, hy298⟩ : ∃ y_ : List (S68), y_ = (x1_1.drop 1) := ⟨_, rfl⟩
            replace H : (impl_merged_impl_Item__impl_cmpItem_impl_together_1.l0 k1 y293 y298 x9_1) = some r := by first | (rw [hy298]; with_reducible exact H) | (have H2_ := (Option.bind_some _ _).symm.trans H; rw [hy298]; with_reducible exact H2_) | (have H2_ := (Option.bind_some _ _).symm.trans H; with_reducible exact H2_) | with_reducible exact H | (rw [hy298]; exact H) | exact H
            have Ny298 := Aside0.mk hy298
            clear hy298
            have H' := Aside0.mk H
            clear H
            obtain ⟨Ao54, co54, eo54⟩ := Kd.V_slice HO_0.out
            subst eo54
            obtain ⟨Ao55, co55, eo55⟩ := Kd.V_slice HO_1.out
            subst eo55
            try go_wp2
            have n0_ := Aside0.mk (Kd.V_drew HO_0.out)
            have n1_ := Aside0.mk (Kd.V_drew HO_1.out)
            have n2_ := Aside0.mk (Kd.N_drew HO_9.out)
            have n3_ := Aside0.mk (below_drew1 HB.out)
            clear HO_0
            clear HO_1
            clear HO_9
            clear HB
            have HO_0 := n0_
            have HO_1 := n1_
            have HO_9 := n2_
            have HB := n3_
            clear n0_ n1_ n2_ n3_
            have p251 : 0 ≤ (0 : Int) := (by omega)
            have q251 : 0 < (x0_1.length : Int) := zod
            obtain ⟨ad251, A251_0, c251_0, e251, hx251_0, hx251_1, hl251_0, hi251_0⟩ := at_T68 (Kd.V_reads' HO_0.out).2.2 0 p251 q251
            cases e251
            obtain ⟨ce251, hce251, hMe251, hcc251⟩ := Kd.V_get HO_0.out z68 0 p251 (by first | exact q251 | exact zod | (have e_ := (Kd.V_reads' HO_0.out).1; omega))
            obtain ⟨ua251_0, uc251_0, rfl, ul251_0, ge251_0⟩ := k68_openF hMe251
            have hv251_0 := hcc251 0 _ rfl
            rw [Nat.add_zero] at hv251_0
            replace hv251_0 := Option.some.inj (hv251_0.symm.trans hx251_0)
            injection hv251_0 with hva_ hvn_ hvc_
            rw [hva_] at ge251_0
            rw [hvc_] at ul251_0
            have HL251_0 := Aside0.mk (show Kd.V (Kd.int .i64) 3 _ w.heap.size _ _ ((rd_T68 x0_1 0).f0) from Kd.V_mk ul251_0 ge251_0)
            clear hva_ hvn_ hvc_ ge251_0 ul251_0
            clear hcc251 hce251
            have qi251 : (0 < x0_1.length) = True := eq_true (by omega)
            (try rw [show ((0 : Int)).toNat = 0 from rfl] at hx251_0)
            (try rw [show 0 * 2 = 0 from rfl] at hx251_0)
            (try rw [Addr.add_zero'] at hx251_0)
            (try rw [show ((0 : Int)).toNat = 0 from rfl] at hx251_1)
            (try rw [show 0 * 2 = 0 from rfl] at hx251_1)
            (try rw [Addr.add_zero'] at hx251_1)
            have HR251_0 := Aside0.mk hi251_0
            have HC251_0 := Aside0.mk hl251_0
            clear hi251_0 hl251_0
            replace p251 := eq_true p251
            replace q251 := eq_true q251
            have p252 : 0 ≤ (0 : Int) := (by omega)
            have q252 : 0 < (x1_1.length : Int) := zod
            obtain ⟨ad252, A252_0, c252_0, e252, hx252_0, hx252_1, hl252_0, hi252_0⟩ := at_T68 (Kd.V_reads' HO_1.out).2.2 0 p252 q252
            cases e252
            obtain ⟨ce252, hce252, hMe252, hcc252⟩ := Kd.V_get HO_1.out z68 0 p252 (by first | exact q252 | exact zod | (have e_ := (Kd.V_reads' HO_1.out).1; omega))
            obtain ⟨ua252_0, uc252_0, rfl, ul252_0, ge252_0⟩ := k68_openF hMe252
            have hv252_0 := hcc252 0 _ rfl
            rw [Nat.add_zero] at hv252_0
            replace hv252_0 := Option.some.inj (hv252_0.symm.trans hx252_0)
            injection hv252_0 with hva_ hvn_ hvc_
            rw [hva_] at ge252_0
            rw [hvc_] at ul252_0
            have HL252_0 := Aside0.mk (show Kd.V (Kd.int .i64) 3 _ w.heap.size _ _ ((rd_T68 x1_1 0).f0) from Kd.V_mk ul252_0 ge252_0)
            clear hva_ hvn_ hvc_ ge252_0 ul252_0
            clear hcc252 hce252
            have qi252 : (0 < x1_1.length) = True := eq_true (by omega)
            (try rw [show ((0 : Int)).toNat = 0 from rfl] at hx252_0)
            (try rw [show 0 * 2 = 0 from rfl] at hx252_0)
            (try rw [Addr.add_zero'] at hx252_0)
            (try rw [show ((0 : Int)).toNat = 0 from rfl] at hx252_1)
            (try rw [show 0 * 2 = 0 from rfl] at hx252_1)
            (try rw [Addr.add_zero'] at hx252_1)
            have HR252_0 := Aside0.mk hi252_0
            have HC252_0 := Aside0.mk hl252_0
            clear hi252_0 hl252_0
            replace p252 := eq_true p252
            replace q252 := eq_true q252
            refine start_ (n := 9) (S := fun w' => w'.cell? ad251 = some (.slice A251_0 ((rd_T68 x0_1 0).f0).length c251_0) ∧ w'.cell? ⟨ad251.block, ad251.off + 1, none⟩ = some (.int .i64 ((rd_T68 x0_1 0).f1)) ∧ w'.cell? ad252 = some (.slice A252_0 ((rd_T68 x1_1 0).f0).length c252_0) ∧ w'.cell? ⟨ad252.block, ad252.off + 1, none⟩ = some (.int .i64 ((rd_T68 x1_1 0).f1))) (ds := []) #[zf, zf, zf, zf, zf, zf, zf, zf, zf] (by kernel_rfl) rfl rfl ⟨hx251_0, hx251_1, hx252_0, hx252_1⟩ (fun hHeld => ?_); refine with_tabW impl_merged_impl_Item__impl_cmpItem_impl_together_1.tab3 impl_merged_impl_Item__impl_cmpItem_impl_together_1.bits3 (fun HT_ HW_ => ?_)
            generalize wr.drew = w56 at HO_0 HO_1 HO_9 HB HL251_0 HL252_0 HR251_0 HR252_0 hx251_0 hx251_1 hx252_0 hx252_1 hHeld ⊢
            refine pure_ (i := 0) (N := some 21) (v := ?_) (a' := ?_) #[zt, zf, zf, zf, zf, zf, zf, zf, zf] rfl rfl (any_of HT_.out (by kernel_rfl)) (fun _ _ _ h => h) (Or.inl ⟨by rfl, ?_⟩) ?_ ?_
            rotate_left
            ·intro w'
             go_simp
             with_reducible rfl
            rotate_left
            ·simp only [Act.put, zp1, zp2, zp3, i64_w, i32_w]
             rfl
            refine pure_ (i := 1) (N := some 22) (v := ?_) (a' := ?_) #[zt, zt, zf, zf, zf, zf, zf, zf, zf] rfl rfl (any_of HT_.out (by kernel_rfl)) (fun _ _ _ h => h) (Or.inl ⟨by rfl, ?_⟩) ?_ ?_
            rotate_left
            ·intro w'
             go_simp
             with_reducible rfl
            rotate_left
            ·simp only [Act.put, zp1, zp2, zp3, i64_w, i32_w]
             rfl
            refine pure_ (i := 2) (N := some 23) (v := ?_) (a' := ?_) #[zt, zt, zt, zf, zf, zf, zf, zf, zf] rfl rfl (any_of HT_.out (by kernel_rfl)) (fun _ _ _ h => h) (Or.inl ⟨by rfl, ?_⟩) ?_ ?_
            rotate_left
            ·intro w'
             go_simp
             with_reducible rfl
            rotate_left
            ·simp only [Act.put, zp1, zp2, zp3, i64_w, i32_w]
             rfl
            refine pure_ (i := 4) (N := some 25) (v := ?_) (a' := ?_) #[zt, zt, zt, zf, zt, zf, zf, zf, zf] rfl rfl (any_of HT_.out (by kernel_rfl)) (fun _ _ _ h => h) (Or.inl ⟨by rfl, ?_⟩) ?_ ?_
            rotate_left
            ·intro w'
             go_simp
             with_reducible rfl
            rotate_left
            ·simp only [Act.put, zp1, zp2, zp3, i64_w, i32_w]
             rfl
            refine pure_ (i := 5) (N := some 26) (v := ?_) (a' := ?_) #[zt, zt, zt, zf, zt, zt, zf, zf, zf] rfl rfl (any_of HT_.out (by kernel_rfl)) (fun _ _ _ h => h) (Or.inl ⟨by rfl, ?_⟩) ?_ ?_
            rotate_left
            ·intro w'
             go_simp
             with_reducible rfl
            rotate_left
            ·simp only [Act.put, zp1, zp2, zp3, i64_w, i32_w]
             rfl
            refine take_ (i := 3) (N := some 24) (v := ?_) (a' := ?_) #[zt, zt, zt, zt, zt, zt, zf, zf, zf] rfl rfl (take_ofW HT_.out HW_.out (by kernel_rfl)) (fun _ _ _ h => h) (Or.inl ⟨by rfl, ?_⟩) hHeld ?_ ?_
            rotate_left
            ·rintro w' ⟨s0, s1, s2, s3⟩
             go_simp
             with_reducible rfl
            rotate_left
            ·simp only [Act.put, zp1, zp2, zp3, i64_w, i32_w]
             rfl
            refine take_ (i := 6) (N := some 27) (v := ?_) (a' := ?_) #[zt, zt, zt, zt, zt, zt, zt, zf, zf] rfl rfl (take_ofW HT_.out HW_.out (by kernel_rfl)) (fun _ _ _ h => h) (Or.inl ⟨by rfl, ?_⟩) hHeld ?_ ?_
            rotate_left
            ·rintro w' ⟨s0, s1, s2, s3⟩
             go_simp
             with_reducible rfl
            rotate_left
            ·simp only [Act.put, zp1, zp2, zp3, i64_w, i32_w]
             rfl
            refine one_ (i := 7) (N := some 28) #[zt, zt, zt, zt, zt, zt, zt, zt, zf] rfl rfl (one_of HT_.out (by kernel_rfl)) (by decide) (fun K hK => ?_)
            refine goes_f (.tmp 21) Try.func107 (by kernel_rfl) rfl #[.agg #[.slice A251_0 ((rd_T68 x0_1 0).f0).length c251_0, .int .i64 ((rd_T68 x0_1 0).f1)], .agg #[.slice A252_0 ((rd_T68 x1_1 0).f0).length c252_0, .int .i64 ((rd_T68 x1_1 0).f1)]] (by rfl) rfl rfl rfl zar ?_
            with_reducible refine (impl_cmpItem.calls k1 _ _ ((rd_T68 x0_1 0).f0) ((rd_T68 x0_1 0).f1) _ _ ((rd_T68 x1_1 0).f0) ((rd_T68 x1_1 0).f1) t253 _ ?side1 ?side2 ?side3 ?side4 A9.out).mono ?_
            (case side1 => repeat (first | exact (by repeat (first | (with_reducible exact HR251_0.out) | (with_reducible refine Kd.C_alloc ?_ _) | (with_reducible refine Kd.C_drewN ?_ _) | (with_reducible refine Kd.C_drew ?_) | exact HR251_0.out)) | (with_reducible refine Kd.C_alloc ?_ _) | (with_reducible refine Kd.C_drewN ?_ _) | (with_reducible refine Kd.C_drew ?_)))
            (case side2 => exact HC251_0.out)
            (case side3 => repeat (first | exact (by repeat (first | (with_reducible exact HR252_0.out) | (with_reducible refine Kd.C_alloc ?_ _) | (with_reducible refine Kd.C_drewN ?_ _) | (with_reducible refine Kd.C_drew ?_) | exact HR252_0.out)) | (with_reducible refine Kd.C_alloc ?_ _) | (with_reducible refine Kd.C_drewN ?_ _) | (with_reducible refine Kd.C_drew ?_)))
            (case side4 => exact HC252_0.out)
            rintro e w57 ⟨rfl, hb⟩
            have HS0_ := (hb.cell (World.block_lt_of_cell? _ _ (hHeld.1))).trans (hHeld.1)
            have HS1_ := (hb.cell (World.block_lt_of_cell? _ _ (hHeld.2.1))).trans (hHeld.2.1)
            have HS2_ := (hb.cell (World.block_lt_of_cell? _ _ (hHeld.2.2.1))).trans (hHeld.2.2.1)
            have HS3_ := (hb.cell (World.block_lt_of_cell? _ _ (hHeld.2.2.2))).trans (hHeld.2.2.2)
            refine ⟨_, rfl, ?_⟩
            have n0_ := Aside0.mk (Kd.V_below (by (with_reducible repeat (first | apply Kd.V_alloc | apply Kd.V_drewN | apply Kd.V_drew)); exact HO_0.out) hb)
            have n1_ := Aside0.mk (Kd.V_below (by (with_reducible repeat (first | apply Kd.V_alloc | apply Kd.V_drewN | apply Kd.V_drew)); exact HO_1.out) hb)
            have n2_ := Aside0.mk (Kd.N_below (by (with_reducible repeat (first | apply Kd.N_alloc | apply Kd.N_drewN | apply Kd.N_drew)); exact HO_9.out) hb)
            have n3_ := Aside0.mk (Kd.V_below (by (with_reducible repeat (first | apply Kd.V_alloc | apply Kd.V_drewN | apply Kd.V_drew)); exact HL251_0.out) hb)
            have n4_ := Aside0.mk (Kd.V_below (by (with_reducible repeat (first | apply Kd.V_alloc | apply Kd.V_drewN | apply Kd.V_drew)); exact HL252_0.out) hb)
            have n5_ := Aside0.mk (Kd.C_below (by repeat (first | (with_reducible exact HR251_0.out) | (with_reducible refine Kd.C_alloc ?_ _) | (with_reducible refine Kd.C_drewN ?_ _) | (with_reducible refine Kd.C_drew ?_) | exact HR251_0.out)) hb)
            have n6_ := Aside0.mk (Kd.C_below (by repeat (first | (with_reducible exact HR252_0.out) | (with_reducible refine Kd.C_alloc ?_ _) | (with_reducible refine Kd.C_drewN ?_ _) | (with_reducible refine Kd.C_drew ?_) | exact HR252_0.out)) hb)
            have n7_ := Aside0.mk (below_step zhb hb)
            clear HO_0
            clear HO_1
            clear HO_9
            clear HL251_0
            clear HL252_0
            clear HR251_0
            clear HR252_0
            clear HB
            have HO_0 := n0_
            have HO_1 := n1_
            have HO_9 := n2_
            have HL251_0 := n3_
            have HL252_0 := n4_
            have HR251_0 := n5_
            have HR252_0 := n6_
            have HB := n7_
            clear n0_ n1_ n2_ n3_ n4_ n5_ n6_ n7_
            (try clear hb)
            (try clear hb2)
            (try clear hk)
            (try clear hi)
            refine hK.out _ _ ⟨HS0_, HS1_, HS2_, HS3_⟩ (fun hHeld => ?_)
            clear hK K
            refine norm_ (a' := ?_) ?_ ?_
            rotate_left
            ·show Act.put _ (some 28) _ = _
             simp only [Act.put, zp1, zp2, zp3, i64_w, i32_w]
             rfl
            refine pure_ (i := 8) (N := some 10) (v := ?_) (a' := ?_) #[zt, zt, zt, zt, zt, zt, zt, zt, zt] rfl rfl (any_of HT_.out (by kernel_rfl)) (fun _ _ _ h => h) (Or.inl ⟨by rfl, ?_⟩) ?_ ?_
            rotate_left
            ·intro w'
             go_simp
             with_reducible rfl
            rotate_left
            ·simp only [Act.put, zp1, zp2, zp3, i64_w, i32_w]
             rfl
            refine done_ (done_of HT_.out (by kernel_rfl)) ?_
            try go_wp2
            have n0_ := Aside0.mk (Kd.V_drew HO_0.out)
            have n1_ := Aside0.mk (Kd.V_drew HO_1.out)
            have n2_ := Aside0.mk (Kd.N_drew HO_9.out)
            have n3_ := Aside0.mk (Kd.V_drew HL251_0.out)
            have n4_ := Aside0.mk (Kd.V_drew HL252_0.out)
            have n5_ := Aside0.mk (Kd.C_drew HR251_0.out)
            have n6_ := Aside0.mk (Kd.C_drew HR252_0.out)
            have n7_ := Aside0.mk (below_drew1 HB.out)
            clear HO_0
            clear HO_1
            clear HO_9
            clear HL251_0
            clear HL252_0
            clear HR251_0
            clear HR252_0
            clear HB
            have HO_0 := n0_
            have HO_1 := n1_
            have HO_9 := n2_
            have HL251_0 := n3_
            have HL252_0 := n4_
            have HR251_0 := n5_
            have HR252_0 := n6_
            have HB := n7_
            clear n0_ n1_ n2_ n3_ n4_ n5_ n6_ n7_
            have p272 : 0 ≤ (0 : Int) := (by omega)
            have q272 : 0 < (x0_1.length : Int) := zod
            obtain ⟨ad272, A272_0, c272_0, e272, hx272_0, hx272_1, hl272_0, hi272_0⟩ := at_T68 (Kd.V_reads' HO_0.out).2.2 0 p272 q272
            obtain rfl : ad251 = ad272 := (by injection e272)
            obtain ⟨ce272, hce272, hMe272, hcc272⟩ := Kd.V_get HO_0.out z68 0 p272 (by first | exact q272 | exact zod | (have e_ := (Kd.V_reads' HO_0.out).1; omega))
            obtain ⟨ua272_0, uc272_0, rfl, ul272_0, ge272_0⟩ := k68_openF hMe272
            have hv272_0 := hcc272 0 _ rfl
            rw [Nat.add_zero] at hv272_0
            replace hv272_0 := Option.some.inj (hv272_0.symm.trans hx272_0)
            injection hv272_0 with hva_ hvn_ hvc_
            rw [hva_] at ge272_0
            rw [hvc_] at ul272_0
            have HL272_0 := Aside0.mk (show Kd.V (Kd.int .i64) 3 _ w.heap.size _ _ ((rd_T68 x0_1 0).f0) from Kd.V_mk ul272_0 ge272_0)
            clear hva_ hvn_ hvc_ ge272_0 ul272_0
            clear hcc272 hce272
            have qi272 : (0 < x0_1.length) = True := eq_true (by omega)
            (try rw [show ((0 : Int)).toNat = 0 from rfl] at hx272_0)
            (try rw [show 0 * 2 = 0 from rfl] at hx272_0)
            (try rw [Addr.add_zero'] at hx272_0)
            (try rw [show ((0 : Int)).toNat = 0 from rfl] at hx272_1)
            (try rw [show 0 * 2 = 0 from rfl] at hx272_1)
            (try rw [Addr.add_zero'] at hx272_1)
            have HR272_0 := Aside0.mk hi272_0
            have HC272_0 := Aside0.mk hl272_0
            clear hi272_0 hl272_0
            replace p272 := eq_true p272
            replace q272 := eq_true q272
            have p273 : 0 ≤ (0 : Int) := (by omega)
            have q273 : 0 < (x1_1.length : Int) := zod
            obtain ⟨ad273, A273_0, c273_0, e273, hx273_0, hx273_1, hl273_0, hi273_0⟩ := at_T68 (Kd.V_reads' HO_1.out).2.2 0 p273 q273
            obtain rfl : ad252 = ad273 := (by injection e273)
            obtain ⟨ce273, hce273, hMe273, hcc273⟩ := Kd.V_get HO_1.out z68 0 p273 (by first | exact q273 | exact zod | (have e_ := (Kd.V_reads' HO_1.out).1; omega))
            obtain ⟨ua273_0, uc273_0, rfl, ul273_0, ge273_0⟩ := k68_openF hMe273
            have hv273_0 := hcc273 0 _ rfl
            rw [Nat.add_zero] at hv273_0
            replace hv273_0 := Option.some.inj (hv273_0.symm.trans hx273_0)
            injection hv273_0 with hva_ hvn_ hvc_
            rw [hva_] at ge273_0
            rw [hvc_] at ul273_0
            have HL273_0 := Aside0.mk (show Kd.V (Kd.int .i64) 3 _ w.heap.size _ _ ((rd_T68 x1_1 0).f0) from Kd.V_mk ul273_0 ge273_0)
            clear hva_ hvn_ hvc_ ge273_0 ul273_0
            clear hcc273 hce273
            have qi273 : (0 < x1_1.length) = True := eq_true (by omega)
            (try rw [show ((0 : Int)).toNat = 0 from rfl] at hx273_0)
            (try rw [show 0 * 2 = 0 from rfl] at hx273_0)
            (try rw [Addr.add_zero'] at hx273_0)
            (try rw [show ((0 : Int)).toNat = 0 from rfl] at hx273_1)
            (try rw [show 0 * 2 = 0 from rfl] at hx273_1)
            (try rw [Addr.add_zero'] at hx273_1)
            have HR273_0 := Aside0.mk hi273_0
            have HC273_0 := Aside0.mk hl273_0
            clear hi273_0 hl273_0
            replace p273 := eq_true p273
            replace q273 := eq_true q273
            refine start_ (n := 14) (S := fun w' => w'.cell? ad251 = some (.slice A272_0 ((rd_T68 x0_1 0).f0).length c272_0) ∧ w'.cell? ⟨ad251.block, ad251.off + 1, none⟩ = some (.int .i64 ((rd_T68 x0_1 0).f1)) ∧ w'.cell? ad252 = some (.slice A273_0 ((rd_T68 x1_1 0).f0).length c273_0) ∧ w'.cell? ⟨ad252.block, ad252.off + 1, none⟩ = some (.int .i64 ((rd_T68 x1_1 0).f1))) (ds := []) #[zf, zf, zf, zf, zf, zf, zf, zf, zf, zf, zf, zf, zf, zf] (by kernel_rfl) rfl rfl ⟨hx272_0, hx272_1, hx273_0, hx273_1⟩ (fun hHeld => ?_); refine with_tabW impl_merged_impl_Item__impl_cmpItem_impl_together_1.tab4 impl_merged_impl_Item__impl_cmpItem_impl_together_1.bits4 (fun HT_ HW_ => ?_)
            generalize w57.drew = w58 at HO_0 HO_1 HO_9 HL251_0 HL252_0 HR251_0 HR252_0 HB HL272_0 HL273_0 HR272_0 HR273_0 hx272_0 hx272_1 hx273_0 hx273_1 hHeld ⊢
            refine pure_ (i := 0) (N := some 30) (v := ?_) (a' := ?_) #[zt, zf, zf, zf, zf, zf, zf, zf, zf, zf, zf, zf, zf, zf] rfl rfl (any_of HT_.out (by kernel_rfl)) (fun _ _ _ h => h) (Or.inl ⟨by rfl, ?_⟩) ?_ ?_
            rotate_left
            ·intro w'
             go_simp
             with_reducible rfl
            rotate_left
            ·simp only [Act.put, zp1, zp2, zp3, i64_w, i32_w]
             rfl
            refine pure_ (i := 1) (N := some 31) (v := ?_) (a' := ?_) #[zt, zt, zf, zf, zf, zf, zf, zf, zf, zf, zf, zf, zf, zf] rfl rfl (any_of HT_.out (by kernel_rfl)) (fun _ _ _ h => h) (Or.inl ⟨by rfl, ?_⟩) ?_ ?_
            rotate_left
            ·intro w'
             go_simp
             with_reducible rfl
            rotate_left
            ·simp only [Act.put, zp1, zp2, zp3, i64_w, i32_w]
             rfl
            refine pure_ (i := 2) (N := some 32) (v := ?_) (a' := ?_) #[zt, zt, zt, zf, zf, zf, zf, zf, zf, zf, zf, zf, zf, zf] rfl rfl (any_of HT_.out (by kernel_rfl)) (fun _ _ _ h => h) (Or.inl ⟨by rfl, ?_⟩) ?_ ?_
            rotate_left
            ·intro w'
             go_simp
             with_reducible rfl
            rotate_left
            ·simp only [Act.put, zp1, zp2, zp3, i64_w, i32_w]
             rfl
            refine pure_ (i := 4) (N := some 34) (v := ?_) (a' := ?_) #[zt, zt, zt, zf, zt, zf, zf, zf, zf, zf, zf, zf, zf, zf] rfl rfl (any_of HT_.out (by kernel_rfl)) (fun _ _ _ h => h) (Or.inl ⟨by rfl, ?_⟩) ?_ ?_
            rotate_left
            ·intro w'
             go_simp
             with_reducible rfl
            rotate_left
            ·simp only [Act.put, zp1, zp2, zp3, i64_w, i32_w]
             rfl
            refine pure_ (i := 5) (N := some 35) (v := ?_) (a' := ?_) #[zt, zt, zt, zf, zt, zt, zf, zf, zf, zf, zf, zf, zf, zf] rfl rfl (any_of HT_.out (by kernel_rfl)) (fun _ _ _ h => h) (Or.inl ⟨by rfl, ?_⟩) ?_ ?_
            rotate_left
            ·intro w'
             go_simp
             with_reducible rfl
            rotate_left
            ·simp only [Act.put, zp1, zp2, zp3, i64_w, i32_w]
             rfl
            refine take_ (i := 3) (N := some 33) (v := ?_) (a' := ?_) #[zt, zt, zt, zt, zt, zt, zf, zf, zf, zf, zf, zf, zf, zf] rfl rfl (take_ofW HT_.out HW_.out (by kernel_rfl)) (fun _ _ _ h => h) (Or.inl ⟨by rfl, ?_⟩) hHeld ?_ ?_
            rotate_left
            ·rintro w' ⟨s0, s1, s2, s3⟩
             go_simp
             with_reducible rfl
            rotate_left
            ·simp only [Act.put, zp1, zp2, zp3, i64_w, i32_w]
             rfl
            refine take_ (i := 6) (N := some 36) (v := ?_) (a' := ?_) #[zt, zt, zt, zt, zt, zt, zt, zf, zf, zf, zf, zf, zf, zf] rfl rfl (take_ofW HT_.out HW_.out (by kernel_rfl)) (fun _ _ _ h => h) (Or.inl ⟨by rfl, ?_⟩) hHeld ?_ ?_
            rotate_left
            ·rintro w' ⟨s0, s1, s2, s3⟩
             go_simp
             with_reducible rfl
            rotate_left
            ·simp only [Act.put, zp1, zp2, zp3, i64_w, i32_w]
             rfl
            refine join_ (σ := Value × Nat) 2 #[zt, zt, zt, zt, zt, zt, zt, zt, zt, zt, zt, zt, zf, zf] (fun s_ => [(37, .tuple #[.agg #[s_.1, .int .i64 t277], .bool false]), (11, .pointer (some ⟨s_.2, 0, none⟩)), (29, .tuple #[.agg #[s_.1, .int .i64 t277], .bool false]), (38, .agg #[s_.1, .int .i64 t277]), (39, .bool false)]) (fun s_ w' => (w'.cell? ad251 = some (.slice A272_0 ((rd_T68 x0_1 0).f0).length c272_0) ∧ w'.cell? ⟨ad251.block, ad251.off + 1, none⟩ = some (.int .i64 ((rd_T68 x0_1 0).f1)) ∧ w'.cell? ad252 = some (.slice A273_0 ((rd_T68 x1_1 0).f0).length c273_0) ∧ w'.cell? ⟨ad252.block, ad252.off + 1, none⟩ = some (.int .i64 ((rd_T68 x1_1 0).f1))) ∧ (Kd.V (Kd.int .i64) 3 w' w.heap.size (fun k_ => ((P0_ k_ ∨ P1_ k_) ∨ w.heap.size ≤ k_) ∧ some k_ ≠ (u9 : Value).ownBlock ∧ k_ ≠ s_.2) (.slice A251_0 ((rd_T68 x0_1 0).f0).length c251_0) ((rd_T68 x0_1 0).f0)) ∧ (Kd.V (Kd.int .i64) 3 w' w.heap.size (fun k_ => ((P0_ k_ ∨ P1_ k_) ∨ w.heap.size ≤ k_) ∧ some k_ ≠ (u9 : Value).ownBlock ∧ k_ ≠ s_.2) (.slice A252_0 ((rd_T68 x1_1 0).f0).length c252_0) ((rd_T68 x1_1 0).f0)) ∧ (Kd.V (Kd.int .i64) 3 w' w.heap.size (fun k_ => ((P0_ k_ ∨ P1_ k_) ∨ w.heap.size ≤ k_) ∧ some k_ ≠ (u9 : Value).ownBlock ∧ k_ ≠ s_.2) (.slice A272_0 ((rd_T68 x0_1 0).f0).length c272_0) ((rd_T68 x0_1 0).f0)) ∧ (Kd.V (Kd.int .i64) 3 w' w.heap.size (fun k_ => ((P0_ k_ ∨ P1_ k_) ∨ w.heap.size ≤ k_) ∧ some k_ ≠ (u9 : Value).ownBlock ∧ k_ ≠ s_.2) (.slice A273_0 ((rd_T68 x1_1 0).f0).length c273_0) ((rd_T68 x1_1 0).f0)) ∧ (Kd.V (Kd.int .i64) 3 w' w.heap.size (fun k_ => ((P0_ k_ ∨ P1_ k_) ∨ w.heap.size ≤ k_) ∧ some k_ ≠ (u9 : Value).ownBlock ∧ k_ ≠ s_.2) s_.1 t274) ∧ (Kd.V k68 68 w' w.heap.size (fun k_ => ((P0_ k_ ∨ P1_ k_) ∨ w.heap.size ≤ k_) ∧ some k_ ≠ (u9 : Value).ownBlock ∧ k_ ≠ s_.2) (.slice (some ad251) x0_1.length co54) x0_1) ∧ (Kd.V k68 68 w' w.heap.size (fun k_ => ((P0_ k_ ∨ P1_ k_) ∨ w.heap.size ≤ k_) ∧ some k_ ≠ (u9 : Value).ownBlock ∧ k_ ≠ s_.2) (.slice (some ad252) x1_1.length co55) x1_1) ∧ (Kd.N k68 68 w' w.heap.size (fun k_ => ((P0_ k_ ∨ P1_ k_) ∨ w.heap.size ≤ k_) ∧ k_ ≠ s_.2) u9 x9_1) ∧ (w'.heap[s_.2]? = some (.cells #[.slice none 0 0, .int .i64 0] 68 (0, 0))) ∧ (w.heap.size ≤ s_.2) ∧ (w.heap.size ≤ s_.2) ∧ (Below w.heap.size w w')) ?_ ?_
            rotate_left
            ·intro hCont
             refine two_ (i := 7) (j := 11) (Ni := some 37) (Nj := some 11) #[zt, zt, zt, zt, zt, zt, zt, zt, zf, zf, zf, zf, zf, zf] #[zt, zt, zt, zt, zt, zt, zt, zf, zf, zf, zf, zt, zf, zf] rfl rfl rfl rfl (two_of HT_.out (by kernel_rfl)) (by decide) (by decide) (fun K hK => ?_) (fun K hK => ?_)
             ·skip
              refine goes_f (.tmp 30) Try.func108 (by kernel_rfl) rfl #[.agg #[.slice A272_0 ((rd_T68 x0_1 0).f0).length c272_0, .int .i64 ((rd_T68 x0_1 0).f1)], .agg #[.slice A273_0 ((rd_T68 x1_1 0).f0).length c273_0, .int .i64 ((rd_T68 x1_1 0).f1)]] (by rfl) rfl rfl rfl zar ?_
              with_reducible refine (impl_together_1.calls (fun k_ => (((P0_ k_ ∨ P1_ k_) ∨ w.heap.size ≤ k_) ∧ some k_ ≠ (u9 : Value).ownBlock)) _ _ ((rd_T68 x0_1 0).f0) ((rd_T68 x0_1 0).f1) _ _ ((rd_T68 x1_1 0).f0) ((rd_T68 x1_1 0).f1) t274 t277 false _ ?side1 ?side2 ?side3 A30.out).mono ?_
              (case side1 => exact HL272_0.out)
              (case side2 => repeat (first | exact (by repeat (first | (with_reducible exact HR273_0.out) | (with_reducible refine Kd.C_alloc ?_ _) | (with_reducible refine Kd.C_drewN ?_ _) | (with_reducible refine Kd.C_drew ?_) | exact HR273_0.out)) | (with_reducible refine Kd.C_alloc ?_ _) | (with_reducible refine Kd.C_drewN ?_ _) | (with_reducible refine Kd.C_drew ?_)))
              (case side3 => exact HC273_0.out)
              rintro e w59 ⟨v275, rfl, ho0, hb⟩
              have HS0_ := (hb.cell (World.block_lt_of_cell? _ _ (hHeld.1))).trans (hHeld.1)
              have HS1_ := (hb.cell (World.block_lt_of_cell? _ _ (hHeld.2.1))).trans (hHeld.2.1)
              have HS2_ := (hb.cell (World.block_lt_of_cell? _ _ (hHeld.2.2.1))).trans (hHeld.2.2.1)
              have HS3_ := (hb.cell (World.block_lt_of_cell? _ _ (hHeld.2.2.2))).trans (hHeld.2.2.2)
              refine ⟨_, rfl, ?_⟩
              have n0_ := Aside0.mk (Kd.V_below (by (with_reducible repeat (first | apply Kd.V_alloc | apply Kd.V_drewN | apply Kd.V_drew)); exact HO_0.out) hb)
              have n1_ := Aside0.mk (Kd.V_below (by (with_reducible repeat (first | apply Kd.V_alloc | apply Kd.V_drewN | apply Kd.V_drew)); exact HO_1.out) hb)
              have n2_ := Aside0.mk (Kd.N_below (by (with_reducible repeat (first | apply Kd.N_alloc | apply Kd.N_drewN | apply Kd.N_drew)); exact HO_9.out) hb)
              have n3_ := Aside0.mk (Kd.V_below (by (with_reducible repeat (first | apply Kd.V_alloc | apply Kd.V_drewN | apply Kd.V_drew)); exact HL251_0.out) hb)
              have n4_ := Aside0.mk (Kd.V_below (by (with_reducible repeat (first | apply Kd.V_alloc | apply Kd.V_drewN | apply Kd.V_drew)); exact HL252_0.out) hb)
              have n5_ := Aside0.mk (Kd.V_below (by (with_reducible repeat (first | apply Kd.V_alloc | apply Kd.V_drewN | apply Kd.V_drew)); exact HL272_0.out) hb)
              have n6_ := Aside0.mk (Kd.V_below (by (with_reducible repeat (first | apply Kd.V_alloc | apply Kd.V_drewN | apply Kd.V_drew)); exact HL273_0.out) hb)
              have n7_ := Aside0.mk (Kd.V_lower (Kd.V_mono (ok' := fun k_ => ((P0_ k_ ∨ P1_ k_) ∨ w.heap.size ≤ k_) ∧ some k_ ≠ (u9 : Value).ownBlock) ho0 (fun k_ hk_ => ⟨Or.elim hk_ (fun hs_ => hs_.1) (fun hn_ => (.inr (Nat.le_trans (below_size zhb) hn_))), Or.elim hk_ (fun hs_ => hs_.2) (fun hn_ => (Kd.fresh' (Kd.N_lt (by (with_reducible repeat (first | apply Kd.N_alloc | apply Kd.N_drewN | apply Kd.N_drew)); exact HO_9.out)) k_ hn_))⟩)) (below_size zhb))
              have n8_ := Aside0.mk (Kd.C_below (by repeat (first | (with_reducible exact HR251_0.out) | (with_reducible refine Kd.C_alloc ?_ _) | (with_reducible refine Kd.C_drewN ?_ _) | (with_reducible refine Kd.C_drew ?_) | exact HR251_0.out)) hb)
              have n9_ := Aside0.mk (Kd.C_below (by repeat (first | (with_reducible exact HR252_0.out) | (with_reducible refine Kd.C_alloc ?_ _) | (with_reducible refine Kd.C_drewN ?_ _) | (with_reducible refine Kd.C_drew ?_) | exact HR252_0.out)) hb)
              have n10_ := Aside0.mk (Kd.C_below (by repeat (first | (with_reducible exact HR272_0.out) | (with_reducible refine Kd.C_alloc ?_ _) | (with_reducible refine Kd.C_drewN ?_ _) | (with_reducible refine Kd.C_drew ?_) | exact HR272_0.out)) hb)
              have n11_ := Aside0.mk (Kd.C_below (by repeat (first | (with_reducible exact HR273_0.out) | (with_reducible refine Kd.C_alloc ?_ _) | (with_reducible refine Kd.C_drewN ?_ _) | (with_reducible refine Kd.C_drew ?_) | exact HR273_0.out)) hb)
              have n12_ := Aside0.mk (below_step zhb hb)
              clear HO_0
              clear HO_1
              clear HO_9
              clear HL251_0
              clear HL252_0
              clear HL272_0
              clear HL273_0
              clear HR251_0
              clear HR252_0
              clear HR272_0
              clear HR273_0
              clear HB
              have HO_0 := n0_
              have HO_1 := n1_
              have HO_9 := n2_
              have HL251_0 := n3_
              have HL252_0 := n4_
              have HL272_0 := n5_
              have HL273_0 := n6_
              have HO276 := n7_
              have HR251_0 := n8_
              have HR252_0 := n9_
              have HR272_0 := n10_
              have HR273_0 := n11_
              have HB := n12_
              clear n0_ n1_ n2_ n3_ n4_ n5_ n6_ n7_ n8_ n9_ n10_ n11_ n12_
              (try clear hb)
              (try clear hb2)
              (try clear hk)
              (try clear hi)
              (try clear ho0)
              refine hK.out _ _ ⟨HS0_, HS1_, HS2_, HS3_⟩ (fun hHeld => ?_)
              clear hK K
              refine norm_ (a' := ?_) ?_ ?_
              rotate_left
              ·show Act.put _ (some 37) _ = _
               simp only [Act.put, zp1, zp2, zp3, i64_w, i32_w]
               rfl
              refine pure_ (i := 8) (N := some 29) (v := ?_) (a' := ?_) #[zt, zt, zt, zt, zt, zt, zt, zt, zt, zf, zf, zf, zf, zf] rfl rfl (any_of HT_.out (by kernel_rfl)) (fun _ _ _ h => h) (Or.inl ⟨by rfl, ?_⟩) ?_ ?_
              rotate_left
              ·intro w'
               go_simp
               with_reducible rfl
              rotate_left
              ·simp only [Act.put, zp1, zp2, zp3, i64_w, i32_w]
               rfl
              refine pure_ (i := 9) (N := some 38) (v := ?_) (a' := ?_) #[zt, zt, zt, zt, zt, zt, zt, zt, zt, zt, zf, zf, zf, zf] rfl rfl (any_of HT_.out (by kernel_rfl)) (fun _ _ _ h => h) (Or.inl ⟨by rfl, ?_⟩) ?_ ?_
              rotate_left
              ·intro w'
               go_simp
               with_reducible rfl
              rotate_left
              ·simp only [Act.put, zp1, zp2, zp3, i64_w, i32_w]
               rfl
              refine pure_ (i := 10) (N := some 39) (v := ?_) (a' := ?_) #[zt, zt, zt, zt, zt, zt, zt, zt, zt, zt, zt, zf, zf, zf] rfl rfl (any_of HT_.out (by kernel_rfl)) (fun _ _ _ h => h) (Or.inl ⟨by rfl, ?_⟩) ?_ ?_
              rotate_left
              ·intro w'
               go_simp
               with_reducible rfl
              rotate_left
              ·simp only [Act.put, zp1, zp2, zp3, i64_w, i32_w]
               rfl
              refine one_ (i := 11) (N := some 11) #[zt, zt, zt, zt, zt, zt, zt, zt, zt, zt, zt, zt, zf, zf] rfl rfl (one_of HT_.out (by kernel_rfl)) (by decide) (fun K hK => ?_)
              refine box_step ?hg (N := 11) ?hd (cs := #[.slice none 0 0, .int .i64 0]) (t := 68) ?hr ?_; (case hd => rfl); (case hg => rfl); (case hr => first | (go_simp; done) | (go_simp; rfl))
              intro gb279 hg w60 hbox hb
              have HS0_ := (hb.cell (World.block_lt_of_cell? _ _ (hHeld.1))).trans (hHeld.1)
              have HS1_ := (hb.cell (World.block_lt_of_cell? _ _ (hHeld.2.1))).trans (hHeld.2.1)
              have HS2_ := (hb.cell (World.block_lt_of_cell? _ _ (hHeld.2.2.1))).trans (hHeld.2.2.1)
              have HS3_ := (hb.cell (World.block_lt_of_cell? _ _ (hHeld.2.2.2))).trans (hHeld.2.2.2)
              have n0_ := Aside0.mk (Kd.V_below (Kd.V_elderB (by (with_reducible repeat (first | apply Kd.V_alloc | apply Kd.V_drewN | apply Kd.V_drew)); exact HO_0.out) gb279 (Nat.le_of_eq hg.symm)) hb)
              have n1_ := Aside0.mk (Kd.V_below (Kd.V_elderB (by (with_reducible repeat (first | apply Kd.V_alloc | apply Kd.V_drewN | apply Kd.V_drew)); exact HO_1.out) gb279 (Nat.le_of_eq hg.symm)) hb)
              have n2_ := Aside0.mk (Kd.N_below (Kd.N_elderB (by (with_reducible repeat (first | apply Kd.N_alloc | apply Kd.N_drewN | apply Kd.N_drew)); exact HO_9.out) gb279 (Nat.le_of_eq hg.symm)) hb)
              have n3_ := Aside0.mk (Kd.V_below (Kd.V_elderB (by (with_reducible repeat (first | apply Kd.V_alloc | apply Kd.V_drewN | apply Kd.V_drew)); exact HL251_0.out) gb279 (Nat.le_of_eq hg.symm)) hb)
              have n4_ := Aside0.mk (Kd.V_below (Kd.V_elderB (by (with_reducible repeat (first | apply Kd.V_alloc | apply Kd.V_drewN | apply Kd.V_drew)); exact HL252_0.out) gb279 (Nat.le_of_eq hg.symm)) hb)
              have n5_ := Aside0.mk (Kd.V_below (Kd.V_elderB (by (with_reducible repeat (first | apply Kd.V_alloc | apply Kd.V_drewN | apply Kd.V_drew)); exact HL272_0.out) gb279 (Nat.le_of_eq hg.symm)) hb)
              have n6_ := Aside0.mk (Kd.V_below (Kd.V_elderB (by (with_reducible repeat (first | apply Kd.V_alloc | apply Kd.V_drewN | apply Kd.V_drew)); exact HL273_0.out) gb279 (Nat.le_of_eq hg.symm)) hb)
              have n7_ := Aside0.mk (Kd.V_below (Kd.V_elderB (by (with_reducible repeat (first | apply Kd.V_alloc | apply Kd.V_drewN | apply Kd.V_drew)); exact HO276.out) gb279 (Nat.le_of_eq hg.symm)) hb)
              have n8_ := Aside0.mk (Kd.C_below (by repeat (first | (with_reducible exact HR251_0.out) | (with_reducible refine Kd.C_alloc ?_ _) | (with_reducible refine Kd.C_drewN ?_ _) | (with_reducible refine Kd.C_drew ?_) | exact HR251_0.out)) hb)
              have n9_ := Aside0.mk (Kd.C_below (by repeat (first | (with_reducible exact HR252_0.out) | (with_reducible refine Kd.C_alloc ?_ _) | (with_reducible refine Kd.C_drewN ?_ _) | (with_reducible refine Kd.C_drew ?_) | exact HR252_0.out)) hb)
              have n10_ := Aside0.mk (Kd.C_below (by repeat (first | (with_reducible exact HR272_0.out) | (with_reducible refine Kd.C_alloc ?_ _) | (with_reducible refine Kd.C_drewN ?_ _) | (with_reducible refine Kd.C_drew ?_) | exact HR272_0.out)) hb)
              have n11_ := Aside0.mk (Kd.C_below (by repeat (first | (with_reducible exact HR273_0.out) | (with_reducible refine Kd.C_alloc ?_ _) | (with_reducible refine Kd.C_drewN ?_ _) | (with_reducible refine Kd.C_drew ?_) | exact HR273_0.out)) hb)
              have n12_ := Aside0.mk (below_step zhb hb)
              have n13_ := Aside0.mk (hbox)
              have n14_ := Aside0.mk ((by rw [hg]; exact (below_size zhb) : w.heap.size ≤ gb279))
              have n15_ := Aside0.mk ((by rw [hg]; exact (below_size zhb) : w.heap.size ≤ gb279))
              clear HO_0
              clear HO_1
              clear HO_9
              clear HL251_0
              clear HL252_0
              clear HL272_0
              clear HL273_0
              clear HO276
              clear HR251_0
              clear HR252_0
              clear HR272_0
              clear HR273_0
              clear HB
              have HO_0 := n0_
              have HO_1 := n1_
              have HO_9 := n2_
              have HL251_0 := n3_
              have HL252_0 := n4_
              have HL272_0 := n5_
              have HL273_0 := n6_
              have HO276 := n7_
              have HR251_0 := n8_
              have HR252_0 := n9_
              have HR272_0 := n10_
              have HR273_0 := n11_
              have HB := n12_
              have BK279 := n13_
              have GW279 := n14_
              have GE279 := n15_
              clear n0_ n1_ n2_ n3_ n4_ n5_ n6_ n7_ n8_ n9_ n10_ n11_ n12_ n13_ n14_ n15_
              clear hb hbox hg
              refine hK.out _ _ ⟨HS0_, HS1_, HS2_, HS3_⟩ (fun hHeld => ?_)
              clear hK K
              refine norm_ (a' := ?_) ?_ ?_
              rotate_left
              ·show Act.put _ (some 11) _ = _
               simp only [Act.put, zp1, zp2, zp3, i64_w, i32_w]
               rfl
              exact norm_ (by simp only [putAll, Act.put, zp1, zp2, zp3]) (hCont (v275, gb279) _ ⟨hHeld, (by (with_reducible repeat (first | apply Kd.V_alloc | apply Kd.V_drewN | apply Kd.V_drew)); exact Kd.V_mono HL251_0.out (fun _ hk => ⟨hk.1.1, ⟨hk.1.2, hk.2⟩⟩)), (by (with_reducible repeat (first | apply Kd.V_alloc | apply Kd.V_drewN | apply Kd.V_drew)); exact Kd.V_mono HL252_0.out (fun _ hk => ⟨hk.1.1, ⟨hk.1.2, hk.2⟩⟩)), (by (with_reducible repeat (first | apply Kd.V_alloc | apply Kd.V_drewN | apply Kd.V_drew)); exact Kd.V_mono HL272_0.out (fun _ hk => ⟨hk.1.1, ⟨hk.1.2, hk.2⟩⟩)), (by (with_reducible repeat (first | apply Kd.V_alloc | apply Kd.V_drewN | apply Kd.V_drew)); exact Kd.V_mono HL273_0.out (fun _ hk => ⟨hk.1.1, ⟨hk.1.2, hk.2⟩⟩)), (by (with_reducible repeat (first | apply Kd.V_alloc | apply Kd.V_drewN | apply Kd.V_drew)); exact Kd.V_mono HO276.out (fun _ hk => ⟨hk.1.1, ⟨hk.1.2, hk.2⟩⟩)), (by (with_reducible repeat (first | apply Kd.V_alloc | apply Kd.V_drewN | apply Kd.V_drew)); exact Kd.V_mono HO_0.out (fun _ hk => ⟨hk.1.1, ⟨hk.1.2, hk.2⟩⟩)), (by (with_reducible repeat (first | apply Kd.V_alloc | apply Kd.V_drewN | apply Kd.V_drew)); exact Kd.V_mono HO_1.out (fun _ hk => ⟨hk.1.1, ⟨hk.1.2, hk.2⟩⟩)), (by (with_reducible repeat (first | apply Kd.N_alloc | apply Kd.N_drewN | apply Kd.N_drew)); exact HO_9.out), (by (with_reducible repeat (first | refine blk_drewN ?_ _ | refine blk_drew ?_ | refine blk_alloc ?_ _)); exact BK279.out), GW279.out, GE279.out, (by repeat (first | (with_reducible first | exact HB.out | apply below_alloc | apply pw_below_drewN | apply below_drew1 | refine below_set ?_ GE279.out) | exact HB.out))⟩)
             ·skip
              refine box_step ?hg (N := 11) ?hd (cs := #[.slice none 0 0, .int .i64 0]) (t := 68) ?hr ?_; (case hd => rfl); (case hg => rfl); (case hr => first | (go_simp; done) | (go_simp; rfl))
              intro gb279 hg w59 hbox hb
              have HS0_ := (hb.cell (World.block_lt_of_cell? _ _ (hHeld.1))).trans (hHeld.1)
              have HS1_ := (hb.cell (World.block_lt_of_cell? _ _ (hHeld.2.1))).trans (hHeld.2.1)
              have HS2_ := (hb.cell (World.block_lt_of_cell? _ _ (hHeld.2.2.1))).trans (hHeld.2.2.1)
              have HS3_ := (hb.cell (World.block_lt_of_cell? _ _ (hHeld.2.2.2))).trans (hHeld.2.2.2)
              have n0_ := Aside0.mk (Kd.V_below (Kd.V_elderB (by (with_reducible repeat (first | apply Kd.V_alloc | apply Kd.V_drewN | apply Kd.V_drew)); exact HO_0.out) gb279 (Nat.le_of_eq hg.symm)) hb)
              have n1_ := Aside0.mk (Kd.V_below (Kd.V_elderB (by (with_reducible repeat (first | apply Kd.V_alloc | apply Kd.V_drewN | apply Kd.V_drew)); exact HO_1.out) gb279 (Nat.le_of_eq hg.symm)) hb)
              have n2_ := Aside0.mk (Kd.N_below (Kd.N_elderB (by (with_reducible repeat (first | apply Kd.N_alloc | apply Kd.N_drewN | apply Kd.N_drew)); exact HO_9.out) gb279 (Nat.le_of_eq hg.symm)) hb)
              have n3_ := Aside0.mk (Kd.V_below (Kd.V_elderB (by (with_reducible repeat (first | apply Kd.V_alloc | apply Kd.V_drewN | apply Kd.V_drew)); exact HL251_0.out) gb279 (Nat.le_of_eq hg.symm)) hb)
              have n4_ := Aside0.mk (Kd.V_below (Kd.V_elderB (by (with_reducible repeat (first | apply Kd.V_alloc | apply Kd.V_drewN | apply Kd.V_drew)); exact HL252_0.out) gb279 (Nat.le_of_eq hg.symm)) hb)
              have n5_ := Aside0.mk (Kd.V_below (Kd.V_elderB (by (with_reducible repeat (first | apply Kd.V_alloc | apply Kd.V_drewN | apply Kd.V_drew)); exact HL272_0.out) gb279 (Nat.le_of_eq hg.symm)) hb)
              have n6_ := Aside0.mk (Kd.V_below (Kd.V_elderB (by (with_reducible repeat (first | apply Kd.V_alloc | apply Kd.V_drewN | apply Kd.V_drew)); exact HL273_0.out) gb279 (Nat.le_of_eq hg.symm)) hb)
              have n7_ := Aside0.mk (Kd.C_below (by repeat (first | (with_reducible exact HR251_0.out) | (with_reducible refine Kd.C_alloc ?_ _) | (with_reducible refine Kd.C_drewN ?_ _) | (with_reducible refine Kd.C_drew ?_) | exact HR251_0.out)) hb)
              have n8_ := Aside0.mk (Kd.C_below (by repeat (first | (with_reducible exact HR252_0.out) | (with_reducible refine Kd.C_alloc ?_ _) | (with_reducible refine Kd.C_drewN ?_ _) | (with_reducible refine Kd.C_drew ?_) | exact HR252_0.out)) hb)
              have n9_ := Aside0.mk (Kd.C_below (by repeat (first | (with_reducible exact HR272_0.out) | (with_reducible refine Kd.C_alloc ?_ _) | (with_reducible refine Kd.C_drewN ?_ _) | (with_reducible refine Kd.C_drew ?_) | exact HR272_0.out)) hb)
              have n10_ := Aside0.mk (Kd.C_below (by repeat (first | (with_reducible exact HR273_0.out) | (with_reducible refine Kd.C_alloc ?_ _) | (with_reducible refine Kd.C_drewN ?_ _) | (with_reducible refine Kd.C_drew ?_) | exact HR273_0.out)) hb)
              have n11_ := Aside0.mk (below_step zhb hb)
              have n12_ := Aside0.mk (hbox)
              have n13_ := Aside0.mk ((by rw [hg]; exact (below_size zhb) : w.heap.size ≤ gb279))
              have n14_ := Aside0.mk ((by rw [hg]; exact (below_size zhb) : w.heap.size ≤ gb279))
              clear HO_0
              clear HO_1
              clear HO_9
              clear HL251_0
              clear HL252_0
              clear HL272_0
              clear HL273_0
              clear HR251_0
              clear HR252_0
              clear HR272_0
              clear HR273_0
              clear HB
              have HO_0 := n0_
              have HO_1 := n1_
              have HO_9 := n2_
              have HL251_0 := n3_
              have HL252_0 := n4_
              have HL272_0 := n5_
              have HL273_0 := n6_
              have HR251_0 := n7_
              have HR252_0 := n8_
              have HR272_0 := n9_
              have HR273_0 := n10_
              have HB := n11_
              have BK279 := n12_
              have GW279 := n13_
              have GE279 := n14_
              clear n0_ n1_ n2_ n3_ n4_ n5_ n6_ n7_ n8_ n9_ n10_ n11_ n12_ n13_ n14_
              clear hb hbox hg
              refine hK.out _ _ ⟨HS0_, HS1_, HS2_, HS3_⟩ (fun hHeld => ?_)
              clear hK K
              refine norm_ (a' := ?_) ?_ ?_
              rotate_left
              ·show Act.put _ (some 11) _ = _
               simp only [Act.put, zp1, zp2, zp3, i64_w, i32_w]
               rfl
              refine one_ (i := 7) (N := some 37) #[zt, zt, zt, zt, zt, zt, zt, zt, zf, zf, zf, zt, zf, zf] rfl rfl (one_of HT_.out (by kernel_rfl)) (by decide) (fun K hK => ?_)
              refine goes_f (.tmp 30) Try.func108 (by kernel_rfl) rfl #[.agg #[.slice A272_0 ((rd_T68 x0_1 0).f0).length c272_0, .int .i64 ((rd_T68 x0_1 0).f1)], .agg #[.slice A273_0 ((rd_T68 x1_1 0).f0).length c273_0, .int .i64 ((rd_T68 x1_1 0).f1)]] (by rfl) rfl rfl rfl zar ?_
              with_reducible refine (impl_together_1.calls (fun k_ => ((((P0_ k_ ∨ P1_ k_) ∨ w.heap.size ≤ k_) ∧ some k_ ≠ (u9 : Value).ownBlock) ∧ k_ ≠ gb279)) _ _ ((rd_T68 x0_1 0).f0) ((rd_T68 x0_1 0).f1) _ _ ((rd_T68 x1_1 0).f0) ((rd_T68 x1_1 0).f1) t274 t277 false _ ?side1 ?side2 ?side3 A30.out).mono ?_
              (case side1 => exact HL272_0.out)
              (case side2 => repeat (first | exact (by repeat (first | (with_reducible exact HR273_0.out) | (with_reducible refine Kd.C_alloc ?_ _) | (with_reducible refine Kd.C_drewN ?_ _) | (with_reducible refine Kd.C_drew ?_) | exact HR273_0.out)) | (with_reducible refine Kd.C_alloc ?_ _) | (with_reducible refine Kd.C_drewN ?_ _) | (with_reducible refine Kd.C_drew ?_)))
              (case side3 => exact HC273_0.out)
              rintro e w60 ⟨v275, rfl, ho0, hb⟩
              have HS0_ := (hb.cell (World.block_lt_of_cell? _ _ (hHeld.1))).trans (hHeld.1)
              have HS1_ := (hb.cell (World.block_lt_of_cell? _ _ (hHeld.2.1))).trans (hHeld.2.1)
              have HS2_ := (hb.cell (World.block_lt_of_cell? _ _ (hHeld.2.2.1))).trans (hHeld.2.2.1)
              have HS3_ := (hb.cell (World.block_lt_of_cell? _ _ (hHeld.2.2.2))).trans (hHeld.2.2.2)
              refine ⟨_, rfl, ?_⟩
              have n0_ := Aside0.mk (Kd.V_below (by (with_reducible repeat (first | apply Kd.V_alloc | apply Kd.V_drewN | apply Kd.V_drew)); exact HO_0.out) hb)
              have n1_ := Aside0.mk (Kd.V_below (by (with_reducible repeat (first | apply Kd.V_alloc | apply Kd.V_drewN | apply Kd.V_drew)); exact HO_1.out) hb)
              have n2_ := Aside0.mk (Kd.N_below (by (with_reducible repeat (first | apply Kd.N_alloc | apply Kd.N_drewN | apply Kd.N_drew)); exact HO_9.out) hb)
              have n3_ := Aside0.mk (Kd.V_below (by (with_reducible repeat (first | apply Kd.V_alloc | apply Kd.V_drewN | apply Kd.V_drew)); exact HL251_0.out) hb)
              have n4_ := Aside0.mk (Kd.V_below (by (with_reducible repeat (first | apply Kd.V_alloc | apply Kd.V_drewN | apply Kd.V_drew)); exact HL252_0.out) hb)
              have n5_ := Aside0.mk (Kd.V_below (by (with_reducible repeat (first | apply Kd.V_alloc | apply Kd.V_drewN | apply Kd.V_drew)); exact HL272_0.out) hb)
              have n6_ := Aside0.mk (Kd.V_below (by (with_reducible repeat (first | apply Kd.V_alloc | apply Kd.V_drewN | apply Kd.V_drew)); exact HL273_0.out) hb)
              have n7_ := Aside0.mk (Kd.V_lower (Kd.V_mono (ok' := fun k_ => ((P0_ k_ ∨ P1_ k_) ∨ w.heap.size ≤ k_) ∧ some k_ ≠ (u9 : Value).ownBlock ∧ k_ ≠ gb279) ho0 (fun k_ hk_ => ⟨Or.elim hk_ (fun hs_ => hs_.1.1) (fun hn_ => (.inr (Nat.le_trans (below_size (by repeat (first | (with_reducible first | exact HB.out | apply below_alloc | apply pw_below_drewN | apply below_drew1 | refine below_set ?_ GE279.out) | exact HB.out))) hn_))), Or.elim hk_ (fun hs_ => hs_.1.2) (fun hn_ => (Kd.fresh' (Kd.N_lt (by (with_reducible repeat (first | apply Kd.N_alloc | apply Kd.N_drewN | apply Kd.N_drew)); exact HO_9.out)) k_ hn_)), Or.elim hk_ (fun hs_ => hs_.2) (fun hn_ => (Kd.freshB (g := gb279) (o := .cells #[.slice none 0 0, .int .i64 0] 68 (0, 0)) (by (with_reducible repeat (first | refine blk_drewN ?_ _ | refine blk_drew ?_ | refine blk_alloc ?_ _)); exact BK279.out) k_ hn_))⟩)) (below_size (by repeat (first | (with_reducible first | exact HB.out | apply below_alloc | apply pw_below_drewN | apply below_drew1 | refine below_set ?_ GE279.out) | exact HB.out))))
              have n8_ := Aside0.mk (Kd.C_below (by repeat (first | (with_reducible exact HR251_0.out) | (with_reducible refine Kd.C_alloc ?_ _) | (with_reducible refine Kd.C_drewN ?_ _) | (with_reducible refine Kd.C_drew ?_) | exact HR251_0.out)) hb)
              have n9_ := Aside0.mk (Kd.C_below (by repeat (first | (with_reducible exact HR252_0.out) | (with_reducible refine Kd.C_alloc ?_ _) | (with_reducible refine Kd.C_drewN ?_ _) | (with_reducible refine Kd.C_drew ?_) | exact HR252_0.out)) hb)
              have n10_ := Aside0.mk (Kd.C_below (by repeat (first | (with_reducible exact HR272_0.out) | (with_reducible refine Kd.C_alloc ?_ _) | (with_reducible refine Kd.C_drewN ?_ _) | (with_reducible refine Kd.C_drew ?_) | exact HR272_0.out)) hb)
              have n11_ := Aside0.mk (Kd.C_below (by repeat (first | (with_reducible exact HR273_0.out) | (with_reducible refine Kd.C_alloc ?_ _) | (with_reducible refine Kd.C_drewN ?_ _) | (with_reducible refine Kd.C_drew ?_) | exact HR273_0.out)) hb)
              have n12_ := Aside0.mk (blk_below (g := gb279) (o := .cells #[.slice none 0 0, .int .i64 0] 68 (0, 0)) (by (with_reducible repeat (first | refine blk_drewN ?_ _ | refine blk_drew ?_ | refine blk_alloc ?_ _)); exact BK279.out) hb)
              have n13_ := Aside0.mk (below_step (by repeat (first | (with_reducible first | exact HB.out | apply below_alloc | apply pw_below_drewN | apply below_drew1 | refine below_set ?_ GE279.out) | exact HB.out)) hb)
              clear HO_0
              clear HO_1
              clear HO_9
              clear HL251_0
              clear HL252_0
              clear HL272_0
              clear HL273_0
              clear HR251_0
              clear HR252_0
              clear HR272_0
              clear HR273_0
              clear BK279
              clear HB
              have HO_0 := n0_
              have HO_1 := n1_
              have HO_9 := n2_
              have HL251_0 := n3_
              have HL252_0 := n4_
              have HL272_0 := n5_
              have HL273_0 := n6_
              have HO276 := n7_
              have HR251_0 := n8_
              have HR252_0 := n9_
              have HR272_0 := n10_
              have HR273_0 := n11_
              have BK279 := n12_
              have HB := n13_
              clear n0_ n1_ n2_ n3_ n4_ n5_ n6_ n7_ n8_ n9_ n10_ n11_ n12_ n13_
              (try clear hb)
              (try clear hb2)
              (try clear hk)
              (try clear hi)
              (try clear ho0)
              refine hK.out _ _ ⟨HS0_, HS1_, HS2_, HS3_⟩ (fun hHeld => ?_)
              clear hK K
              refine norm_ (a' := ?_) ?_ ?_
              rotate_left
              ·show Act.put _ (some 37) _ = _
               simp only [Act.put, zp1, zp2, zp3, i64_w, i32_w]
               rfl
              refine pure_ (i := 8) (N := some 29) (v := ?_) (a' := ?_) #[zt, zt, zt, zt, zt, zt, zt, zt, zt, zf, zf, zt, zf, zf] rfl rfl (any_of HT_.out (by kernel_rfl)) (fun _ _ _ h => h) (Or.inl ⟨by rfl, ?_⟩) ?_ ?_
              rotate_left
              ·intro w'
               go_simp
               with_reducible rfl
              rotate_left
              ·simp only [Act.put, zp1, zp2, zp3, i64_w, i32_w]
               rfl
              refine pure_ (i := 9) (N := some 38) (v := ?_) (a' := ?_) #[zt, zt, zt, zt, zt, zt, zt, zt, zt, zt, zf, zt, zf, zf] rfl rfl (any_of HT_.out (by kernel_rfl)) (fun _ _ _ h => h) (Or.inl ⟨by rfl, ?_⟩) ?_ ?_
              rotate_left
              ·intro w'
               go_simp
               with_reducible rfl
              rotate_left
              ·simp only [Act.put, zp1, zp2, zp3, i64_w, i32_w]
               rfl
              refine pure_ (i := 10) (N := some 39) (v := ?_) (a' := ?_) #[zt, zt, zt, zt, zt, zt, zt, zt, zt, zt, zt, zt, zf, zf] rfl rfl (any_of HT_.out (by kernel_rfl)) (fun _ _ _ h => h) (Or.inl ⟨by rfl, ?_⟩) ?_ ?_
              rotate_left
              ·intro w'
               go_simp
               with_reducible rfl
              rotate_left
              ·simp only [Act.put, zp1, zp2, zp3, i64_w, i32_w]
               rfl
              exact norm_ (by simp only [putAll, Act.put, zp1, zp2, zp3]) (hCont (v275, gb279) _ ⟨hHeld, (by (with_reducible repeat (first | apply Kd.V_alloc | apply Kd.V_drewN | apply Kd.V_drew)); exact Kd.V_mono HL251_0.out (fun _ hk => ⟨hk.1.1, ⟨hk.1.2, hk.2⟩⟩)), (by (with_reducible repeat (first | apply Kd.V_alloc | apply Kd.V_drewN | apply Kd.V_drew)); exact Kd.V_mono HL252_0.out (fun _ hk => ⟨hk.1.1, ⟨hk.1.2, hk.2⟩⟩)), (by (with_reducible repeat (first | apply Kd.V_alloc | apply Kd.V_drewN | apply Kd.V_drew)); exact Kd.V_mono HL272_0.out (fun _ hk => ⟨hk.1.1, ⟨hk.1.2, hk.2⟩⟩)), (by (with_reducible repeat (first | apply Kd.V_alloc | apply Kd.V_drewN | apply Kd.V_drew)); exact Kd.V_mono HL273_0.out (fun _ hk => ⟨hk.1.1, ⟨hk.1.2, hk.2⟩⟩)), (by (with_reducible repeat (first | apply Kd.V_alloc | apply Kd.V_drewN | apply Kd.V_drew)); exact HO276.out), (by (with_reducible repeat (first | apply Kd.V_alloc | apply Kd.V_drewN | apply Kd.V_drew)); exact Kd.V_mono HO_0.out (fun _ hk => ⟨hk.1.1, ⟨hk.1.2, hk.2⟩⟩)), (by (with_reducible repeat (first | apply Kd.V_alloc | apply Kd.V_drewN | apply Kd.V_drew)); exact Kd.V_mono HO_1.out (fun _ hk => ⟨hk.1.1, ⟨hk.1.2, hk.2⟩⟩)), (by (with_reducible repeat (first | apply Kd.N_alloc | apply Kd.N_drewN | apply Kd.N_drew)); exact HO_9.out), (by (with_reducible repeat (first | refine blk_drewN ?_ _ | refine blk_drew ?_ | refine blk_alloc ?_ _)); exact BK279.out), GW279.out, GE279.out, (by repeat (first | (with_reducible first | exact HB.out | apply below_alloc | apply pw_below_drewN | apply below_drew1 | refine below_set ?_ GE279.out) | exact HB.out))⟩)
            rintro ⟨v275, gb279⟩ w61 ⟨hS_, h0_, h1_, h2_, h3_, h4_, h5_, h6_, h7_, h8_, h9_, h10_, h11_⟩
            have n0_ : Aside0 (Kd.V (Kd.int .i64) 3 w61 w.heap.size (fun k_ => ((P0_ k_ ∨ P1_ k_) ∨ w.heap.size ≤ k_) ∧ some k_ ≠ (u9 : Value).ownBlock ∧ k_ ≠ gb279) (.slice A251_0 ((rd_T68 x0_1 0).f0).length c251_0) ((rd_T68 x0_1 0).f0)) := ⟨h0_⟩
            have n1_ : Aside0 (Kd.V (Kd.int .i64) 3 w61 w.heap.size (fun k_ => ((P0_ k_ ∨ P1_ k_) ∨ w.heap.size ≤ k_) ∧ some k_ ≠ (u9 : Value).ownBlock ∧ k_ ≠ gb279) (.slice A252_0 ((rd_T68 x1_1 0).f0).length c252_0) ((rd_T68 x1_1 0).f0)) := ⟨h1_⟩
            have n2_ : Aside0 (Kd.V (Kd.int .i64) 3 w61 w.heap.size (fun k_ => ((P0_ k_ ∨ P1_ k_) ∨ w.heap.size ≤ k_) ∧ some k_ ≠ (u9 : Value).ownBlock ∧ k_ ≠ gb279) (.slice A272_0 ((rd_T68 x0_1 0).f0).length c272_0) ((rd_T68 x0_1 0).f0)) := ⟨h2_⟩
            have n3_ : Aside0 (Kd.V (Kd.int .i64) 3 w61 w.heap.size (fun k_ => ((P0_ k_ ∨ P1_ k_) ∨ w.heap.size ≤ k_) ∧ some k_ ≠ (u9 : Value).ownBlock ∧ k_ ≠ gb279) (.slice A273_0 ((rd_T68 x1_1 0).f0).length c273_0) ((rd_T68 x1_1 0).f0)) := ⟨h3_⟩
            have n4_ : Aside0 (Kd.V (Kd.int .i64) 3 w61 w.heap.size (fun k_ => ((P0_ k_ ∨ P1_ k_) ∨ w.heap.size ≤ k_) ∧ some k_ ≠ (u9 : Value).ownBlock ∧ k_ ≠ gb279) v275 t274) := ⟨h4_⟩
            have n5_ : Aside0 (Kd.V k68 68 w61 w.heap.size (fun k_ => ((P0_ k_ ∨ P1_ k_) ∨ w.heap.size ≤ k_) ∧ some k_ ≠ (u9 : Value).ownBlock ∧ k_ ≠ gb279) (.slice (some ad251) x0_1.length co54) x0_1) := ⟨h5_⟩
            have n6_ : Aside0 (Kd.V k68 68 w61 w.heap.size (fun k_ => ((P0_ k_ ∨ P1_ k_) ∨ w.heap.size ≤ k_) ∧ some k_ ≠ (u9 : Value).ownBlock ∧ k_ ≠ gb279) (.slice (some ad252) x1_1.length co55) x1_1) := ⟨h6_⟩
            have n7_ : Aside0 (Kd.N k68 68 w61 w.heap.size (fun k_ => ((P0_ k_ ∨ P1_ k_) ∨ w.heap.size ≤ k_) ∧ k_ ≠ gb279) u9 x9_1) := ⟨h7_⟩
            have n8_ : Aside0 (w61.heap[gb279]? = some (.cells #[.slice none 0 0, .int .i64 0] 68 (0, 0))) := ⟨h8_⟩
            have n9_ : Aside0 (w.heap.size ≤ gb279) := ⟨h9_⟩
            have n10_ : Aside0 (w.heap.size ≤ gb279) := ⟨h10_⟩
            have n11_ : Aside0 (Below w.heap.size w w61) := ⟨h11_⟩
            clear HO_0
            clear HO_1
            clear HO_9
            clear HL251_0
            clear HL252_0
            clear HR251_0
            clear HR252_0
            clear HB
            clear h0_ h1_ h2_ h3_ h4_ h5_ h6_ h7_ h8_ h9_ h10_ h11_
            have HL251_0 := n0_
            have HL252_0 := n1_
            have HL272_0 := n2_
            have HL273_0 := n3_
            have HO276 := n4_
            have HO_0 := n5_
            have HO_1 := n6_
            have HO_9 := n7_
            have BK279 := n8_
            have GW279 := n9_
            have GE279 := n10_
            have HB := n11_
            clear n0_ n1_ n2_ n3_ n4_ n5_ n6_ n7_ n8_ n9_ n10_ n11_
            have hHeld : w61.cell? ad251 = some (.slice A272_0 ((rd_T68 x0_1 0).f0).length c272_0) ∧ w61.cell? ⟨ad251.block, ad251.off + 1, none⟩ = some (.int .i64 ((rd_T68 x0_1 0).f1)) ∧ w61.cell? ad252 = some (.slice A273_0 ((rd_T68 x1_1 0).f0).length c273_0) ∧ w61.cell? ⟨ad252.block, ad252.off + 1, none⟩ = some (.int .i64 ((rd_T68 x1_1 0).f1)) := hS_
            obtain ⟨Ao62, co62, eo62⟩ := Kd.V_slice HO276.out
            (first | subst eo62 | (injection eo62 with f1_ f2_ f3_; have f4_ := f1_.symm; have f5_ := f3_.symm; clear f1_ f2_ f3_; subst f4_; subst f5_))
            refine norm_ (a' := ?_) ?_ ?_
            rotate_left
            ·simp only [putAll, Act.put, zp1, zp2, zp3]
             rfl
            refine one_ (i := 12) (N := none) #[zt, zt, zt, zt, zt, zt, zt, zt, zt, zt, zt, zt, zt, zf] rfl rfl (one_of HT_.out (by kernel_rfl)) (by decide) (fun K hK => ?_)
            have hs63 : w61.cell? ⟨gb279, 0, none⟩ = some (.slice none 0 0) := (blk_cell BK279.out 0).trans rfl
            have hfs63 := blk_frozen BK279.out 0
            have hs64 : w61.cell? ⟨gb279, 1, none⟩ = some (.int .i64 0) := (blk_cell BK279.out 1).trans rfl
            have hfs64 := blk_frozen BK279.out 1
            refine skip_ (w1 := ?_) (by rfl) rfl ?_ ?_
            rotate_left
            ·go_simp
             rfl
            refine hK.out _ _ ⟨((cell_far (p := ⟨gb279, _, none⟩) (by first | exact Kd.own_blk (Kd.V_away HO_0.out (fun _ hk => hk.2.2)) | (rw [add_block]; exact Kd.own_blk (Kd.V_away HO_0.out (fun _ hk => hk.2.2))) | (show (Addr.add _ _).block ≠ _; rw [add_block]; exact Kd.own_blk (Kd.V_away HO_0.out (fun _ hk => hk.2.2))) | (dsimp only; exact Kd.own_blk (Kd.V_away HO_0.out (fun _ hk => hk.2.2)))) _).trans (((cell_far (p := ⟨gb279, _, none⟩) (by first | exact Kd.own_blk (Kd.V_away HO_0.out (fun _ hk => hk.2.2)) | (rw [add_block]; exact Kd.own_blk (Kd.V_away HO_0.out (fun _ hk => hk.2.2))) | (show (Addr.add _ _).block ≠ _; rw [add_block]; exact Kd.own_blk (Kd.V_away HO_0.out (fun _ hk => hk.2.2))) | (dsimp only; exact Kd.own_blk (Kd.V_away HO_0.out (fun _ hk => hk.2.2)))) _).trans (hHeld.1)))), ((cell_far (p := ⟨gb279, _, none⟩) (by first | exact Kd.own_blk (Kd.V_away HO_0.out (fun _ hk => hk.2.2)) | (rw [add_block]; exact Kd.own_blk (Kd.V_away HO_0.out (fun _ hk => hk.2.2))) | (show (Addr.add _ _).block ≠ _; rw [add_block]; exact Kd.own_blk (Kd.V_away HO_0.out (fun _ hk => hk.2.2))) | (dsimp only; exact Kd.own_blk (Kd.V_away HO_0.out (fun _ hk => hk.2.2)))) _).trans (((cell_far (p := ⟨gb279, _, none⟩) (by first | exact Kd.own_blk (Kd.V_away HO_0.out (fun _ hk => hk.2.2)) | (rw [add_block]; exact Kd.own_blk (Kd.V_away HO_0.out (fun _ hk => hk.2.2))) | (show (Addr.add _ _).block ≠ _; rw [add_block]; exact Kd.own_blk (Kd.V_away HO_0.out (fun _ hk => hk.2.2))) | (dsimp only; exact Kd.own_blk (Kd.V_away HO_0.out (fun _ hk => hk.2.2)))) _).trans (hHeld.2.1)))), ((cell_far (p := ⟨gb279, _, none⟩) (by first | exact Kd.own_blk (Kd.V_away HO_1.out (fun _ hk => hk.2.2)) | (rw [add_block]; exact Kd.own_blk (Kd.V_away HO_1.out (fun _ hk => hk.2.2))) | (show (Addr.add _ _).block ≠ _; rw [add_block]; exact Kd.own_blk (Kd.V_away HO_1.out (fun _ hk => hk.2.2))) | (dsimp only; exact Kd.own_blk (Kd.V_away HO_1.out (fun _ hk => hk.2.2)))) _).trans (((cell_far (p := ⟨gb279, _, none⟩) (by first | exact Kd.own_blk (Kd.V_away HO_1.out (fun _ hk => hk.2.2)) | (rw [add_block]; exact Kd.own_blk (Kd.V_away HO_1.out (fun _ hk => hk.2.2))) | (show (Addr.add _ _).block ≠ _; rw [add_block]; exact Kd.own_blk (Kd.V_away HO_1.out (fun _ hk => hk.2.2))) | (dsimp only; exact Kd.own_blk (Kd.V_away HO_1.out (fun _ hk => hk.2.2)))) _).trans (hHeld.2.2.1)))), ((cell_far (p := ⟨gb279, _, none⟩) (by first | exact Kd.own_blk (Kd.V_away HO_1.out (fun _ hk => hk.2.2)) | (rw [add_block]; exact Kd.own_blk (Kd.V_away HO_1.out (fun _ hk => hk.2.2))) | (show (Addr.add _ _).block ≠ _; rw [add_block]; exact Kd.own_blk (Kd.V_away HO_1.out (fun _ hk => hk.2.2))) | (dsimp only; exact Kd.own_blk (Kd.V_away HO_1.out (fun _ hk => hk.2.2)))) _).trans (((cell_far (p := ⟨gb279, _, none⟩) (by first | exact Kd.own_blk (Kd.V_away HO_1.out (fun _ hk => hk.2.2)) | (rw [add_block]; exact Kd.own_blk (Kd.V_away HO_1.out (fun _ hk => hk.2.2))) | (show (Addr.add _ _).block ≠ _; rw [add_block]; exact Kd.own_blk (Kd.V_away HO_1.out (fun _ hk => hk.2.2))) | (dsimp only; exact Kd.own_blk (Kd.V_away HO_1.out (fun _ hk => hk.2.2)))) _).trans (hHeld.2.2.2))))⟩ (fun hHeld => ?_)
            clear hK K
            refine pure_ (i := 13) (N := some 12) (v := ?_) (a' := ?_) #[zt, zt, zt, zt, zt, zt, zt, zt, zt, zt, zt, zt, zt, zt] rfl rfl (any_of HT_.out (by kernel_rfl)) (fun _ _ _ h => h) (Or.inl ⟨by rfl, ?_⟩) ?_ ?_
            rotate_left
            ·intro w'
             go_simp
             with_reducible rfl
            rotate_left
            ·simp only [Act.put, zp1, zp2, zp3, i64_w, i32_w]
             rfl
            refine done_ (done_of HT_.out (by kernel_rfl)) ?_
            try go_wp2
            have n0_ : Aside0 (Kd.V k68 68 ((w61.setCell ⟨gb279, 0, none⟩ (.slice Ao62 t274.length co62)).setCell ⟨gb279, 1, none⟩ (.int .i64 t277)) w.heap.size (fun k_ => ((P0_ k_ ∨ P1_ k_) ∨ w.heap.size ≤ k_) ∧ some k_ ≠ (u9 : Value).ownBlock ∧ k_ ≠ gb279) (.slice (some ad251) x0_1.length co54) x0_1) := ⟨by (with_reducible repeat (first | apply Kd.V_alloc | apply Kd.V_drewN | apply Kd.V_drew)); exact Kd.V_mono (Kd.V_far (p := ⟨gb279, 1, none⟩) (Kd.V_far (p := ⟨gb279, 0, none⟩) (Kd.V_mono HO_0.out (fun k_ hk => (⟨hk, hk.2.2⟩ : _ ∧ k_ ≠ gb279))) (fun _ hk => hk.2) (.slice Ao62 t274.length co62)) (fun _ hk => hk.2) (.int .i64 t277)) (fun _ hk => ⟨hk.1.1, ⟨hk.1.2.1, hk.1.2.2⟩⟩)⟩
            have n1_ : Aside0 (Kd.V k68 68 ((w61.setCell ⟨gb279, 0, none⟩ (.slice Ao62 t274.length co62)).setCell ⟨gb279, 1, none⟩ (.int .i64 t277)) w.heap.size (fun k_ => ((P0_ k_ ∨ P1_ k_) ∨ w.heap.size ≤ k_) ∧ some k_ ≠ (u9 : Value).ownBlock ∧ k_ ≠ gb279) (.slice (some ad252) x1_1.length co55) x1_1) := ⟨by (with_reducible repeat (first | apply Kd.V_alloc | apply Kd.V_drewN | apply Kd.V_drew)); exact Kd.V_mono (Kd.V_far (p := ⟨gb279, 1, none⟩) (Kd.V_far (p := ⟨gb279, 0, none⟩) (Kd.V_mono HO_1.out (fun k_ hk => (⟨hk, hk.2.2⟩ : _ ∧ k_ ≠ gb279))) (fun _ hk => hk.2) (.slice Ao62 t274.length co62)) (fun _ hk => hk.2) (.int .i64 t277)) (fun _ hk => ⟨hk.1.1, ⟨hk.1.2.1, hk.1.2.2⟩⟩)⟩
            have n2_ : Aside0 (Kd.N k68 68 ((w61.setCell ⟨gb279, 0, none⟩ (.slice Ao62 t274.length co62)).setCell ⟨gb279, 1, none⟩ (.int .i64 t277)) w.heap.size (fun k_ => ((P0_ k_ ∨ P1_ k_) ∨ w.heap.size ≤ k_) ∧ k_ ≠ gb279) u9 x9_1) := ⟨by (with_reducible repeat (first | apply Kd.N_alloc | apply Kd.N_drewN | apply Kd.N_drew)); exact Kd.N_mono (Kd.N_far (p := ⟨gb279, 1, none⟩) (Kd.N_far (p := ⟨gb279, 0, none⟩) (Kd.N_mono HO_9.out (fun k_ hk => (⟨hk, hk.2⟩ : _ ∧ k_ ≠ gb279))) (fun _ hk => hk.2) (.slice Ao62 t274.length co62)) (fun _ hk => hk.2) (.int .i64 t277)) (fun _ hk => ⟨hk.1.1, hk.1.2⟩)⟩
            have n3_ : Aside0 (Kd.V (Kd.int .i64) 3 ((w61.setCell ⟨gb279, 0, none⟩ (.slice Ao62 t274.length co62)).setCell ⟨gb279, 1, none⟩ (.int .i64 t277)) w.heap.size (fun k_ => ((P0_ k_ ∨ P1_ k_) ∨ w.heap.size ≤ k_) ∧ some k_ ≠ (u9 : Value).ownBlock ∧ k_ ≠ gb279) (.slice A251_0 ((rd_T68 x0_1 0).f0).length c251_0) ((rd_T68 x0_1 0).f0)) := ⟨by (with_reducible repeat (first | apply Kd.V_alloc | apply Kd.V_drewN | apply Kd.V_drew)); exact Kd.V_mono (Kd.V_far (p := ⟨gb279, 1, none⟩) (Kd.V_far (p := ⟨gb279, 0, none⟩) (Kd.V_mono HL251_0.out (fun k_ hk => (⟨hk, hk.2.2⟩ : _ ∧ k_ ≠ gb279))) (fun _ hk => hk.2) (.slice Ao62 t274.length co62)) (fun _ hk => hk.2) (.int .i64 t277)) (fun _ hk => ⟨hk.1.1, ⟨hk.1.2.1, hk.1.2.2⟩⟩)⟩
            have n4_ : Aside0 (Kd.V (Kd.int .i64) 3 ((w61.setCell ⟨gb279, 0, none⟩ (.slice Ao62 t274.length co62)).setCell ⟨gb279, 1, none⟩ (.int .i64 t277)) w.heap.size (fun k_ => ((P0_ k_ ∨ P1_ k_) ∨ w.heap.size ≤ k_) ∧ some k_ ≠ (u9 : Value).ownBlock ∧ k_ ≠ gb279) (.slice A252_0 ((rd_T68 x1_1 0).f0).length c252_0) ((rd_T68 x1_1 0).f0)) := ⟨by (with_reducible repeat (first | apply Kd.V_alloc | apply Kd.V_drewN | apply Kd.V_drew)); exact Kd.V_mono (Kd.V_far (p := ⟨gb279, 1, none⟩) (Kd.V_far (p := ⟨gb279, 0, none⟩) (Kd.V_mono HL252_0.out (fun k_ hk => (⟨hk, hk.2.2⟩ : _ ∧ k_ ≠ gb279))) (fun _ hk => hk.2) (.slice Ao62 t274.length co62)) (fun _ hk => hk.2) (.int .i64 t277)) (fun _ hk => ⟨hk.1.1, ⟨hk.1.2.1, hk.1.2.2⟩⟩)⟩
            have n5_ : Aside0 (Kd.V (Kd.int .i64) 3 ((w61.setCell ⟨gb279, 0, none⟩ (.slice Ao62 t274.length co62)).setCell ⟨gb279, 1, none⟩ (.int .i64 t277)) w.heap.size (fun k_ => ((P0_ k_ ∨ P1_ k_) ∨ w.heap.size ≤ k_) ∧ some k_ ≠ (u9 : Value).ownBlock ∧ k_ ≠ gb279) (.slice A272_0 ((rd_T68 x0_1 0).f0).length c272_0) ((rd_T68 x0_1 0).f0)) := ⟨by (with_reducible repeat (first | apply Kd.V_alloc | apply Kd.V_drewN | apply Kd.V_drew)); exact Kd.V_mono (Kd.V_far (p := ⟨gb279, 1, none⟩) (Kd.V_far (p := ⟨gb279, 0, none⟩) (Kd.V_mono HL272_0.out (fun k_ hk => (⟨hk, hk.2.2⟩ : _ ∧ k_ ≠ gb279))) (fun _ hk => hk.2) (.slice Ao62 t274.length co62)) (fun _ hk => hk.2) (.int .i64 t277)) (fun _ hk => ⟨hk.1.1, ⟨hk.1.2.1, hk.1.2.2⟩⟩)⟩
            have n6_ : Aside0 (Kd.V (Kd.int .i64) 3 ((w61.setCell ⟨gb279, 0, none⟩ (.slice Ao62 t274.length co62)).setCell ⟨gb279, 1, none⟩ (.int .i64 t277)) w.heap.size (fun k_ => ((P0_ k_ ∨ P1_ k_) ∨ w.heap.size ≤ k_) ∧ some k_ ≠ (u9 : Value).ownBlock ∧ k_ ≠ gb279) (.slice A273_0 ((rd_T68 x1_1 0).f0).length c273_0) ((rd_T68 x1_1 0).f0)) := ⟨by (with_reducible repeat (first | apply Kd.V_alloc | apply Kd.V_drewN | apply Kd.V_drew)); exact Kd.V_mono (Kd.V_far (p := ⟨gb279, 1, none⟩) (Kd.V_far (p := ⟨gb279, 0, none⟩) (Kd.V_mono HL273_0.out (fun k_ hk => (⟨hk, hk.2.2⟩ : _ ∧ k_ ≠ gb279))) (fun _ hk => hk.2) (.slice Ao62 t274.length co62)) (fun _ hk => hk.2) (.int .i64 t277)) (fun _ hk => ⟨hk.1.1, ⟨hk.1.2.1, hk.1.2.2⟩⟩)⟩
            have n7_ : Aside0 (Kd.V (Kd.int .i64) 3 ((w61.setCell ⟨gb279, 0, none⟩ (.slice Ao62 t274.length co62)).setCell ⟨gb279, 1, none⟩ (.int .i64 t277)) w.heap.size (fun k_ => ((P0_ k_ ∨ P1_ k_) ∨ w.heap.size ≤ k_) ∧ some k_ ≠ (u9 : Value).ownBlock ∧ k_ ≠ gb279) (.slice Ao62 t274.length co62) t274) := ⟨by (with_reducible repeat (first | apply Kd.V_alloc | apply Kd.V_drewN | apply Kd.V_drew)); exact Kd.V_mono (Kd.V_far (p := ⟨gb279, 1, none⟩) (Kd.V_far (p := ⟨gb279, 0, none⟩) (Kd.V_mono HO276.out (fun k_ hk => (⟨hk, hk.2.2⟩ : _ ∧ k_ ≠ gb279))) (fun _ hk => hk.2) (.slice Ao62 t274.length co62)) (fun _ hk => hk.2) (.int .i64 t277)) (fun _ hk => ⟨hk.1.1, ⟨hk.1.2.1, hk.1.2.2⟩⟩)⟩
            have n8_ : Aside0 (((w61.setCell ⟨gb279, 0, none⟩ (.slice Ao62 t274.length co62)).setCell ⟨gb279, 1, none⟩ (.int .i64 t277)).heap[gb279]? = some (.cells #[.slice Ao62 t274.length co62, .int .i64 t277] 68 (0, 0))) := ⟨by (with_reducible repeat (first | refine blk_drewN ?_ _ | refine blk_drew ?_ | refine blk_alloc ?_ _)); refine blk_put (cs := #[.slice Ao62 t274.length co62, .int .i64 0]) ?_ 1 _ rfl; (with_reducible repeat (first | refine blk_drewN ?_ _ | refine blk_drew ?_ | refine blk_alloc ?_ _)); refine blk_put (cs := #[.slice none 0 0, .int .i64 0]) ?_ 0 _ rfl; (with_reducible repeat (first | refine blk_drewN ?_ _ | refine blk_drew ?_ | refine blk_alloc ?_ _)); exact BK279.out⟩
            have n9_ : Aside0 (Below w.heap.size w ((w61.setCell ⟨gb279, 0, none⟩ (.slice Ao62 t274.length co62)).setCell ⟨gb279, 1, none⟩ (.int .i64 t277))) := ⟨by repeat (first | (with_reducible first | exact HB.out | apply below_alloc | apply pw_below_drewN | apply below_drew1 | refine below_set ?_ GE279.out) | exact HB.out)⟩
            (try clear HO_0)
            (try clear HO_1)
            (try clear HO_9)
            (try clear HL251_0)
            (try clear HL252_0)
            (try clear HL272_0)
            (try clear HL273_0)
            (try clear HO276)
            (try clear BK279)
            (try clear HB)
            generalize ((w61.setCell ⟨gb279, 0, none⟩ (.slice Ao62 t274.length co62)).setCell ⟨gb279, 1, none⟩ (.int .i64 t277)) = w65 at n0_ n1_ n2_ n3_ n4_ n5_ n6_ n7_ n8_ n9_ ⊢
            have HO_0 := n0_
            have HO_1 := n1_
            have HO_9 := n2_
            have HL251_0 := n3_
            have HL252_0 := n4_
            have HL272_0 := n5_
            have HL273_0 := n6_
            have HO276 := n7_
            have BK279 := n8_
            have HB := n9_
            clear n0_ n1_ n2_ n3_ n4_ n5_ n6_ n7_ n8_ n9_
            have n0_ := Aside0.mk (Kd.V_drew HO_0.out)
            have n1_ := Aside0.mk (Kd.V_drew HO_1.out)
            have n2_ := Aside0.mk (Kd.N_drew HO_9.out)
            have n3_ := Aside0.mk (Kd.V_drew HL251_0.out)
            have n4_ := Aside0.mk (Kd.V_drew HL252_0.out)
            have n5_ := Aside0.mk (Kd.V_drew HL272_0.out)
            have n6_ := Aside0.mk (Kd.V_drew HL273_0.out)
            have n7_ := Aside0.mk (Kd.V_drew HO276.out)
            have n8_ := Aside0.mk (blk_drew BK279.out)
            have n9_ := Aside0.mk (below_drew1 HB.out)
            clear HO_0
            clear HO_1
            clear HO_9
            clear HL251_0
            clear HL252_0
            clear HL272_0
            clear HL273_0
            clear HO276
            clear BK279
            clear HB
            have HO_0 := n0_
            have HO_1 := n1_
            have HO_9 := n2_
            have HL251_0 := n3_
            have HL252_0 := n4_
            have HL272_0 := n5_
            have HL273_0 := n6_
            have HO276 := n7_
            have BK279 := n8_
            have HB := n9_
            clear n0_ n1_ n2_ n3_ n4_ n5_ n6_ n7_ n8_ n9_
            have q67 : (1 : Int) ≤ ((x0_1.length : Int) : Int) := zod
            obtain ⟨i067, hi067, _, hsz67, _⟩ := info_parts info68
            have hroom67 : x0_1.length ≤ co54 := (Kd.V_reads' HO_0.out).2.1
            have hC67 : Kd.F k68 _ _ (some ad251) x0_1.length x0_1 := (Kd.V_at (base := w.heap.size) HO_0.out).2.2
            have hcut67 := cut_from (P := Try.prog) 33 68 .i64 Try.underlying33 hi067 2 hsz67 (some ad251) x0_1.length co54 1 (by omega) q67
            have hr67 := Kd.F_cut (m := (1 : Int).toNat) (c := co54) hC67 (by omega) hroom67
            obtain ⟨A67, hA67⟩ : ∃ A1, A1 = (if co54 = (1 : Int).toNat then (some ad251) else ((some ad251) : Option Addr).map (·.add ((1 : Int).toNat * 2))) := ⟨_, rfl⟩
            obtain ⟨c67, hc67⟩ : ∃ c1, c1 = co54 - (1 : Int).toNat := ⟨_, rfl⟩
            have hy67 : y293.length = x0_1.length - (1 : Int).toNat := (by rw [Ny293.out, List.length_drop] <;> omega)
            rw [show (x0_1).drop (1 : Int).toNat = y293 from Ny293.out.symm] at hr67
            replace hr67 : Kd.F k68 _ _ A67 y293.length y293 := (by rw [hA67]; exact hr67)
            rw [← hy67, ← hA67, ← hc67] at hcut67
            have HO297 := Aside0.mk (show Kd.V k68 68 _ w.heap.size _ (.slice A67 y293.length c67) y293 from Kd.V_mk (by rw [hy67, hc67]; exact Nat.sub_le_sub_right hroom67 _) hr67)
            have HC297 := Aside0.mk (show y293.length ≤ c67 from by rw [hy67, hc67]; exact Nat.sub_le_sub_right hroom67 _)
            clear hr67 hC67 hroom67 hi067 hsz67 hc67
            have KY67 := Aside0.mk hy67
            have KA67 := Aside0.mk hA67
            clear hy67 hA67
            replace q67 := eq_true q67
            have q68 : (1 : Int) ≤ ((x1_1.length : Int) : Int) := zod
            obtain ⟨i068, hi068, _, hsz68, _⟩ := info_parts info68
            have hroom68 : x1_1.length ≤ co55 := (Kd.V_reads' HO_1.out).2.1
            have hC68 : Kd.F k68 _ _ (some ad252) x1_1.length x1_1 := (Kd.V_at (base := w.heap.size) HO_1.out).2.2
            have hcut68 := cut_from (P := Try.prog) 33 68 .i64 Try.underlying33 hi068 2 hsz68 (some ad252) x1_1.length co55 1 (by omega) q68
            have hr68 := Kd.F_cut (m := (1 : Int).toNat) (c := co55) hC68 (by omega) hroom68
            obtain ⟨A68, hA68⟩ : ∃ A1, A1 = (if co55 = (1 : Int).toNat then (some ad252) else ((some ad252) : Option Addr).map (·.add ((1 : Int).toNat * 2))) := ⟨_, rfl⟩
            obtain ⟨c68, hc68⟩ : ∃ c1, c1 = co55 - (1 : Int).toNat := ⟨_, rfl⟩
            have hy68 : y298.length = x1_1.length - (1 : Int).toNat := (by rw [Ny298.out, List.length_drop] <;> omega)
            rw [show (x1_1).drop (1 : Int).toNat = y298 from Ny298.out.symm] at hr68
            replace hr68 : Kd.F k68 _ _ A68 y298.length y298 := (by rw [hA68]; exact hr68)
            rw [← hy68, ← hA68, ← hc68] at hcut68
            have HO302 := Aside0.mk (show Kd.V k68 68 _ w.heap.size _ (.slice A68 y298.length c68) y298 from Kd.V_mk (by rw [hy68, hc68]; exact Nat.sub_le_sub_right hroom68 _) hr68)
            have HC302 := Aside0.mk (show y298.length ≤ c68 from by rw [hy68, hc68]; exact Nat.sub_le_sub_right hroom68 _)
            clear hr68 hC68 hroom68 hi068 hsz68 hc68
            have KY68 := Aside0.mk hy68
            have KA68 := Aside0.mk hA68
            clear hy68 hA68
            replace q68 := eq_true q68
            refine start_ (n := 6) (S := fun w' => True) (ds := []) #[zf, zf, zf, zf, zf, zf] (by kernel_rfl) rfl rfl trivial (fun hHeld => ?_)
            generalize w65.drew = w66 at HO_0 HO_1 HO_9 HL251_0 HL252_0 HL272_0 HL273_0 HO276 BK279 HB HO297 HO302 hHeld ⊢
            refine pure_ (i := 0) (N := some 45) (v := ?_) (a' := ?_) #[zt, zf, zf, zf, zf, zf] rfl rfl (by kernel_rfl) (fun _ _ _ h => h) (Or.inl ⟨by rfl, ?_⟩) ?_ ?_
            rotate_left
            ·intro w'
             go_simp
             with_reducible rfl
            rotate_left
            ·simp only [Act.put, zp1, zp2, zp3, i64_w, i32_w]
             rfl
            refine pure_ (i := 1) (N := some 46) (v := ?_) (a' := ?_) #[zt, zt, zf, zf, zf, zf] rfl rfl (by kernel_rfl) (fun _ _ _ h => h) (Or.inl ⟨by rfl, ?_⟩) ?_ ?_
            rotate_left
            ·intro w'
             go_simp
             with_reducible rfl
            rotate_left
            ·simp only [Act.put, zp1, zp2, zp3, i64_w, i32_w]
             rfl
            refine pure_ (i := 2) (N := some 47) (v := ?_) (a' := ?_) #[zt, zt, zt, zf, zf, zf] rfl rfl (by kernel_rfl) (fun _ _ _ h => h) (Or.inl ⟨by rfl, ?_⟩) ?_ ?_
            rotate_left
            ·intro w'
             go_simp
             with_reducible rfl
            rotate_left
            ·simp only [Act.put, zp1, zp2, zp3, i64_w, i32_w]
             rfl
            refine pure_ (i := 3) (N := some 48) (v := ?_) (a' := ?_) #[zt, zt, zt, zt, zf, zf] rfl rfl (by kernel_rfl) (fun _ _ _ h => h) (Or.inl ⟨by rfl, ?_⟩) ?_ ?_
            rotate_left
            ·intro w'
             go_simp
             with_reducible rfl
            rotate_left
            ·simp only [Act.put, zp1, zp2, zp3, i64_w, i32_w]
             rfl
            refine pure_ (i := 4) (N := some 0) (v := ?_) (a' := ?_) #[zt, zt, zt, zt, zt, zf] rfl rfl (by kernel_rfl) (fun _ _ _ h => h) (Or.inl ⟨by rfl, ?_⟩) ?_ ?_
            rotate_left
            ·intro w'
             go_simp
             with_reducible rfl
            rotate_left
            ·simp only [Act.put, zp1, zp2, zp3, i64_w, i32_w]
             rfl
            refine pure_ (i := 5) (N := some 1) (v := ?_) (a' := ?_) #[zt, zt, zt, zt, zt, zt] rfl rfl (by kernel_rfl) (fun _ _ _ h => h) (Or.inl ⟨by rfl, ?_⟩) ?_ ?_
            rotate_left
            ·intro w'
             go_simp
             with_reducible rfl
            rotate_left
            ·simp only [Act.put, zp1, zp2, zp3, i64_w, i32_w]
             rfl
            refine done_ (by kernel_rfl) ?_
            try go_wp2
            go_roundg k1
            case measure => have := HK1.out; omega
            case rel => exact ⟨(y293), (y298), (x9_1), H', ⟨by have := HK1.out; omega⟩, ⟨by (with_reducible repeat (first | apply Kd.V_alloc | apply Kd.V_drewN | apply Kd.V_drew)); exact Kd.V_mono HO297.out (fun _ hk => ⟨hk.1, hk.2.1⟩)⟩, ⟨by (with_reducible repeat (first | apply Kd.V_alloc | apply Kd.V_drewN | apply Kd.V_drew)); exact Kd.V_mono HO302.out (fun _ hk => ⟨hk.1, hk.2.1⟩)⟩, ⟨by (with_reducible repeat (first | apply Kd.N_alloc | apply Kd.N_drewN | apply Kd.N_drew)); exact Kd.N_mono HO_9.out (fun _ hk => hk.1)⟩, ⟨by repeat (first | (with_reducible first | exact HB.out | apply below_alloc | apply pw_below_drewN | apply below_drew1 | refine below_set ?_ GE279.out) | exact HB.out)⟩⟩
           ·rw [if_neg c53] at H
            exact absurd H (by simp)
          ·rw [if_neg c52] at H
           exact absurd H (by simp)
      ·rw [if_neg c8] at H
       exact absurd H (by simp)
     ·rw [if_neg c7] at H
      exact absurd H (by simp)
    ·rw [if_neg c6] at H
     have c6b0 : decide (0 < (x1_1.length : Int)) = false := decide_eq_false c6
     have c6b1 : decide (0 < x1_1.length) = false := decide_eq_false (by omega)
     clear c6
     by_cases c69 : x9_1.length + x0_1.length < 4398046511104
     ·rw [if_pos c69] at H
      have LMc69 := Aside0.mk c69
      clear c69
      obtain ⟨y303, hy303⟩ : ∃ y_ : List (S68), y_ = (x9_1 ++ x0_1) := ⟨_, rfl⟩
      replace H : (if y303.length + x1_1.length < 4398046511104 then (some (y303 ++ x1_1)) else (none)) = some r := by first | (rw [hy303]; with_reducible exact H) | (have H2_ := (Option.bind_some _ _).symm.trans H; rw [hy303]; with_reducible exact H2_) | (have H2_ := (Option.bind_some _ _).symm.trans H; with_reducible exact H2_) | with_reducible exact H | (rw [hy303]; exact H) | exact H
      have Ny303 := Aside0.mk hy303
      clear hy303
      by_cases c70 : y303.length + x1_1.length < 4398046511104
      ·rw [if_pos c70] at H
       have LMc70 := Aside0.mk c70
       clear c70
       obtain ⟨y306, hy306⟩ : ∃ y_ : List (S68), y_ = (y303 ++ x1_1) := ⟨_, rfl⟩
       replace H : (some y306) = some r := by first | (rw [hy306]; with_reducible exact H) | (have H2_ := (Option.bind_some _ _).symm.trans H; rw [hy306]; with_reducible exact H2_) | (have H2_ := (Option.bind_some _ _).symm.trans H; with_reducible exact H2_) | with_reducible exact H | (rw [hy306]; exact H) | exact H
       have Ny306 := Aside0.mk hy306
       clear hy306
       obtain rfl := Option.some.inj H
       obtain ⟨Ao71, co71, eo71⟩ := Kd.V_slice HO_0.out
       subst eo71
       obtain ⟨Ao72, co72, eo72⟩ := Kd.V_slice HO_1.out
       subst eo72
       go_wp2_with (first | ((with_reducible refine gate_builtin (b := .append) (xs := #[.tmp 71, .tmp 72]) rfl ?_); (try (refine gate_guard (by rfl) ?_; dsimp only)); at_builtin; refine Kd.N_append_rows k68 (w0 := w) w.heap.size rfl (.tmp 71) (.tmp 72) 33 68 (.agg #[(.slice none 0 0), (.int .i64 0)]) 32 rfl Try.underlying33 info68 rfl (by decide) (by omega) u9 x9_1 x0_1 _ _ _ (fun k_ => ((P0_ k_ ∨ P1_ k_) ∨ w.heap.size ≤ k_)) (fun k_ => ((fun k_ => ((P0_ k_ ∨ P1_ k_) ∨ w.heap.size ≤ k_))) k_ ∧ some k_ ≠ (u9 : Value).ownBlock) rfl rfl ?aO ?aR (fun _ hk => hk) ?aF ?aB ?aS ?aL ?_; (case aR => exact (by skip; exact Kd.V_F (Kd.V_mono (ok' := (fun k_ => ((fun k_ => ((P0_ k_ ∨ P1_ k_) ∨ w.heap.size ≤ k_))) k_ ∧ some k_ ≠ (u9 : Value).ownBlock)) (HO_0.out) (fun k_ hk => ⟨hk.1, hk.2⟩)))); (case aB => exact zhb); (case aF => exact (fun k_ hk => (.inr (Nat.le_trans (below_size zhb) hk)))); (case aO => exact (by (with_reducible repeat (first | apply Kd.N_alloc | apply Kd.N_drewN | apply Kd.N_drew)); exact HO_9.out)); (case aS => exact (below_size zhb)); (case aL => have := LMc69.out; omega); intro v304 w73 ho hb hg hat; rw [← Ny303.out] at ho; have n0_ := Aside0.mk (Kd.V_afterv (ok := (fun k_ => ((P0_ k_ ∨ P1_ k_) ∨ w.heap.size ≤ k_))) (by (with_reducible repeat (first | apply Kd.V_alloc | apply Kd.V_drewN | apply Kd.V_drew)); exact HO_0.out) hg hat); have n1_ := Aside0.mk (Kd.V_afterv (ok := (fun k_ => ((P0_ k_ ∨ P1_ k_) ∨ w.heap.size ≤ k_))) (by (with_reducible repeat (first | apply Kd.V_alloc | apply Kd.V_drewN | apply Kd.V_drew)); exact HO_1.out) hg hat); have n2_ := Aside0.mk (hb); have n3_ := Aside0.mk (ho); clear HO_0; clear HO_1; clear HB; clear HO_9; have HO_0 := n0_; have HO_1 := n1_; have HB := n2_; have HO305 := n3_; clear n0_ n1_ n2_ n3_; clear ho hb hg hat) | ((with_reducible refine gate_builtin (b := .append) (xs := #[.tmp 73, .tmp 74]) rfl ?_); (try (refine gate_guard (by rfl) ?_; dsimp only)); at_builtin; refine Kd.N_append_rows k68 (w0 := w) w.heap.size rfl (.tmp 73) (.tmp 74) 33 68 (.agg #[(.slice none 0 0), (.int .i64 0)]) 32 rfl Try.underlying33 info68 rfl (by decide) (by omega) v304 y303 x1_1 _ _ _ (fun k_ => ((P0_ k_ ∨ P1_ k_) ∨ w.heap.size ≤ k_)) (fun k_ => ((fun k_ => ((P0_ k_ ∨ P1_ k_) ∨ w.heap.size ≤ k_))) k_ ∧ some k_ ≠ (v304 : Value).ownBlock) rfl rfl ?aO ?aR (fun _ hk => hk) ?aF ?aB ?aS ?aL ?_; (case aR => exact (by skip; exact Kd.V_F (Kd.V_mono (ok' := (fun k_ => ((fun k_ => ((P0_ k_ ∨ P1_ k_) ∨ w.heap.size ≤ k_))) k_ ∧ some k_ ≠ (v304 : Value).ownBlock)) (HO_1.out) (fun k_ hk => ⟨hk.1, hk.2⟩)))); (case aB => exact zhb); (case aF => exact (fun k_ hk => (.inr (Nat.le_trans (below_size zhb) hk)))); (case aO => exact (by (with_reducible repeat (first | apply Kd.N_alloc | apply Kd.N_drewN | apply Kd.N_drew)); exact HO305.out)); (case aS => exact (below_size zhb)); (case aL => have := LMc70.out; omega); intro v307 w74 ho hb hg hat; rw [← Ny306.out] at ho; have n0_ := Aside0.mk (Kd.V_afterv (ok := (fun k_ => ((P0_ k_ ∨ P1_ k_) ∨ w.heap.size ≤ k_))) (by (with_reducible repeat (first | apply Kd.V_alloc | apply Kd.V_drewN | apply Kd.V_drew)); exact HO_0.out) hg hat); have n1_ := Aside0.mk (Kd.V_afterv (ok := (fun k_ => ((P0_ k_ ∨ P1_ k_) ∨ w.heap.size ≤ k_))) (by (with_reducible repeat (first | apply Kd.V_alloc | apply Kd.V_drewN | apply Kd.V_drew)); exact HO_1.out) hg hat); have n2_ := Aside0.mk (hb); have n3_ := Aside0.mk (ho); clear HO_0; clear HO_1; clear HB; clear HO305; have HO_0 := n0_; have HO_1 := n1_; have HB := n2_; have HO308 := n3_; clear n0_ n1_ n2_ n3_; clear ho hb hg hat))
       go_ret
       exact ⟨_, by first | rfl | (simp [errW_none, errW_some] <;> rfl) | (simp [*, errW_none, errW_some] <;> rfl), by (with_reducible repeat (first | apply Kd.N_alloc | apply Kd.N_drewN | apply Kd.N_drew)); exact HO308.out, zhb⟩
      ·rw [if_neg c70] at H
       exact absurd H (by simp)
     ·rw [if_neg c69] at H
      exact absurd H (by simp)
   ·rw [if_neg c5] at H
    have c5b0 : decide (0 < (x0_1.length : Int)) = false := decide_eq_false c5
    have c5b1 : decide (0 < x0_1.length) = false := decide_eq_false (by omega)
    clear c5
    by_cases c75 : x9_1.length + x0_1.length < 4398046511104
    ·rw [if_pos c75] at H
     have LMc75 := Aside0.mk c75
     clear c75
     obtain ⟨y309, hy309⟩ : ∃ y_ : List (S68), y_ = (x9_1 ++ x0_1) := ⟨_, rfl⟩
     replace H : (if y309.length + x1_1.length < 4398046511104 then (some (y309 ++ x1_1)) else (none)) = some r := by first | (rw [hy309]; with_reducible exact H) | (have H2_ := (Option.bind_some _ _).symm.trans H; rw [hy309]; with_reducible exact H2_) | (have H2_ := (Option.bind_some _ _).symm.trans H; with_reducible exact H2_) | with_reducible exact H | (rw [hy309]; exact H) | exact H
     have Ny309 := Aside0.mk hy309
     clear hy309
     by_cases c76 : y309.length + x1_1.length < 4398046511104
     ·rw [if_pos c76] at H
      have LMc76 := Aside0.mk c76
      clear c76
      obtain ⟨y312, hy312⟩ : ∃ y_ : List (S68), y_ = (y309 ++ x1_1) := ⟨_, rfl⟩
      replace H : (some y312) = some r := by first | (rw [hy312]; with_reducible exact H) | (have H2_ := (Option.bind_some _ _).symm.trans H; rw [hy312]; with_reducible exact H2_) | (have H2_ := (Option.bind_some _ _).symm.trans H; with_reducible exact H2_) | with_reducible exact H | (rw [hy312]; exact H) | exact H
      have Ny312 := Aside0.mk hy312
      clear hy312
      obtain rfl := Option.some.inj H
      obtain ⟨Ao77, co77, eo77⟩ := Kd.V_slice HO_0.out
      subst eo77
      go_wp2_with (first | ((with_reducible refine gate_builtin (b := .append) (xs := #[.tmp 71, .tmp 72]) rfl ?_); (try (refine gate_guard (by rfl) ?_; dsimp only)); at_builtin; refine Kd.N_append_rows k68 (w0 := w) w.heap.size rfl (.tmp 71) (.tmp 72) 33 68 (.agg #[(.slice none 0 0), (.int .i64 0)]) 32 rfl Try.underlying33 info68 rfl (by decide) (by omega) u9 x9_1 x0_1 _ _ _ (fun k_ => ((P0_ k_ ∨ P1_ k_) ∨ w.heap.size ≤ k_)) (fun k_ => ((fun k_ => ((P0_ k_ ∨ P1_ k_) ∨ w.heap.size ≤ k_))) k_ ∧ some k_ ≠ (u9 : Value).ownBlock) rfl rfl ?aO ?aR (fun _ hk => hk) ?aF ?aB ?aS ?aL ?_; (case aR => exact (by skip; exact Kd.V_F (Kd.V_mono (ok' := (fun k_ => ((fun k_ => ((P0_ k_ ∨ P1_ k_) ∨ w.heap.size ≤ k_))) k_ ∧ some k_ ≠ (u9 : Value).ownBlock)) (HO_0.out) (fun k_ hk => ⟨hk.1, hk.2⟩)))); (case aB => exact zhb); (case aF => exact (fun k_ hk => (.inr (Nat.le_trans (below_size zhb) hk)))); (case aO => exact (by (with_reducible repeat (first | apply Kd.N_alloc | apply Kd.N_drewN | apply Kd.N_drew)); exact HO_9.out)); (case aS => exact (below_size zhb)); (case aL => have := LMc75.out; omega); intro v310 w78 ho hb hg hat; rw [← Ny309.out] at ho; have n0_ := Aside0.mk (Kd.V_afterv (ok := (fun k_ => ((P0_ k_ ∨ P1_ k_) ∨ w.heap.size ≤ k_))) (by (with_reducible repeat (first | apply Kd.V_alloc | apply Kd.V_drewN | apply Kd.V_drew)); exact HO_0.out) hg hat); have n1_ := Aside0.mk (Kd.V_afterv (ok := (fun k_ => ((P0_ k_ ∨ P1_ k_) ∨ w.heap.size ≤ k_))) (by (with_reducible repeat (first | apply Kd.V_alloc | apply Kd.V_drewN | apply Kd.V_drew)); exact HO_1.out) hg hat); have n2_ := Aside0.mk (hb); have n3_ := Aside0.mk (ho); clear HO_0; clear HO_1; clear HB; clear HO_9; have HO_0 := n0_; have HO_1 := n1_; have HB := n2_; have HO311 := n3_; clear n0_ n1_ n2_ n3_; clear ho hb hg hat; obtain ⟨Ao80, co80, eo80⟩ := Kd.V_slice HO_1.out; subst eo80) | ((with_reducible refine gate_builtin (b := .append) (xs := #[.tmp 73, .tmp 74]) rfl ?_); (try (refine gate_guard (by rfl) ?_; dsimp only)); at_builtin; refine Kd.N_append_rows k68 (w0 := w) w.heap.size rfl (.tmp 73) (.tmp 74) 33 68 (.agg #[(.slice none 0 0), (.int .i64 0)]) 32 rfl Try.underlying33 info68 rfl (by decide) (by omega) v310 y309 x1_1 _ _ _ (fun k_ => ((P0_ k_ ∨ P1_ k_) ∨ w.heap.size ≤ k_)) (fun k_ => ((fun k_ => ((P0_ k_ ∨ P1_ k_) ∨ w.heap.size ≤ k_))) k_ ∧ some k_ ≠ (v310 : Value).ownBlock) rfl rfl ?aO ?aR (fun _ hk => hk) ?aF ?aB ?aS ?aL ?_; (case aR => exact (by skip; exact Kd.V_F (Kd.V_mono (ok' := (fun k_ => ((fun k_ => ((P0_ k_ ∨ P1_ k_) ∨ w.heap.size ≤ k_))) k_ ∧ some k_ ≠ (v310 : Value).ownBlock)) (HO_1.out) (fun k_ hk => ⟨hk.1, hk.2⟩)))); (case aB => exact zhb); (case aF => exact (fun k_ hk => (.inr (Nat.le_trans (below_size zhb) hk)))); (case aO => exact (by (with_reducible repeat (first | apply Kd.N_alloc | apply Kd.N_drewN | apply Kd.N_drew)); exact HO311.out)); (case aS => exact (below_size zhb)); (case aL => have := LMc76.out; omega); intro v313 w79 ho hb hg hat; rw [← Ny312.out] at ho; have n0_ := Aside0.mk (Kd.V_afterv (ok := (fun k_ => ((P0_ k_ ∨ P1_ k_) ∨ w.heap.size ≤ k_))) (by (with_reducible repeat (first | apply Kd.V_alloc | apply Kd.V_drewN | apply Kd.V_drew)); exact HO_0.out) hg hat); have n1_ := Aside0.mk (Kd.V_afterv (ok := (fun k_ => ((P0_ k_ ∨ P1_ k_) ∨ w.heap.size ≤ k_))) (by (with_reducible repeat (first | apply Kd.V_alloc | apply Kd.V_drewN | apply Kd.V_drew)); exact HO_1.out) hg hat); have n2_ := Aside0.mk (hb); have n3_ := Aside0.mk (ho); clear HO_0; clear HO_1; clear HB; clear HO311; have HO_0 := n0_; have HO_1 := n1_; have HB := n2_; have HO314 := n3_; clear n0_ n1_ n2_ n3_; clear ho hb hg hat))
      go_ret
      exact ⟨_, by first | rfl | (simp [errW_none, errW_some] <;> rfl) | (simp [*, errW_none, errW_some] <;> rfl), by (with_reducible repeat (first | apply Kd.N_alloc | apply Kd.N_drewN | apply Kd.N_drew)); exact HO314.out, zhb⟩
     ·rw [if_neg c76] at H
      exact absurd H (by simp)
    ·rw [if_neg c75] at H
     exact absurd H (by simp)

end Go.Proofs.Ytpbmabfodfcfmaa.PFnZBent
