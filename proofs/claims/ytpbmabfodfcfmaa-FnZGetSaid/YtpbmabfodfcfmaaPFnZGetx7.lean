-- Written by wip/tools/pp.py, a program of this session over the kit's printer: not the kit's own print
import Derived.Test.YtpbmabfodfcfmaaPFnZGetx0
import Derived.Test.YtpbmabfodfcfmaaPFnZGetx5
import Derived.Test.YtpbmabfodfcfmaaPFnZGetx6
namespace Go.Proofs.Ytpbmabfodfcfmaa.PFnZGet
open Go.RowKit Go.Proofs.YtpbmabfodfcfmaaW.PrintWords Go.Proofs.YtpbmabfodfcfmaaW.PrintLast Go.Proofs.YtpbmabfodfcfmaaW.PrintMore
attribute [local go_sem] max2_int min2_int max_two min_two max_three min_three max_four min_four   -- for this text's walks alone
set_option linter.unusedVariables false
set_option linter.unusedSimpArgs false

/-! ### impl_merged_impl_Item__impl_cmpItem_impl_together_1: function 106 -/
def impl_merged_impl_Item__impl_cmpItem_impl_together_1.l0 : Nat → List (S68) → List (S68) → List (S68) → Option ((List (S68)))
 | 0, _, _, _ => none
 | k + 1, x0, x1, x9 => if (x0.length : Int) > 0 then (if (x1.length : Int) > 0 then (if 0 < (x0.length : Int) then (if 0 < (x1.length : Int) then ((impl_cmpItem.f k ((rd_T68 x0 0).f0) ((rd_T68 x0 0).f1) ((rd_T68 x1 0).f0) ((rd_T68 x1 0).f1)).bind fun t170 => (if t170 < 0 then (if x9.length < 4398046511104 then (if 1 ≤ (x0.length : Int) then (impl_merged_impl_Item__impl_cmpItem_impl_together_1.l0 k (x0.drop 1) x1 (x9 ++ [(⟨(rd_T68 x0 0).f0, (rd_T68 x0 0).f1⟩ : S68)])) else (none)) else (none)) else (if t170 > 0 then (if x9.length < 4398046511104 then (if 1 ≤ (x1.length : Int) then (impl_merged_impl_Item__impl_cmpItem_impl_together_1.l0 k x0 (x1.drop 1) (x9 ++ [(⟨(rd_T68 x1 0).f0, (rd_T68 x1 0).f1⟩ : S68)])) else (none)) else (none)) else ((impl_together_1.f ((rd_T68 x0 0).f0) ((rd_T68 x0 0).f1) ((rd_T68 x1 0).f0) ((rd_T68 x1 0).f1)).bind fun bt191 => (if bt191.2.2 = true then (if x9.length < 4398046511104 then (if 1 ≤ (x0.length : Int) then (if 1 ≤ (x1.length : Int) then (impl_merged_impl_Item__impl_cmpItem_impl_together_1.l0 k (x0.drop 1) (x1.drop 1) (x9 ++ [(⟨bt191.1, bt191.2.1⟩ : S68)])) else (none)) else (none)) else (none)) else (if 1 ≤ (x0.length : Int) then (if 1 ≤ (x1.length : Int) then (impl_merged_impl_Item__impl_cmpItem_impl_together_1.l0 k (x0.drop 1) (x1.drop 1) x9) else (none)) else (none))))))) else (none)) else (none)) else (if x9.length + x0.length < 4398046511104 then ((some (x9 ++ x0 : List (S68))).bind fun y220 => (if y220.length + x1.length < 4398046511104 then (some (y220 ++ x1)) else (none))) else (none))) else (if x9.length + x0.length < 4398046511104 then ((some (x9 ++ x0 : List (S68))).bind fun y226 => (if y226.length + x1.length < 4398046511104 then (some (y226 ++ x1)) else (none))) else (none))
def impl_merged_impl_Item__impl_cmpItem_impl_together_1.f (k : Nat) (l0 : List (S68)) (l1 : List (S68))   : Option ((List (S68))) := impl_merged_impl_Item__impl_cmpItem_impl_together_1.l0 k l0 l1 ([] : List (S68))
theorem impl_merged_impl_Item__impl_cmpItem_impl_together_1.mono_l : ∀ k, (∀ y0 y1 y2, LeO (impl_merged_impl_Item__impl_cmpItem_impl_together_1.l0 k y0 y1 y2) (impl_merged_impl_Item__impl_cmpItem_impl_together_1.l0 (k + 1) y0 y1 y2))
 | 0 => fun _ _ _ r h => by simp [impl_merged_impl_Item__impl_cmpItem_impl_together_1.l0] at h
 | k + 1 => by
  have ih0 := impl_merged_impl_Item__impl_cmpItem_impl_together_1.mono_l k
  ·intro y0 y1 y2
   unfold impl_merged_impl_Item__impl_cmpItem_impl_together_1.l0
   repeat' first
   | (with_reducible exact ih0 _ _ _)
   | (with_reducible exact impl_cmpItem.mono _ _ _ _ _)
   | (with_reducible exact LeO.refl _)
   | (with_reducible exact LeO.none _)
   | (with_reducible refine LeO.ite ?_ ?_)
   | (with_reducible refine LeO.bind ?_ (fun _ => ?_))
   | exact LeO.none _
   | refine LeO.ite ?_ ?_
   | refine LeO.bind ?_ (fun _ => ?_)
theorem impl_merged_impl_Item__impl_cmpItem_impl_together_1.mono : ∀ a0 a1 k, LeO (impl_merged_impl_Item__impl_cmpItem_impl_together_1.f k a0 a1) (impl_merged_impl_Item__impl_cmpItem_impl_together_1.f (k + 1) a0 a1) := by
 intro a0 a1 k
 have ih0 := impl_merged_impl_Item__impl_cmpItem_impl_together_1.mono_l k
 unfold impl_merged_impl_Item__impl_cmpItem_impl_together_1.f
 repeat' first
   | (with_reducible exact ih0 _ _ _)
   | (with_reducible exact impl_cmpItem.mono _ _ _ _ _)
   | (with_reducible exact LeO.refl _)
   | (with_reducible exact LeO.none _)
   | (with_reducible refine LeO.ite ?_ ?_)
   | (with_reducible refine LeO.bind ?_ (fun _ => ?_))
   | exact LeO.none _
   | refine LeO.ite ?_ ?_
   | refine LeO.bind ?_ (fun _ => ?_)
def impl_merged_impl_Item__impl_cmpItem_impl_together_1.T3 : Bool × List (List Nat × List Nat) := (true, [([], []), ([], []), ([1], [1]), ([2], [2]), ([], []), ([4], [4]), ([5], [5]), ([0, 3, 6], [0, 3, 6]), ([7, 7, 0, 1, 2, 3, 4, 5, 6, 7], [7])])
def impl_merged_impl_Item__impl_cmpItem_impl_together_1.B3 : List Nat := [0, 0, 2, 6, 0, 16, 48, 127, 255]
theorem impl_merged_impl_Item__impl_cmpItem_impl_together_1.tab3 : rtab .any (opsOf Try.f106 3) = impl_merged_impl_Item__impl_cmpItem_impl_together_1.T3 := by kernel_rfl
theorem impl_merged_impl_Item__impl_cmpItem_impl_together_1.bits3 : waitsOk impl_merged_impl_Item__impl_cmpItem_impl_together_1.T3.2 impl_merged_impl_Item__impl_cmpItem_impl_together_1.B3 = true := by kernel_rfl
def impl_merged_impl_Item__impl_cmpItem_impl_together_1.T4 : Bool × List (List Nat × List Nat) := (true, [([], []), ([], []), ([1], [1]), ([2], [2]), ([], []), ([4], [4]), ([5], [5]), ([0, 3, 6], [0, 3, 6]), ([7], [7]), ([8], [8]), ([8], [8]), ([], []), ([11, 9, 7, 0, 1, 2, 3, 4, 5, 6, 7, 8, 9, 11], [9, 11]), ([10, 12, 0, 1, 2, 3, 4, 5, 6, 7, 8, 9, 10, 11, 12], [10])])
def impl_merged_impl_Item__impl_cmpItem_impl_together_1.B4 : List Nat := [0, 0, 2, 6, 0, 16, 48, 127, 255, 511, 511, 0, 3071, 8191]
theorem impl_merged_impl_Item__impl_cmpItem_impl_together_1.tab4 : rtab .any (opsOf Try.f106 4) = impl_merged_impl_Item__impl_cmpItem_impl_together_1.T4 := by kernel_rfl
theorem impl_merged_impl_Item__impl_cmpItem_impl_together_1.bits4 : waitsOk impl_merged_impl_Item__impl_cmpItem_impl_together_1.T4.2 impl_merged_impl_Item__impl_cmpItem_impl_together_1.B4 = true := by kernel_rfl
def impl_merged_impl_Item__impl_cmpItem_impl_together_1.T9 : Bool × List (List Nat × List Nat) := (true, [([], []), ([], []), ([1], [1]), ([2], [2]), ([3], [3]), ([0, 4], [0, 4]), ([], []), ([6], [6]), ([5, 5, 0, 1, 2, 3, 4, 5], [0, 5]), ([7, 8, 0, 1, 2, 3, 4, 5, 6, 7, 8], [1, 6, 7])])
def impl_merged_impl_Item__impl_cmpItem_impl_together_1.B9 : List Nat := [0, 0, 2, 6, 14, 31, 0, 64, 63, 511]
theorem impl_merged_impl_Item__impl_cmpItem_impl_together_1.tab9 : rtab .any (opsOf Try.f106 9) = impl_merged_impl_Item__impl_cmpItem_impl_together_1.T9 := by kernel_rfl
theorem impl_merged_impl_Item__impl_cmpItem_impl_together_1.bits9 : waitsOk impl_merged_impl_Item__impl_cmpItem_impl_together_1.T9.2 impl_merged_impl_Item__impl_cmpItem_impl_together_1.B9 = true := by kernel_rfl
def impl_merged_impl_Item__impl_cmpItem_impl_together_1.T11 : Bool × List (List Nat × List Nat) := (true, [([], []), ([], []), ([1], [1]), ([2], [2]), ([3], [3]), ([0, 4], [0, 4]), ([], []), ([6], [6]), ([5, 5, 0, 1, 2, 3, 4, 5], [0, 5]), ([7, 8, 0, 1, 2, 3, 4, 5, 6, 7, 8], [1, 6, 7])])
def impl_merged_impl_Item__impl_cmpItem_impl_together_1.B11 : List Nat := [0, 0, 2, 6, 14, 31, 0, 64, 63, 511]
theorem impl_merged_impl_Item__impl_cmpItem_impl_together_1.tab11 : rtab .any (opsOf Try.f106 11) = impl_merged_impl_Item__impl_cmpItem_impl_together_1.T11 := by kernel_rfl
theorem impl_merged_impl_Item__impl_cmpItem_impl_together_1.bits11 : waitsOk impl_merged_impl_Item__impl_cmpItem_impl_together_1.T11.2 impl_merged_impl_Item__impl_cmpItem_impl_together_1.B11 = true := by kernel_rfl
set_option maxHeartbeats 8000000 in
set_option maxRecDepth 100000 in
theorem impl_merged_impl_Item__impl_cmpItem_impl_together_1.calls (k : Nat) (P0_ : Nat → Prop) (A0 : Option Addr) (c0 : Nat) (l0 : List (S68)) (P1_ : Nat → Prop) (A1 : Option Addr) (c1 : Nat) (l1 : List (S68))   (r : List (S68)) (w : World) (hs0 : Kd.V k68 68 w w.heap.size (fun k_ => P0_ k_) (.slice A0 l0.length c0) l0) (hs1 : Kd.V k68 68 w w.heap.size (fun k_ => P1_ k_) (.slice A1 l1.length c1) l1) (h : impl_merged_impl_Item__impl_cmpItem_impl_together_1.f k l0 l1 = some r) :
  Calls Try.prog 106 #[.slice A0 l0.length c0, .slice A1 l1.length c1, .func (.func 107) #[] #[], .func (.func 108) #[] #[]] w fun e w' => ∃ v0_ : Value, e = .returned (v0_) ∧ Kd.N k68 68 w' w.heap.size (fun k_ => ((P0_ k_ ∨ P1_ k_) ∨ w.heap.size ≤ k_)) v0_ r ∧ Below w.heap.size w w' := by
 have hu68 := Try.underlying68
 have HO0 := Aside0.mk (show Kd.V k68 68 w w.heap.size (fun k_ => ((P0_ k_ ∨ P1_ k_) ∨ w.heap.size ≤ k_)) (.slice A0 l0.length c0) l0 from Kd.V_mono hs0 (fun k_ hk => .inl (.inl hk)))
 have HO1 := Aside0.mk (show Kd.V k68 68 w w.heap.size (fun k_ => ((P0_ k_ ∨ P1_ k_) ∨ w.heap.size ≤ k_)) (.slice A1 l1.length c1) l1 from Kd.V_mono hs1 (fun k_ hk => .inl (.inr hk)))
 have HB := Aside0.mk (Below.refl w.heap.size w)
 have H : (impl_merged_impl_Item__impl_cmpItem_impl_together_1.l0 k l0 l1 ([] : List (S68))) = some r := h
 clear h
 have H' := Aside0.mk H
 clear H
 go_enter Try.func106, Try.ntmps106
 go_wp2
 go_loopg [0, 1, 9] k (fun kq v0 v1 v9 w' => ∃ (x0_1 : List (S68)) (x1_1 : List (S68)) (x9_1 : List (S68)), Aside0 (impl_merged_impl_Item__impl_cmpItem_impl_together_1.l0 kq x0_1 x1_1 x9_1 = some r) ∧ Aside0 (kq ≤ k) ∧ Aside0 (Kd.V k68 68 w' w.heap.size (fun k_ => ((P0_ k_ ∨ P1_ k_) ∨ w.heap.size ≤ k_) ∧ some k_ ≠ (v9 : Value).ownBlock) v0 x0_1) ∧ Aside0 (Kd.V k68 68 w' w.heap.size (fun k_ => ((P0_ k_ ∨ P1_ k_) ∨ w.heap.size ≤ k_) ∧ some k_ ≠ (v9 : Value).ownBlock) v1 x1_1) ∧ Aside0 (Kd.N k68 68 w' w.heap.size (fun k_ => ((P0_ k_ ∨ P1_ k_) ∨ w.heap.size ≤ k_)) v9 x9_1) ∧ Aside0 (Below w.heap.size w w'))
 case atStart => exact ⟨(l0), (l1), (([] : List (S68))), H', ⟨Nat.le_refl _⟩, ⟨by (with_reducible repeat (first | apply Kd.V_alloc | apply Kd.V_drewN | apply Kd.V_drew)); exact Kd.V_mono HO0.out (fun _ hk => ⟨hk, (by simp [Value.ownBlock])⟩)⟩, ⟨by (with_reducible repeat (first | apply Kd.V_alloc | apply Kd.V_drewN | apply Kd.V_drew)); exact Kd.V_mono HO1.out (fun _ hk => ⟨hk, (by simp [Value.ownBlock])⟩)⟩, ⟨by first | exact Kd.S_nil _ _ _ _ _ | exact Kd.N_nil _ _ _ _ _ | exact Kd.V_nil _ _ _ _ _ | exact Kd.Q_nil _ _ _ _ _ | exact Kd.R_nil _ _ _ _ _⟩, ⟨zhb⟩⟩
 case round =>
  clear H'
  try clear c1
  try clear p2
  obtain ⟨x0_1, x1_1, x9_1, HA, HK1, HO_0, HO_1, HO_9, HB⟩ := hrel
  cases gk with
  | zero => exact absurd HA.out (by simp [impl_merged_impl_Item__impl_cmpItem_impl_together_1.l0])
  | succ k1 =>
   have H := HA.out
   clear HA
   simp only [impl_merged_impl_Item__impl_cmpItem_impl_together_1.l0] at H
   by_cases c5 : (x0_1.length : Int) > 0
   ·rw [if_pos c5] at H
    have c5b0 : decide (0 < (x0_1.length : Int)) = true := decide_eq_true c5
    have c5b1 : decide (0 < x0_1.length) = true := decide_eq_true (by omega)
    clear c5
    by_cases c6 : (x1_1.length : Int) > 0
    ·rw [if_pos c6] at H
     have c6b0 : decide (0 < (x1_1.length : Int)) = true := decide_eq_true c6
     have c6b1 : decide (0 < x1_1.length) = true := decide_eq_true (by omega)
     clear c6
     by_cases c7 : 0 < (x0_1.length : Int)
     ·rw [if_pos c7] at H
      have c7b0 : decide (0 < (x0_1.length : Int)) = true := decide_eq_true c7
      have c7b1 : decide (0 < x0_1.length) = true := decide_eq_true (by omega)
      clear c7
      by_cases c8 : 0 < (x1_1.length : Int)
      ·rw [if_pos c8] at H
       have c8b0 : decide (0 < (x1_1.length : Int)) = true := decide_eq_true c8
       have c8b1 : decide (0 < x1_1.length) = true := decide_eq_true (by omega)
       clear c8
       replace H := Option.bind_eq_some_iff.mp H
       obtain ⟨t170, A90, H⟩ := H
       (try dsimp only at H)
       have A9 := Aside0.mk A90
       clear A90
       by_cases c10 : t170 < 0
       ·rw [if_pos c10] at H
        have c10b0 : decide (t170 < 0) = true := decide_eq_true c10
        clear c10
        by_cases c11 : x9_1.length < 4398046511104
        ·rw [if_pos c11] at H
         have LMc11 := Aside0.mk c11
         clear c11
         obtain ⟨y172, hy172⟩ : ∃ y_ : List (S68), y_ = (x9_1 ++ [(⟨(rd_T68 x0_1 0).f0, (rd_T68 x0_1 0).f1⟩ : S68)]) := ⟨_, rfl⟩
         replace H : (if 1 ≤ (x0_1.length : Int) then (impl_merged_impl_Item__impl_cmpItem_impl_together_1.l0 k1 (x0_1.drop 1) x1_1 y172) else (none)) = some r := by first | (rw [hy172]; with_reducible exact H) | (have H2_ := (Option.bind_some _ _).symm.trans H; rw [hy172]; with_reducible exact H2_) | (have H2_ := (Option.bind_some _ _).symm.trans H; with_reducible exact H2_) | with_reducible exact H | (rw [hy172]; exact H) | exact H
         have Ny172 := Aside0.mk hy172
         clear hy172
         by_cases c12 : 1 ≤ (x0_1.length : Int)
         ·rw [if_pos c12] at H
          have c12b0 := eq_true c12
          have c12b1 : decide (1 ≤ (x0_1.length : Int)) = true := decide_eq_true c12
          clear c12
          obtain ⟨y175, hy175⟩ : ∃ y_ : List (S68), y_ = (x0_1.drop 1) := ⟨_, rfl⟩
          replace H : (impl_merged_impl_Item__impl_cmpItem_impl_together_1.l0 k1 y175 x1_1 y172) = some r := by first | (rw [hy175]; with_reducible exact H) | (have H2_ := (Option.bind_some _ _).symm.trans H; rw [hy175]; with_reducible exact H2_) | (have H2_ := (Option.bind_some _ _).symm.trans H; with_reducible exact H2_) | with_reducible exact H | (rw [hy175]; exact H) | exact H
          have Ny175 := Aside0.mk hy175
          clear hy175
          have H' := Aside0.mk H
          clear H
          obtain ⟨Ao13, co13, eo13⟩ := Kd.V_slice HO_0.out
          subst eo13
          obtain ⟨Ao14, co14, eo14⟩ := Kd.V_slice HO_1.out
          subst eo14
          try go_wp2
          have n0_ := Aside0.mk (Kd.V_drew HO_0.out)
          have n1_ := Aside0.mk (Kd.V_drew HO_1.out)
          have n2_ := Aside0.mk (Kd.N_drew HO_9.out)
          have n3_ := Aside0.mk (below_drew1 HB.out)
          clear HO_0
          clear HO_1
          clear HO_9
          clear HB
          have HO_0 := n0_
          have HO_1 := n1_
          have HO_9 := n2_
          have HB := n3_
          clear n0_ n1_ n2_ n3_
          have p168 : 0 ≤ (0 : Int) := (by omega)
          have q168 : 0 < (x0_1.length : Int) := zod
          obtain ⟨ad168, A168_0, c168_0, e168, hx168_0, hx168_1, hl168_0, hi168_0⟩ := at_T68 (Kd.V_reads' HO_0.out).2.2 0 p168 q168
          cases e168
          obtain ⟨ce168, hce168, hMe168, hcc168⟩ := Kd.V_get HO_0.out z68 0 p168 (by first | exact q168 | exact zod | (have e_ := (Kd.V_reads' HO_0.out).1; omega))
          obtain ⟨ua168_0, uc168_0, rfl, ul168_0, ge168_0⟩ := k68_openF hMe168
          have hv168_0 := hcc168 0 _ rfl
          rw [Nat.add_zero] at hv168_0
          replace hv168_0 := Option.some.inj (hv168_0.symm.trans hx168_0)
          injection hv168_0 with hva_ hvn_ hvc_
          rw [hva_] at ge168_0
          rw [hvc_] at ul168_0
          have HL168_0 := Aside0.mk (show Kd.V (Kd.int .i64) 3 _ w.heap.size _ _ ((rd_T68 x0_1 0).f0) from Kd.V_mk ul168_0 ge168_0)
          clear hva_ hvn_ hvc_ ge168_0 ul168_0
          clear hcc168 hce168
          have qi168 : (0 < x0_1.length) = True := eq_true (by omega)
          (try rw [show ((0 : Int)).toNat = 0 from rfl] at hx168_0)
          (try rw [show 0 * 2 = 0 from rfl] at hx168_0)
          (try rw [Addr.add_zero'] at hx168_0)
          (try rw [show ((0 : Int)).toNat = 0 from rfl] at hx168_1)
          (try rw [show 0 * 2 = 0 from rfl] at hx168_1)
          (try rw [Addr.add_zero'] at hx168_1)
          have HR168_0 := Aside0.mk hi168_0
          have HC168_0 := Aside0.mk hl168_0
          clear hi168_0 hl168_0
          replace p168 := eq_true p168
          replace q168 := eq_true q168
          have p169 : 0 ≤ (0 : Int) := (by omega)
          have q169 : 0 < (x1_1.length : Int) := zod
          obtain ⟨ad169, A169_0, c169_0, e169, hx169_0, hx169_1, hl169_0, hi169_0⟩ := at_T68 (Kd.V_reads' HO_1.out).2.2 0 p169 q169
          cases e169
          obtain ⟨ce169, hce169, hMe169, hcc169⟩ := Kd.V_get HO_1.out z68 0 p169 (by first | exact q169 | exact zod | (have e_ := (Kd.V_reads' HO_1.out).1; omega))
          obtain ⟨ua169_0, uc169_0, rfl, ul169_0, ge169_0⟩ := k68_openF hMe169
          have hv169_0 := hcc169 0 _ rfl
          rw [Nat.add_zero] at hv169_0
          replace hv169_0 := Option.some.inj (hv169_0.symm.trans hx169_0)
          injection hv169_0 with hva_ hvn_ hvc_
          rw [hva_] at ge169_0
          rw [hvc_] at ul169_0
          have HL169_0 := Aside0.mk (show Kd.V (Kd.int .i64) 3 _ w.heap.size _ _ ((rd_T68 x1_1 0).f0) from Kd.V_mk ul169_0 ge169_0)
          clear hva_ hvn_ hvc_ ge169_0 ul169_0
          clear hcc169 hce169
          have qi169 : (0 < x1_1.length) = True := eq_true (by omega)
          (try rw [show ((0 : Int)).toNat = 0 from rfl] at hx169_0)
          (try rw [show 0 * 2 = 0 from rfl] at hx169_0)
          (try rw [Addr.add_zero'] at hx169_0)
          (try rw [show ((0 : Int)).toNat = 0 from rfl] at hx169_1)
          (try rw [show 0 * 2 = 0 from rfl] at hx169_1)
          (try rw [Addr.add_zero'] at hx169_1)
          have HR169_0 := Aside0.mk hi169_0
          have HC169_0 := Aside0.mk hl169_0
          clear hi169_0 hl169_0
          replace p169 := eq_true p169
          replace q169 := eq_true q169
          refine start_ (n := 9) (S := fun w' => w'.cell? ad168 = some (.slice A168_0 ((rd_T68 x0_1 0).f0).length c168_0) ∧ w'.cell? ⟨ad168.block, ad168.off + 1, none⟩ = some (.int .i64 ((rd_T68 x0_1 0).f1)) ∧ w'.cell? ad169 = some (.slice A169_0 ((rd_T68 x1_1 0).f0).length c169_0) ∧ w'.cell? ⟨ad169.block, ad169.off + 1, none⟩ = some (.int .i64 ((rd_T68 x1_1 0).f1))) (ds := []) #[false, false, false, false, false, false, false, false, false] (by kernel_rfl) rfl rfl ⟨hx168_0, hx168_1, hx169_0, hx169_1⟩ (fun hHeld => ?_); refine with_tabW impl_merged_impl_Item__impl_cmpItem_impl_together_1.tab3 impl_merged_impl_Item__impl_cmpItem_impl_together_1.bits3 (fun HT_ HW_ => ?_)
          generalize wr.drew = w15 at HO_0 HO_1 HO_9 HB HL168_0 HL169_0 HR168_0 HR169_0 hx168_0 hx168_1 hx169_0 hx169_1 hHeld ⊢
          refine pure_ (i := 0) (N := some 21) (v := ?_) (a' := ?_) #[true, false, false, false, false, false, false, false, false] rfl rfl (any_of HT_.out (by kernel_rfl)) (fun _ _ _ h => h) (Or.inl ⟨by rfl, ?_⟩) ?_ ?_
          rotate_left
          ·intro w'
           go_simp
           with_reducible rfl
          rotate_left
          ·simp only [Act.put, zp1, zp2, zp3, i64_w, i32_w]
           rfl
          refine pure_ (i := 1) (N := some 22) (v := ?_) (a' := ?_) #[true, true, false, false, false, false, false, false, false] rfl rfl (any_of HT_.out (by kernel_rfl)) (fun _ _ _ h => h) (Or.inl ⟨by rfl, ?_⟩) ?_ ?_
          rotate_left
          ·intro w'
           go_simp
           with_reducible rfl
          rotate_left
          ·simp only [Act.put, zp1, zp2, zp3, i64_w, i32_w]
           rfl
          refine pure_ (i := 2) (N := some 23) (v := ?_) (a' := ?_) #[true, true, true, false, false, false, false, false, false] rfl rfl (any_of HT_.out (by kernel_rfl)) (fun _ _ _ h => h) (Or.inl ⟨by rfl, ?_⟩) ?_ ?_
          rotate_left
          ·intro w'
           go_simp
           with_reducible rfl
          rotate_left
          ·simp only [Act.put, zp1, zp2, zp3, i64_w, i32_w]
           rfl
          refine pure_ (i := 4) (N := some 25) (v := ?_) (a' := ?_) #[true, true, true, false, true, false, false, false, false] rfl rfl (any_of HT_.out (by kernel_rfl)) (fun _ _ _ h => h) (Or.inl ⟨by rfl, ?_⟩) ?_ ?_
          rotate_left
          ·intro w'
           go_simp
           with_reducible rfl
          rotate_left
          ·simp only [Act.put, zp1, zp2, zp3, i64_w, i32_w]
           rfl
          refine pure_ (i := 5) (N := some 26) (v := ?_) (a' := ?_) #[true, true, true, false, true, true, false, false, false] rfl rfl (any_of HT_.out (by kernel_rfl)) (fun _ _ _ h => h) (Or.inl ⟨by rfl, ?_⟩) ?_ ?_
          rotate_left
          ·intro w'
           go_simp
           with_reducible rfl
          rotate_left
          ·simp only [Act.put, zp1, zp2, zp3, i64_w, i32_w]
           rfl
          refine take_ (i := 3) (N := some 24) (v := ?_) (a' := ?_) #[true, true, true, true, true, true, false, false, false] rfl rfl (take_ofW HT_.out HW_.out (by kernel_rfl)) (fun _ _ _ h => h) (Or.inl ⟨by rfl, ?_⟩) hHeld ?_ ?_
          rotate_left
          ·rintro w' ⟨s0, s1, s2, s3⟩
           go_simp
           with_reducible rfl
          rotate_left
          ·simp only [Act.put, zp1, zp2, zp3, i64_w, i32_w]
           rfl
          refine take_ (i := 6) (N := some 27) (v := ?_) (a' := ?_) #[true, true, true, true, true, true, true, false, false] rfl rfl (take_ofW HT_.out HW_.out (by kernel_rfl)) (fun _ _ _ h => h) (Or.inl ⟨by rfl, ?_⟩) hHeld ?_ ?_
          rotate_left
          ·rintro w' ⟨s0, s1, s2, s3⟩
           go_simp
           with_reducible rfl
          rotate_left
          ·simp only [Act.put, zp1, zp2, zp3, i64_w, i32_w]
           rfl
          refine one_ (i := 7) (N := some 28) #[true, true, true, true, true, true, true, true, false] rfl rfl (one_of HT_.out (by kernel_rfl)) (by decide) (fun K hK => ?_)
          refine goes_f (.tmp 21) Try.func107 (by kernel_rfl) rfl #[.agg #[.slice A168_0 ((rd_T68 x0_1 0).f0).length c168_0, .int .i64 ((rd_T68 x0_1 0).f1)], .agg #[.slice A169_0 ((rd_T68 x1_1 0).f0).length c169_0, .int .i64 ((rd_T68 x1_1 0).f1)]] (by rfl) rfl rfl rfl zar ?_
          with_reducible refine (impl_cmpItem.calls k1 _ _ ((rd_T68 x0_1 0).f0) ((rd_T68 x0_1 0).f1) _ _ ((rd_T68 x1_1 0).f0) ((rd_T68 x1_1 0).f1) t170 _ ?side1 ?side2 ?side3 ?side4 A9.out).mono ?_
          (case side1 => repeat (first | exact (by repeat (first | (with_reducible exact HR168_0.out) | (with_reducible refine Kd.C_alloc ?_ _) | (with_reducible refine Kd.C_drewN ?_ _) | (with_reducible refine Kd.C_drew ?_) | exact HR168_0.out)) | (with_reducible refine Kd.C_alloc ?_ _) | (with_reducible refine Kd.C_drewN ?_ _) | (with_reducible refine Kd.C_drew ?_)))
          (case side2 => exact HC168_0.out)
          (case side3 => repeat (first | exact (by repeat (first | (with_reducible exact HR169_0.out) | (with_reducible refine Kd.C_alloc ?_ _) | (with_reducible refine Kd.C_drewN ?_ _) | (with_reducible refine Kd.C_drew ?_) | exact HR169_0.out)) | (with_reducible refine Kd.C_alloc ?_ _) | (with_reducible refine Kd.C_drewN ?_ _) | (with_reducible refine Kd.C_drew ?_)))
          (case side4 => exact HC169_0.out)
          rintro e w16 ⟨rfl, hb⟩
          have HS0_ := (hb.cell (World.block_lt_of_cell? _ _ (hHeld.1))).trans (hHeld.1)
          have HS1_ := (hb.cell (World.block_lt_of_cell? _ _ (hHeld.2.1))).trans (hHeld.2.1)
          have HS2_ := (hb.cell (World.block_lt_of_cell? _ _ (hHeld.2.2.1))).trans (hHeld.2.2.1)
          have HS3_ := (hb.cell (World.block_lt_of_cell? _ _ (hHeld.2.2.2))).trans (hHeld.2.2.2)
          refine ⟨_, rfl, ?_⟩
          have n0_ := Aside0.mk (Kd.V_below (by (with_reducible repeat (first | apply Kd.V_alloc | apply Kd.V_drewN | apply Kd.V_drew)); exact HO_0.out) hb)
          have n1_ := Aside0.mk (Kd.V_below (by (with_reducible repeat (first | apply Kd.V_alloc | apply Kd.V_drewN | apply Kd.V_drew)); exact HO_1.out) hb)
          have n2_ := Aside0.mk (Kd.N_below (by (with_reducible repeat (first | apply Kd.N_alloc | apply Kd.N_drewN | apply Kd.N_drew)); exact HO_9.out) hb)
          have n3_ := Aside0.mk (Kd.V_below (by (with_reducible repeat (first | apply Kd.V_alloc | apply Kd.V_drewN | apply Kd.V_drew)); exact HL168_0.out) hb)
          have n4_ := Aside0.mk (Kd.V_below (by (with_reducible repeat (first | apply Kd.V_alloc | apply Kd.V_drewN | apply Kd.V_drew)); exact HL169_0.out) hb)
          have n5_ := Aside0.mk (Kd.C_below (by repeat (first | (with_reducible exact HR168_0.out) | (with_reducible refine Kd.C_alloc ?_ _) | (with_reducible refine Kd.C_drewN ?_ _) | (with_reducible refine Kd.C_drew ?_) | exact HR168_0.out)) hb)
          have n6_ := Aside0.mk (Kd.C_below (by repeat (first | (with_reducible exact HR169_0.out) | (with_reducible refine Kd.C_alloc ?_ _) | (with_reducible refine Kd.C_drewN ?_ _) | (with_reducible refine Kd.C_drew ?_) | exact HR169_0.out)) hb)
          have n7_ := Aside0.mk (below_step zhb hb)
          clear HO_0
          clear HO_1
          clear HO_9
          clear HL168_0
          clear HL169_0
          clear HR168_0
          clear HR169_0
          clear HB
          have HO_0 := n0_
          have HO_1 := n1_
          have HO_9 := n2_
          have HL168_0 := n3_
          have HL169_0 := n4_
          have HR168_0 := n5_
          have HR169_0 := n6_
          have HB := n7_
          clear n0_ n1_ n2_ n3_ n4_ n5_ n6_ n7_
          (try clear hb)
          (try clear hb2)
          (try clear hk)
          (try clear hi)
          refine hK.out _ _ ⟨HS0_, HS1_, HS2_, HS3_⟩ (fun hHeld => ?_)
          clear hK K
          refine norm_ (a' := ?_) ?_ ?_
          rotate_left
          ·show Act.put _ (some 28) _ = _
           simp only [Act.put, zp1, zp2, zp3, i64_w, i32_w]
           rfl
          refine pure_ (i := 8) (N := some 10) (v := ?_) (a' := ?_) #[true, true, true, true, true, true, true, true, true] rfl rfl (any_of HT_.out (by kernel_rfl)) (fun _ _ _ h => h) (Or.inl ⟨by rfl, ?_⟩) ?_ ?_
          rotate_left
          ·intro w'
           go_simp
           with_reducible rfl
          rotate_left
          ·simp only [Act.put, zp1, zp2, zp3, i64_w, i32_w]
           rfl
          refine done_ (done_of HT_.out (by kernel_rfl)) ?_
          try go_wp2
          have n0_ := Aside0.mk (Kd.V_drew HO_0.out)
          have n1_ := Aside0.mk (Kd.V_drew HO_1.out)
          have n2_ := Aside0.mk (Kd.N_drew HO_9.out)
          have n3_ := Aside0.mk (Kd.V_drew HL168_0.out)
          have n4_ := Aside0.mk (Kd.V_drew HL169_0.out)
          have n5_ := Aside0.mk (Kd.C_drew HR168_0.out)
          have n6_ := Aside0.mk (Kd.C_drew HR169_0.out)
          have n7_ := Aside0.mk (below_drew1 HB.out)
          clear HO_0
          clear HO_1
          clear HO_9
          clear HL168_0
          clear HL169_0
          clear HR168_0
          clear HR169_0
          clear HB
          have HO_0 := n0_
          have HO_1 := n1_
          have HO_9 := n2_
          have HL168_0 := n3_
          have HL169_0 := n4_
          have HR168_0 := n5_
          have HR169_0 := n6_
          have HB := n7_
          clear n0_ n1_ n2_ n3_ n4_ n5_ n6_ n7_
          have p171 : 0 ≤ (0 : Int) := (by omega)
          have q171 : 0 < (x0_1.length : Int) := zod
          obtain ⟨ad171, A171_0, c171_0, e171, hx171_0, hx171_1, hl171_0, hi171_0⟩ := at_T68 (Kd.V_reads' HO_0.out).2.2 0 p171 q171
          obtain rfl : ad168 = ad171 := (by injection e171)
          obtain ⟨ce171, hce171, hMe171, hcc171⟩ := Kd.V_get HO_0.out z68 0 p171 (by first | exact q171 | exact zod | (have e_ := (Kd.V_reads' HO_0.out).1; omega))
          obtain ⟨ua171_0, uc171_0, rfl, ul171_0, ge171_0⟩ := k68_openF hMe171
          have hv171_0 := hcc171 0 _ rfl
          rw [Nat.add_zero] at hv171_0
          replace hv171_0 := Option.some.inj (hv171_0.symm.trans hx171_0)
          injection hv171_0 with hva_ hvn_ hvc_
          rw [hva_] at ge171_0
          rw [hvc_] at ul171_0
          have HL171_0 := Aside0.mk (show Kd.V (Kd.int .i64) 3 _ w.heap.size _ _ ((rd_T68 x0_1 0).f0) from Kd.V_mk ul171_0 ge171_0)
          clear hva_ hvn_ hvc_ ge171_0 ul171_0
          clear hcc171 hce171
          have qi171 : (0 < x0_1.length) = True := eq_true (by omega)
          (try rw [show ((0 : Int)).toNat = 0 from rfl] at hx171_0)
          (try rw [show 0 * 2 = 0 from rfl] at hx171_0)
          (try rw [Addr.add_zero'] at hx171_0)
          (try rw [show ((0 : Int)).toNat = 0 from rfl] at hx171_1)
          (try rw [show 0 * 2 = 0 from rfl] at hx171_1)
          (try rw [Addr.add_zero'] at hx171_1)
          have HR171_0 := Aside0.mk hi171_0
          have HC171_0 := Aside0.mk hl171_0
          clear hi171_0 hl171_0
          replace p171 := eq_true p171
          replace q171 := eq_true q171
          have q18 : (1 : Int) ≤ ((x0_1.length : Int) : Int) := zod
          obtain ⟨i018, hi018, _, hsz18, _⟩ := info_parts info68
          have hroom18 : x0_1.length ≤ co13 := (Kd.V_reads' HO_0.out).2.1
          have hC18 : Kd.F k68 _ _ (some ad168) x0_1.length x0_1 := (Kd.V_at (base := w.heap.size) HO_0.out).2.2
          have hcut18 := cut_from (P := Try.prog) 33 68 .i64 Try.underlying33 hi018 2 hsz18 (some ad168) x0_1.length co13 1 (by omega) q18
          have hr18 := Kd.F_cut (m := (1 : Int).toNat) (c := co13) hC18 (by omega) hroom18
          obtain ⟨A18, hA18⟩ : ∃ A1, A1 = (if co13 = (1 : Int).toNat then (some ad168) else ((some ad168) : Option Addr).map (·.add ((1 : Int).toNat * 2))) := ⟨_, rfl⟩
          obtain ⟨c18, hc18⟩ : ∃ c1, c1 = co13 - (1 : Int).toNat := ⟨_, rfl⟩
          have hy18 : y175.length = x0_1.length - (1 : Int).toNat := (by rw [Ny175.out, List.length_drop] <;> omega)
          rw [show (x0_1).drop (1 : Int).toNat = y175 from Ny175.out.symm] at hr18
          replace hr18 : Kd.F k68 _ _ A18 y175.length y175 := (by rw [hA18]; exact hr18)
          rw [← hy18, ← hA18, ← hc18] at hcut18
          have HO179 := Aside0.mk (show Kd.V k68 68 _ w.heap.size _ (.slice A18 y175.length c18) y175 from Kd.V_mk (by rw [hy18, hc18]; exact Nat.sub_le_sub_right hroom18 _) hr18)
          have HC179 := Aside0.mk (show y175.length ≤ c18 from by rw [hy18, hc18]; exact Nat.sub_le_sub_right hroom18 _)
          clear hr18 hC18 hroom18 hi018 hsz18 hc18
          have KY18 := Aside0.mk hy18
          have KA18 := Aside0.mk hA18
          clear hy18 hA18
          replace q18 := eq_true q18
          refine start_ (n := 10) (S := fun w' => w'.cell? ad168 = some (.slice A171_0 ((rd_T68 x0_1 0).f0).length c171_0) ∧ w'.cell? ⟨ad168.block, ad168.off + 1, none⟩ = some (.int .i64 ((rd_T68 x0_1 0).f1))) (ds := [4, 5]) #[false, false, false, false, false, false, false, false, false, false] (by kernel_rfl) rfl rfl ⟨hx171_0, hx171_1⟩ (fun hHeld => ?_); refine with_tabW impl_merged_impl_Item__impl_cmpItem_impl_together_1.tab9 impl_merged_impl_Item__impl_cmpItem_impl_together_1.bits9 (fun HT_ HW_ => ?_)
          generalize w16.drew = w17 at HO_0 HO_1 HO_9 HL168_0 HL169_0 HR168_0 HR169_0 HB HL171_0 HO179 HR171_0 hx171_0 hx171_1 hHeld ⊢
          refine pure_ (i := 0) (N := some 52) (v := ?_) (a' := ?_) #[true, false, false, false, false, false, false, false, false, false] rfl rfl (any_of HT_.out (by kernel_rfl)) (fun _ _ _ h => h) (Or.inl ⟨by rfl, ?_⟩) ?_ ?_
          rotate_left
          ·intro w'
           go_simp
           with_reducible rfl
          rotate_left
          ·simp only [Act.put, zp1, zp2, zp3, i64_w, i32_w]
           rfl
          refine pure_ (i := 1) (N := some 53) (v := ?_) (a' := ?_) #[true, true, false, false, false, false, false, false, false, false] rfl rfl (any_of HT_.out (by kernel_rfl)) (fun _ _ _ h => h) (Or.inl ⟨by rfl, ?_⟩) ?_ ?_
          rotate_left
          ·intro w'
           go_simp
           with_reducible rfl
          rotate_left
          ·simp only [Act.put, zp1, zp2, zp3, i64_w, i32_w]
           rfl
          refine pure_ (i := 2) (N := some 54) (v := ?_) (a' := ?_) #[true, true, true, false, false, false, false, false, false, false] rfl rfl (any_of HT_.out (by kernel_rfl)) (fun _ _ _ h => h) (Or.inl ⟨by rfl, ?_⟩) ?_ ?_
          rotate_left
          ·intro w'
           go_simp
           with_reducible rfl
          rotate_left
          ·simp only [Act.put, zp1, zp2, zp3, i64_w, i32_w]
           rfl
          refine pure_ (i := 6) (N := some 58) (v := ?_) (a' := ?_) #[true, true, true, false, false, false, true, false, false, false] rfl rfl (any_of HT_.out (by kernel_rfl)) (fun _ _ _ h => h) (Or.inl ⟨by rfl, ?_⟩) ?_ ?_
          rotate_left
          ·intro w'
           go_simp
           with_reducible rfl
          rotate_left
          ·simp only [Act.put, zp1, zp2, zp3, i64_w, i32_w]
           rfl
          refine pure_ (i := 7) (N := some 59) (v := ?_) (a' := ?_) #[true, true, true, false, false, false, true, true, false, false] rfl rfl (any_of HT_.out (by kernel_rfl)) (fun _ _ _ h => h) (Or.inl ⟨by rfl, ?_⟩) ?_ ?_
          rotate_left
          ·intro w'
           go_simp
           with_reducible rfl
          rotate_left
          ·simp only [Act.put, zp1, zp2, zp3, i64_w, i32_w]
           rfl
          refine take_ (i := 3) (N := some 55) (v := ?_) (a' := ?_) #[true, true, true, true, false, false, true, true, false, false] rfl rfl (take_ofW HT_.out HW_.out (by kernel_rfl)) (fun _ _ _ h => h) (Or.inl ⟨by rfl, ?_⟩) hHeld ?_ ?_
          rotate_left
          ·rintro w' ⟨s0, s1⟩
           go_simp
           with_reducible rfl
          rotate_left
          ·simp only [Act.put, zp1, zp2, zp3, i64_w, i32_w]
           rfl
          refine last_ (i := 4) (N := some 56) #[true, true, true, true, true, false, true, true, false, false] rfl rfl (one_of HT_.out (by kernel_rfl)) (by decide) (fun K hK => ?_)
          refine value_ (w1 := ?_) (v := ?_) (by rfl) rfl ?_ ?_
          rotate_left 2
          ·go_simp
           constructor
           ·rfl
           ·rfl
          refine hK.out _ _ ?_
          clear hK K
          refine norm_ (a' := ?_) ?_ ?_
          rotate_left
          ·show Act.put _ (some 56) _ = _
           simp only [Act.put, zp1, zp2, zp3, i64_w, i32_w]
           rfl
          refine last_ (i := 5) (N := some 57) #[true, true, true, true, true, true, true, true, false, false] rfl rfl (one_of HT_.out (by kernel_rfl)) (by decide) (fun K hK => ?_)
          refine Kd.N_append_step k68 (w0 := w) w.heap.size (by rfl) (.tmp 52) (.tmp 56) 33 68 (.agg #[(.slice none 0 0), (.int .i64 0)]) 32 rfl Try.underlying33 info68 rfl (by decide) (by omega) u9 x9_1 (⟨(rd_T68 x0_1 0).f0, (rd_T68 x0_1 0).f1⟩ : S68) [.slice A171_0 ((rd_T68 x0_1 0).f0).length c171_0, .int .i64 ((rd_T68 x0_1 0).f1)] (fun k_ => ((P0_ k_ ∨ P1_ k_) ∨ w.heap.size ≤ k_)) (fun k_ => ((fun k_ => ((P0_ k_ ∨ P1_ k_) ∨ w.heap.size ≤ k_))) k_ ∧ some k_ ≠ (u9 : Value).ownBlock) rfl rfl ?aP (fun _ hk => hk) ?aF ?aO ?aB ?aS ?aL ?_
          (case aP => exact (k68_mkF _ _ (⟨(rd_T68 x0_1 0).f0, (rd_T68 x0_1 0).f1⟩ : S68) (Kd.V_reads' (Kd.V_mono (ok' := (fun k_ => ((fun k_ => ((P0_ k_ ∨ P1_ k_) ∨ w.heap.size ≤ k_))) k_ ∧ some k_ ≠ (u9 : Value).ownBlock)) (HL171_0.out) (fun k_ hk => ⟨hk.1, hk.2⟩))).2.1 (Kd.V_F (Kd.V_mono (ok' := (fun k_ => ((fun k_ => ((P0_ k_ ∨ P1_ k_) ∨ w.heap.size ≤ k_))) k_ ∧ some k_ ≠ (u9 : Value).ownBlock)) (HL171_0.out) (fun k_ hk => ⟨hk.1, hk.2⟩)))))
          (case aB => exact zhb)
          (case aF => exact (fun k_ hk => (.inr (Nat.le_trans (below_size zhb) hk))))
          (case aO => exact (by (with_reducible repeat (first | apply Kd.N_alloc | apply Kd.N_drewN | apply Kd.N_drew)); exact HO_9.out))
          (case aS => exact (below_size zhb))
          (case aL => have := LMc11.out; omega)
          intro v173 w19 ho hb hg hat
          rw [← Ny172.out] at ho
          have n0_ := Aside0.mk (Kd.V_afterv (ok := (fun k_ => ((P0_ k_ ∨ P1_ k_) ∨ w.heap.size ≤ k_))) (by (with_reducible repeat (first | apply Kd.V_alloc | apply Kd.V_drewN | apply Kd.V_drew)); exact HO_0.out) hg hat)
          have n1_ := Aside0.mk (Kd.V_afterv (ok := (fun k_ => ((P0_ k_ ∨ P1_ k_) ∨ w.heap.size ≤ k_))) (by (with_reducible repeat (first | apply Kd.V_alloc | apply Kd.V_drewN | apply Kd.V_drew)); exact HO_1.out) hg hat)
          have n2_ := Aside0.mk (Kd.V_afterv (ok := (fun k_ => ((P0_ k_ ∨ P1_ k_) ∨ w.heap.size ≤ k_))) (by (with_reducible repeat (first | apply Kd.V_alloc | apply Kd.V_drewN | apply Kd.V_drew)); exact HL168_0.out) hg hat)
          have n3_ := Aside0.mk (Kd.V_afterv (ok := (fun k_ => ((P0_ k_ ∨ P1_ k_) ∨ w.heap.size ≤ k_))) (by (with_reducible repeat (first | apply Kd.V_alloc | apply Kd.V_drewN | apply Kd.V_drew)); exact HL169_0.out) hg hat)
          have n4_ := Aside0.mk (Kd.V_afterv (ok := (fun k_ => ((P0_ k_ ∨ P1_ k_) ∨ w.heap.size ≤ k_))) (by (with_reducible repeat (first | apply Kd.V_alloc | apply Kd.V_drewN | apply Kd.V_drew)); exact HL171_0.out) hg hat)
          have n5_ := Aside0.mk (Kd.V_afterv (ok := (fun k_ => ((P0_ k_ ∨ P1_ k_) ∨ w.heap.size ≤ k_))) (by (with_reducible repeat (first | apply Kd.V_alloc | apply Kd.V_drewN | apply Kd.V_drew)); exact HO179.out) hg hat)
          have n6_ := Aside0.mk (hb)
          have n7_ := Aside0.mk (ho)
          clear HO_0
          clear HO_1
          clear HL168_0
          clear HL169_0
          clear HL171_0
          clear HO179
          clear HB
          clear HO_9
          have HO_0 := n0_
          have HO_1 := n1_
          have HL168_0 := n2_
          have HL169_0 := n3_
          have HL171_0 := n4_
          have HO179 := n5_
          have HB := n6_
          have HO174 := n7_
          clear n0_ n1_ n2_ n3_ n4_ n5_ n6_ n7_
          clear ho hb hg hat
          refine hK.out _ _ ?_
          clear hK K
          refine norm_ (a' := ?_) ?_ ?_
          rotate_left
          ·show Act.put _ (some 57) _ = _
           simp only [Act.put, zp1, zp2, zp3, i64_w, i32_w]
           rfl
          refine pure_ (i := 8) (N := some 9) (v := ?_) (a' := ?_) #[true, true, true, true, true, true, true, true, true, false] rfl rfl (any_of HT_.out (by kernel_rfl)) (fun _ _ _ h => h) (Or.inl ⟨by rfl, ?_⟩) ?_ ?_
          rotate_left
          ·intro w'
           go_simp
           with_reducible rfl
          rotate_left
          ·simp only [Act.put, zp1, zp2, zp3, i64_w, i32_w]
           rfl
          refine pure_ (i := 9) (N := some 0) (v := ?_) (a' := ?_) #[true, true, true, true, true, true, true, true, true, true] rfl rfl (any_of HT_.out (by kernel_rfl)) (fun _ _ _ h => h) (Or.inl ⟨by rfl, ?_⟩) ?_ ?_
          rotate_left
          ·intro w'
           go_simp
           with_reducible rfl
          rotate_left
          ·simp only [Act.put, zp1, zp2, zp3, i64_w, i32_w]
           rfl
          refine done_ (done_of HT_.out (by kernel_rfl)) ?_
          try go_wp2
          go_roundg k1
          case measure => have := HK1.out; omega
          case rel => exact ⟨(y175), (x1_1), (y172), H', ⟨by have := HK1.out; omega⟩, ⟨by (with_reducible repeat (first | apply Kd.V_alloc | apply Kd.V_drewN | apply Kd.V_drew)); exact HO179.out⟩, ⟨by (with_reducible repeat (first | apply Kd.V_alloc | apply Kd.V_drewN | apply Kd.V_drew)); exact HO_1.out⟩, ⟨by (with_reducible repeat (first | apply Kd.N_alloc | apply Kd.N_drewN | apply Kd.N_drew)); exact HO174.out⟩, ⟨zhb⟩⟩
         ·rw [if_neg c12] at H
          exact absurd H (by simp)
        ·rw [if_neg c11] at H
         exact absurd H (by simp)
       ·rw [if_neg c10] at H
        have c10b0 : decide (t170 < 0) = false := decide_eq_false c10
        clear c10
        by_cases c20 : t170 > 0
        ·rw [if_pos c20] at H
         have c20b0 : decide (0 < t170) = true := decide_eq_true c20
         clear c20
         by_cases c21 : x9_1.length < 4398046511104
         ·rw [if_pos c21] at H
          have LMc21 := Aside0.mk c21
          clear c21
          obtain ⟨y181, hy181⟩ : ∃ y_ : List (S68), y_ = (x9_1 ++ [(⟨(rd_T68 x1_1 0).f0, (rd_T68 x1_1 0).f1⟩ : S68)]) := ⟨_, rfl⟩
          replace H : (if 1 ≤ (x1_1.length : Int) then (impl_merged_impl_Item__impl_cmpItem_impl_together_1.l0 k1 x0_1 (x1_1.drop 1) y181) else (none)) = some r := by first | (rw [hy181]; with_reducible exact H) | (have H2_ := (Option.bind_some _ _).symm.trans H; rw [hy181]; with_reducible exact H2_) | (have H2_ := (Option.bind_some _ _).symm.trans H; with_reducible exact H2_) | with_reducible exact H | (rw [hy181]; exact H) | exact H
          have Ny181 := Aside0.mk hy181
          clear hy181
          by_cases c22 : 1 ≤ (x1_1.length : Int)
          ·rw [if_pos c22] at H
           have c22b0 := eq_true c22
           have c22b1 : decide (1 ≤ (x1_1.length : Int)) = true := decide_eq_true c22
           clear c22
           obtain ⟨y184, hy184⟩ : ∃ y_ : List (S68), y_ = (x1_1.drop 1) := ⟨_, rfl⟩
           replace H : (impl_merged_impl_Item__impl_cmpItem_impl_together_1.l0 k1 x0_1 y184 y181) = some r := by first | (rw [hy184]; with_reducible exact H) | (have H2_ := (Option.bind_some _ _).symm.trans H; rw [hy184]; with_reducible exact H2_) | (have H2_ := (Option.bind_some _ _).symm.trans H; with_reducible exact H2_) | with_reducible exact H | (rw [hy184]; exact H) | exact H
           have Ny184 := Aside0.mk hy184
           clear hy184
           have H' := Aside0.mk H
           clear H
           obtain ⟨Ao23, co23, eo23⟩ := Kd.V_slice HO_0.out
           subst eo23
           obtain ⟨Ao24, co24, eo24⟩ := Kd.V_slice HO_1.out
           subst eo24
           try go_wp2
           have n0_ := Aside0.mk (Kd.V_drew HO_0.out)
           have n1_ := Aside0.mk (Kd.V_drew HO_1.out)
           have n2_ := Aside0.mk (Kd.N_drew HO_9.out)
           have n3_ := Aside0.mk (below_drew1 HB.out)
           clear HO_0
           clear HO_1
           clear HO_9
           clear HB
           have HO_0 := n0_
           have HO_1 := n1_
           have HO_9 := n2_
           have HB := n3_
           clear n0_ n1_ n2_ n3_
           have p168 : 0 ≤ (0 : Int) := (by omega)
           have q168 : 0 < (x0_1.length : Int) := zod
           obtain ⟨ad168, A168_0, c168_0, e168, hx168_0, hx168_1, hl168_0, hi168_0⟩ := at_T68 (Kd.V_reads' HO_0.out).2.2 0 p168 q168
           cases e168
           obtain ⟨ce168, hce168, hMe168, hcc168⟩ := Kd.V_get HO_0.out z68 0 p168 (by first | exact q168 | exact zod | (have e_ := (Kd.V_reads' HO_0.out).1; omega))
           obtain ⟨ua168_0, uc168_0, rfl, ul168_0, ge168_0⟩ := k68_openF hMe168
           have hv168_0 := hcc168 0 _ rfl
           rw [Nat.add_zero] at hv168_0
           replace hv168_0 := Option.some.inj (hv168_0.symm.trans hx168_0)
           injection hv168_0 with hva_ hvn_ hvc_
           rw [hva_] at ge168_0
           rw [hvc_] at ul168_0
           have HL168_0 := Aside0.mk (show Kd.V (Kd.int .i64) 3 _ w.heap.size _ _ ((rd_T68 x0_1 0).f0) from Kd.V_mk ul168_0 ge168_0)
           clear hva_ hvn_ hvc_ ge168_0 ul168_0
           clear hcc168 hce168
           have qi168 : (0 < x0_1.length) = True := eq_true (by omega)
           (try rw [show ((0 : Int)).toNat = 0 from rfl] at hx168_0)
           (try rw [show 0 * 2 = 0 from rfl] at hx168_0)
           (try rw [Addr.add_zero'] at hx168_0)
           (try rw [show ((0 : Int)).toNat = 0 from rfl] at hx168_1)
           (try rw [show 0 * 2 = 0 from rfl] at hx168_1)
           (try rw [Addr.add_zero'] at hx168_1)
           have HR168_0 := Aside0.mk hi168_0
           have HC168_0 := Aside0.mk hl168_0
           clear hi168_0 hl168_0
           replace p168 := eq_true p168
           replace q168 := eq_true q168
           have p169 : 0 ≤ (0 : Int) := (by omega)
           have q169 : 0 < (x1_1.length : Int) := zod
           obtain ⟨ad169, A169_0, c169_0, e169, hx169_0, hx169_1, hl169_0, hi169_0⟩ := at_T68 (Kd.V_reads' HO_1.out).2.2 0 p169 q169
           cases e169
           obtain ⟨ce169, hce169, hMe169, hcc169⟩ := Kd.V_get HO_1.out z68 0 p169 (by first | exact q169 | exact zod | (have e_ := (Kd.V_reads' HO_1.out).1; omega))
           obtain ⟨ua169_0, uc169_0, rfl, ul169_0, ge169_0⟩ := k68_openF hMe169
           have hv169_0 := hcc169 0 _ rfl
           rw [Nat.add_zero] at hv169_0
           replace hv169_0 := Option.some.inj (hv169_0.symm.trans hx169_0)
           injection hv169_0 with hva_ hvn_ hvc_
           rw [hva_] at ge169_0
           rw [hvc_] at ul169_0
           have HL169_0 := Aside0.mk (show Kd.V (Kd.int .i64) 3 _ w.heap.size _ _ ((rd_T68 x1_1 0).f0) from Kd.V_mk ul169_0 ge169_0)
           clear hva_ hvn_ hvc_ ge169_0 ul169_0
           clear hcc169 hce169
           have qi169 : (0 < x1_1.length) = True := eq_true (by omega)
           (try rw [show ((0 : Int)).toNat = 0 from rfl] at hx169_0)
           (try rw [show 0 * 2 = 0 from rfl] at hx169_0)
           (try rw [Addr.add_zero'] at hx169_0)
           (try rw [show ((0 : Int)).toNat = 0 from rfl] at hx169_1)
           (try rw [show 0 * 2 = 0 from rfl] at hx169_1)
           (try rw [Addr.add_zero'] at hx169_1)
           have HR169_0 := Aside0.mk hi169_0
           have HC169_0 := Aside0.mk hl169_0
           clear hi169_0 hl169_0
           replace p169 := eq_true p169
           replace q169 := eq_true q169
           refine start_ (n := 9) (S := fun w' => w'.cell? ad168 = some (.slice A168_0 ((rd_T68 x0_1 0).f0).length c168_0) ∧ w'.cell? ⟨ad168.block, ad168.off + 1, none⟩ = some (.int .i64 ((rd_T68 x0_1 0).f1)) ∧ w'.cell? ad169 = some (.slice A169_0 ((rd_T68 x1_1 0).f0).length c169_0) ∧ w'.cell? ⟨ad169.block, ad169.off + 1, none⟩ = some (.int .i64 ((rd_T68 x1_1 0).f1))) (ds := []) #[false, false, false, false, false, false, false, false, false] (by kernel_rfl) rfl rfl ⟨hx168_0, hx168_1, hx169_0, hx169_1⟩ (fun hHeld => ?_); refine with_tabW impl_merged_impl_Item__impl_cmpItem_impl_together_1.tab3 impl_merged_impl_Item__impl_cmpItem_impl_together_1.bits3 (fun HT_ HW_ => ?_)
           generalize wr.drew = w25 at HO_0 HO_1 HO_9 HB HL168_0 HL169_0 HR168_0 HR169_0 hx168_0 hx168_1 hx169_0 hx169_1 hHeld ⊢
           refine pure_ (i := 0) (N := some 21) (v := ?_) (a' := ?_) #[true, false, false, false, false, false, false, false, false] rfl rfl (any_of HT_.out (by kernel_rfl)) (fun _ _ _ h => h) (Or.inl ⟨by rfl, ?_⟩) ?_ ?_
           rotate_left
           ·intro w'
            go_simp
            with_reducible rfl
           rotate_left
           ·simp only [Act.put, zp1, zp2, zp3, i64_w, i32_w]
            rfl
           refine pure_ (i := 1) (N := some 22) (v := ?_) (a' := ?_) #[true, true, false, false, false, false, false, false, false] rfl rfl (any_of HT_.out (by kernel_rfl)) (fun _ _ _ h => h) (Or.inl ⟨by rfl, ?_⟩) ?_ ?_
           rotate_left
           ·intro w'
            go_simp
            with_reducible rfl
           rotate_left
           ·simp only [Act.put, zp1, zp2, zp3, i64_w, i32_w]
            rfl
           refine pure_ (i := 2) (N := some 23) (v := ?_) (a' := ?_) #[true, true, true, false, false, false, false, false, false] rfl rfl (any_of HT_.out (by kernel_rfl)) (fun _ _ _ h => h) (Or.inl ⟨by rfl, ?_⟩) ?_ ?_
           rotate_left
           ·intro w'
            go_simp
            with_reducible rfl
           rotate_left
           ·simp only [Act.put, zp1, zp2, zp3, i64_w, i32_w]
            rfl
           refine pure_ (i := 4) (N := some 25) (v := ?_) (a' := ?_) #[true, true, true, false, true, false, false, false, false] rfl rfl (any_of HT_.out (by kernel_rfl)) (fun _ _ _ h => h) (Or.inl ⟨by rfl, ?_⟩) ?_ ?_
           rotate_left
           ·intro w'
            go_simp
            with_reducible rfl
           rotate_left
           ·simp only [Act.put, zp1, zp2, zp3, i64_w, i32_w]
            rfl
           refine pure_ (i := 5) (N := some 26) (v := ?_) (a' := ?_) #[true, true, true, false, true, true, false, false, false] rfl rfl (any_of HT_.out (by kernel_rfl)) (fun _ _ _ h => h) (Or.inl ⟨by rfl, ?_⟩) ?_ ?_
           rotate_left
           ·intro w'
            go_simp
            with_reducible rfl
           rotate_left
           ·simp only [Act.put, zp1, zp2, zp3, i64_w, i32_w]
            rfl
           refine take_ (i := 3) (N := some 24) (v := ?_) (a' := ?_) #[true, true, true, true, true, true, false, false, false] rfl rfl (take_ofW HT_.out HW_.out (by kernel_rfl)) (fun _ _ _ h => h) (Or.inl ⟨by rfl, ?_⟩) hHeld ?_ ?_
           rotate_left
           ·rintro w' ⟨s0, s1, s2, s3⟩
            go_simp
            with_reducible rfl
           rotate_left
           ·simp only [Act.put, zp1, zp2, zp3, i64_w, i32_w]
            rfl
           refine take_ (i := 6) (N := some 27) (v := ?_) (a' := ?_) #[true, true, true, true, true, true, true, false, false] rfl rfl (take_ofW HT_.out HW_.out (by kernel_rfl)) (fun _ _ _ h => h) (Or.inl ⟨by rfl, ?_⟩) hHeld ?_ ?_
           rotate_left
           ·rintro w' ⟨s0, s1, s2, s3⟩
            go_simp
            with_reducible rfl
           rotate_left
           ·simp only [Act.put, zp1, zp2, zp3, i64_w, i32_w]
            rfl
           refine one_ (i := 7) (N := some 28) #[true, true, true, true, true, true, true, true, false] rfl rfl (one_of HT_.out (by kernel_rfl)) (by decide) (fun K hK => ?_)
           refine goes_f (.tmp 21) Try.func107 (by kernel_rfl) rfl #[.agg #[.slice A168_0 ((rd_T68 x0_1 0).f0).length c168_0, .int .i64 ((rd_T68 x0_1 0).f1)], .agg #[.slice A169_0 ((rd_T68 x1_1 0).f0).length c169_0, .int .i64 ((rd_T68 x1_1 0).f1)]] (by rfl) rfl rfl rfl zar ?_
           with_reducible refine (impl_cmpItem.calls k1 _ _ ((rd_T68 x0_1 0).f0) ((rd_T68 x0_1 0).f1) _ _ ((rd_T68 x1_1 0).f0) ((rd_T68 x1_1 0).f1) t170 _ ?side1 ?side2 ?side3 ?side4 A9.out).mono ?_
           (case side1 => repeat (first | exact (by repeat (first | (with_reducible exact HR168_0.out) | (with_reducible refine Kd.C_alloc ?_ _) | (with_reducible refine Kd.C_drewN ?_ _) | (with_reducible refine Kd.C_drew ?_) | exact HR168_0.out)) | (with_reducible refine Kd.C_alloc ?_ _) | (with_reducible refine Kd.C_drewN ?_ _) | (with_reducible refine Kd.C_drew ?_)))
           (case side2 => exact HC168_0.out)
           (case side3 => repeat (first | exact (by repeat (first | (with_reducible exact HR169_0.out) | (with_reducible refine Kd.C_alloc ?_ _) | (with_reducible refine Kd.C_drewN ?_ _) | (with_reducible refine Kd.C_drew ?_) | exact HR169_0.out)) | (with_reducible refine Kd.C_alloc ?_ _) | (with_reducible refine Kd.C_drewN ?_ _) | (with_reducible refine Kd.C_drew ?_)))
           (case side4 => exact HC169_0.out)
           rintro e w26 ⟨rfl, hb⟩
           have HS0_ := (hb.cell (World.block_lt_of_cell? _ _ (hHeld.1))).trans (hHeld.1)
           have HS1_ := (hb.cell (World.block_lt_of_cell? _ _ (hHeld.2.1))).trans (hHeld.2.1)
           have HS2_ := (hb.cell (World.block_lt_of_cell? _ _ (hHeld.2.2.1))).trans (hHeld.2.2.1)
           have HS3_ := (hb.cell (World.block_lt_of_cell? _ _ (hHeld.2.2.2))).trans (hHeld.2.2.2)
           refine ⟨_, rfl, ?_⟩
           have n0_ := Aside0.mk (Kd.V_below (by (with_reducible repeat (first | apply Kd.V_alloc | apply Kd.V_drewN | apply Kd.V_drew)); exact HO_0.out) hb)
           have n1_ := Aside0.mk (Kd.V_below (by (with_reducible repeat (first | apply Kd.V_alloc | apply Kd.V_drewN | apply Kd.V_drew)); exact HO_1.out) hb)
           have n2_ := Aside0.mk (Kd.N_below (by (with_reducible repeat (first | apply Kd.N_alloc | apply Kd.N_drewN | apply Kd.N_drew)); exact HO_9.out) hb)
           have n3_ := Aside0.mk (Kd.V_below (by (with_reducible repeat (first | apply Kd.V_alloc | apply Kd.V_drewN | apply Kd.V_drew)); exact HL168_0.out) hb)
           have n4_ := Aside0.mk (Kd.V_below (by (with_reducible repeat (first | apply Kd.V_alloc | apply Kd.V_drewN | apply Kd.V_drew)); exact HL169_0.out) hb)
           have n5_ := Aside0.mk (Kd.C_below (by repeat (first | (with_reducible exact HR168_0.out) | (with_reducible refine Kd.C_alloc ?_ _) | (with_reducible refine Kd.C_drewN ?_ _) | (with_reducible refine Kd.C_drew ?_) | exact HR168_0.out)) hb)
           have n6_ := Aside0.mk (Kd.C_below (by repeat (first | (with_reducible exact HR169_0.out) | (with_reducible refine Kd.C_alloc ?_ _) | (with_reducible refine Kd.C_drewN ?_ _) | (with_reducible refine Kd.C_drew ?_) | exact HR169_0.out)) hb)
           have n7_ := Aside0.mk (below_step zhb hb)
           clear HO_0
           clear HO_1
           clear HO_9
           clear HL168_0
           clear HL169_0
           clear HR168_0
           clear HR169_0
           clear HB
           have HO_0 := n0_
           have HO_1 := n1_
           have HO_9 := n2_
           have HL168_0 := n3_
           have HL169_0 := n4_
           have HR168_0 := n5_
           have HR169_0 := n6_
           have HB := n7_
           clear n0_ n1_ n2_ n3_ n4_ n5_ n6_ n7_
           (try clear hb)
           (try clear hb2)
           (try clear hk)
           (try clear hi)
           refine hK.out _ _ ⟨HS0_, HS1_, HS2_, HS3_⟩ (fun hHeld => ?_)
           clear hK K
           refine norm_ (a' := ?_) ?_ ?_
           rotate_left
           ·show Act.put _ (some 28) _ = _
            simp only [Act.put, zp1, zp2, zp3, i64_w, i32_w]
            rfl
           refine pure_ (i := 8) (N := some 10) (v := ?_) (a' := ?_) #[true, true, true, true, true, true, true, true, true] rfl rfl (any_of HT_.out (by kernel_rfl)) (fun _ _ _ h => h) (Or.inl ⟨by rfl, ?_⟩) ?_ ?_
           rotate_left
           ·intro w'
            go_simp
            with_reducible rfl
           rotate_left
           ·simp only [Act.put, zp1, zp2, zp3, i64_w, i32_w]
            rfl
           refine done_ (done_of HT_.out (by kernel_rfl)) ?_
           try go_wp2
           have n0_ := Aside0.mk (Kd.V_drew HO_0.out)
           have n1_ := Aside0.mk (Kd.V_drew HO_1.out)
           have n2_ := Aside0.mk (Kd.N_drew HO_9.out)
           have n3_ := Aside0.mk (Kd.V_drew HL168_0.out)
           have n4_ := Aside0.mk (Kd.V_drew HL169_0.out)
           have n5_ := Aside0.mk (Kd.C_drew HR168_0.out)
           have n6_ := Aside0.mk (Kd.C_drew HR169_0.out)
           have n7_ := Aside0.mk (below_drew1 HB.out)
           clear HO_0
           clear HO_1
           clear HO_9
           clear HL168_0
           clear HL169_0
           clear HR168_0
           clear HR169_0
           clear HB
           have HO_0 := n0_
           have HO_1 := n1_
           have HO_9 := n2_
           have HL168_0 := n3_
           have HL169_0 := n4_
           have HR168_0 := n5_
           have HR169_0 := n6_
           have HB := n7_
           clear n0_ n1_ n2_ n3_ n4_ n5_ n6_ n7_
           have p180 : 0 ≤ (0 : Int) := (by omega)
           have q180 : 0 < (x1_1.length : Int) := zod
           obtain ⟨ad180, A180_0, c180_0, e180, hx180_0, hx180_1, hl180_0, hi180_0⟩ := at_T68 (Kd.V_reads' HO_1.out).2.2 0 p180 q180
           obtain rfl : ad169 = ad180 := (by injection e180)
           obtain ⟨ce180, hce180, hMe180, hcc180⟩ := Kd.V_get HO_1.out z68 0 p180 (by first | exact q180 | exact zod | (have e_ := (Kd.V_reads' HO_1.out).1; omega))
           obtain ⟨ua180_0, uc180_0, rfl, ul180_0, ge180_0⟩ := k68_openF hMe180
           have hv180_0 := hcc180 0 _ rfl
           rw [Nat.add_zero] at hv180_0
           replace hv180_0 := Option.some.inj (hv180_0.symm.trans hx180_0)
           injection hv180_0 with hva_ hvn_ hvc_
           rw [hva_] at ge180_0
           rw [hvc_] at ul180_0
           have HL180_0 := Aside0.mk (show Kd.V (Kd.int .i64) 3 _ w.heap.size _ _ ((rd_T68 x1_1 0).f0) from Kd.V_mk ul180_0 ge180_0)
           clear hva_ hvn_ hvc_ ge180_0 ul180_0
           clear hcc180 hce180
           have qi180 : (0 < x1_1.length) = True := eq_true (by omega)
           (try rw [show ((0 : Int)).toNat = 0 from rfl] at hx180_0)
           (try rw [show 0 * 2 = 0 from rfl] at hx180_0)
           (try rw [Addr.add_zero'] at hx180_0)
           (try rw [show ((0 : Int)).toNat = 0 from rfl] at hx180_1)
           (try rw [show 0 * 2 = 0 from rfl] at hx180_1)
           (try rw [Addr.add_zero'] at hx180_1)
           have HR180_0 := Aside0.mk hi180_0
           have HC180_0 := Aside0.mk hl180_0
           clear hi180_0 hl180_0
           replace p180 := eq_true p180
           replace q180 := eq_true q180
           have q28 : (1 : Int) ≤ ((x1_1.length : Int) : Int) := zod
           obtain ⟨i028, hi028, _, hsz28, _⟩ := info_parts info68
           have hroom28 : x1_1.length ≤ co24 := (Kd.V_reads' HO_1.out).2.1
           have hC28 : Kd.F k68 _ _ (some ad169) x1_1.length x1_1 := (Kd.V_at (base := w.heap.size) HO_1.out).2.2
           have hcut28 := cut_from (P := Try.prog) 33 68 .i64 Try.underlying33 hi028 2 hsz28 (some ad169) x1_1.length co24 1 (by omega) q28
           have hr28 := Kd.F_cut (m := (1 : Int).toNat) (c := co24) hC28 (by omega) hroom28
           obtain ⟨A28, hA28⟩ : ∃ A1, A1 = (if co24 = (1 : Int).toNat then (some ad169) else ((some ad169) : Option Addr).map (·.add ((1 : Int).toNat * 2))) := ⟨_, rfl⟩
           obtain ⟨c28, hc28⟩ : ∃ c1, c1 = co24 - (1 : Int).toNat := ⟨_, rfl⟩
           have hy28 : y184.length = x1_1.length - (1 : Int).toNat := (by rw [Ny184.out, List.length_drop] <;> omega)
           rw [show (x1_1).drop (1 : Int).toNat = y184 from Ny184.out.symm] at hr28
           replace hr28 : Kd.F k68 _ _ A28 y184.length y184 := (by rw [hA28]; exact hr28)
           rw [← hy28, ← hA28, ← hc28] at hcut28
           have HO188 := Aside0.mk (show Kd.V k68 68 _ w.heap.size _ (.slice A28 y184.length c28) y184 from Kd.V_mk (by rw [hy28, hc28]; exact Nat.sub_le_sub_right hroom28 _) hr28)
           have HC188 := Aside0.mk (show y184.length ≤ c28 from by rw [hy28, hc28]; exact Nat.sub_le_sub_right hroom28 _)
           clear hr28 hC28 hroom28 hi028 hsz28 hc28
           have KY28 := Aside0.mk hy28
           have KA28 := Aside0.mk hA28
           clear hy28 hA28
           replace q28 := eq_true q28
           refine start_ (n := 10) (S := fun w' => w'.cell? ad169 = some (.slice A180_0 ((rd_T68 x1_1 0).f0).length c180_0) ∧ w'.cell? ⟨ad169.block, ad169.off + 1, none⟩ = some (.int .i64 ((rd_T68 x1_1 0).f1))) (ds := [4, 5]) #[false, false, false, false, false, false, false, false, false, false] (by kernel_rfl) rfl rfl ⟨hx180_0, hx180_1⟩ (fun hHeld => ?_); refine with_tabW impl_merged_impl_Item__impl_cmpItem_impl_together_1.tab11 impl_merged_impl_Item__impl_cmpItem_impl_together_1.bits11 (fun HT_ HW_ => ?_)
           generalize w26.drew = w27 at HO_0 HO_1 HO_9 HL168_0 HL169_0 HR168_0 HR169_0 HB HL180_0 HO188 HR180_0 hx180_0 hx180_1 hHeld ⊢
           refine pure_ (i := 0) (N := some 63) (v := ?_) (a' := ?_) #[true, false, false, false, false, false, false, false, false, false] rfl rfl (any_of HT_.out (by kernel_rfl)) (fun _ _ _ h => h) (Or.inl ⟨by rfl, ?_⟩) ?_ ?_
           rotate_left
           ·intro w'
            go_simp
            with_reducible rfl
           rotate_left
           ·simp only [Act.put, zp1, zp2, zp3, i64_w, i32_w]
            rfl
           refine pure_ (i := 1) (N := some 64) (v := ?_) (a' := ?_) #[true, true, false, false, false, false, false, false, false, false] rfl rfl (any_of HT_.out (by kernel_rfl)) (fun _ _ _ h => h) (Or.inl ⟨by rfl, ?_⟩) ?_ ?_
           rotate_left
           ·intro w'
            go_simp
            with_reducible rfl
           rotate_left
           ·simp only [Act.put, zp1, zp2, zp3, i64_w, i32_w]
            rfl
           refine pure_ (i := 2) (N := some 65) (v := ?_) (a' := ?_) #[true, true, true, false, false, false, false, false, false, false] rfl rfl (any_of HT_.out (by kernel_rfl)) (fun _ _ _ h => h) (Or.inl ⟨by rfl, ?_⟩) ?_ ?_
           rotate_left
           ·intro w'
            go_simp
            with_reducible rfl
           rotate_left
           ·simp only [Act.put, zp1, zp2, zp3, i64_w, i32_w]
            rfl
           refine pure_ (i := 6) (N := some 69) (v := ?_) (a' := ?_) #[true, true, true, false, false, false, true, false, false, false] rfl rfl (any_of HT_.out (by kernel_rfl)) (fun _ _ _ h => h) (Or.inl ⟨by rfl, ?_⟩) ?_ ?_
           rotate_left
           ·intro w'
            go_simp
            with_reducible rfl
           rotate_left
           ·simp only [Act.put, zp1, zp2, zp3, i64_w, i32_w]
            rfl
           refine pure_ (i := 7) (N := some 70) (v := ?_) (a' := ?_) #[true, true, true, false, false, false, true, true, false, false] rfl rfl (any_of HT_.out (by kernel_rfl)) (fun _ _ _ h => h) (Or.inl ⟨by rfl, ?_⟩) ?_ ?_
           rotate_left
           ·intro w'
            go_simp
            with_reducible rfl
           rotate_left
           ·simp only [Act.put, zp1, zp2, zp3, i64_w, i32_w]
            rfl
           refine take_ (i := 3) (N := some 66) (v := ?_) (a' := ?_) #[true, true, true, true, false, false, true, true, false, false] rfl rfl (take_ofW HT_.out HW_.out (by kernel_rfl)) (fun _ _ _ h => h) (Or.inl ⟨by rfl, ?_⟩) hHeld ?_ ?_
           rotate_left
           ·rintro w' ⟨s0, s1⟩
            go_simp
            with_reducible rfl
           rotate_left
           ·simp only [Act.put, zp1, zp2, zp3, i64_w, i32_w]
            rfl
           refine last_ (i := 4) (N := some 67) #[true, true, true, true, true, false, true, true, false, false] rfl rfl (one_of HT_.out (by kernel_rfl)) (by decide) (fun K hK => ?_)
           refine value_ (w1 := ?_) (v := ?_) (by rfl) rfl ?_ ?_
           rotate_left 2
           ·go_simp
            constructor
            ·rfl
            ·rfl
           refine hK.out _ _ ?_
           clear hK K
           refine norm_ (a' := ?_) ?_ ?_
           rotate_left
           ·show Act.put _ (some 67) _ = _
            simp only [Act.put, zp1, zp2, zp3, i64_w, i32_w]
            rfl
           refine last_ (i := 5) (N := some 68) #[true, true, true, true, true, true, true, true, false, false] rfl rfl (one_of HT_.out (by kernel_rfl)) (by decide) (fun K hK => ?_)
           refine Kd.N_append_step k68 (w0 := w) w.heap.size (by rfl) (.tmp 63) (.tmp 67) 33 68 (.agg #[(.slice none 0 0), (.int .i64 0)]) 32 rfl Try.underlying33 info68 rfl (by decide) (by omega) u9 x9_1 (⟨(rd_T68 x1_1 0).f0, (rd_T68 x1_1 0).f1⟩ : S68) [.slice A180_0 ((rd_T68 x1_1 0).f0).length c180_0, .int .i64 ((rd_T68 x1_1 0).f1)] (fun k_ => ((P0_ k_ ∨ P1_ k_) ∨ w.heap.size ≤ k_)) (fun k_ => ((fun k_ => ((P0_ k_ ∨ P1_ k_) ∨ w.heap.size ≤ k_))) k_ ∧ some k_ ≠ (u9 : Value).ownBlock) rfl rfl ?aP (fun _ hk => hk) ?aF ?aO ?aB ?aS ?aL ?_
           (case aP => exact (k68_mkF _ _ (⟨(rd_T68 x1_1 0).f0, (rd_T68 x1_1 0).f1⟩ : S68) (Kd.V_reads' (Kd.V_mono (ok' := (fun k_ => ((fun k_ => ((P0_ k_ ∨ P1_ k_) ∨ w.heap.size ≤ k_))) k_ ∧ some k_ ≠ (u9 : Value).ownBlock)) (HL180_0.out) (fun k_ hk => ⟨hk.1, hk.2⟩))).2.1 (Kd.V_F (Kd.V_mono (ok' := (fun k_ => ((fun k_ => ((P0_ k_ ∨ P1_ k_) ∨ w.heap.size ≤ k_))) k_ ∧ some k_ ≠ (u9 : Value).ownBlock)) (HL180_0.out) (fun k_ hk => ⟨hk.1, hk.2⟩)))))
           (case aB => exact zhb)
           (case aF => exact (fun k_ hk => (.inr (Nat.le_trans (below_size zhb) hk))))
           (case aO => exact (by (with_reducible repeat (first | apply Kd.N_alloc | apply Kd.N_drewN | apply Kd.N_drew)); exact HO_9.out))
           (case aS => exact (below_size zhb))
           (case aL => have := LMc21.out; omega)
           intro v182 w29 ho hb hg hat
           rw [← Ny181.out] at ho
           have n0_ := Aside0.mk (Kd.V_afterv (ok := (fun k_ => ((P0_ k_ ∨ P1_ k_) ∨ w.heap.size ≤ k_))) (by (with_reducible repeat (first | apply Kd.V_alloc | apply Kd.V_drewN | apply Kd.V_drew)); exact HO_0.out) hg hat)
           have n1_ := Aside0.mk (Kd.V_afterv (ok := (fun k_ => ((P0_ k_ ∨ P1_ k_) ∨ w.heap.size ≤ k_))) (by (with_reducible repeat (first | apply Kd.V_alloc | apply Kd.V_drewN | apply Kd.V_drew)); exact HO_1.out) hg hat)
           have n2_ := Aside0.mk (Kd.V_afterv (ok := (fun k_ => ((P0_ k_ ∨ P1_ k_) ∨ w.heap.size ≤ k_))) (by (with_reducible repeat (first | apply Kd.V_alloc | apply Kd.V_drewN | apply Kd.V_drew)); exact HL168_0.out) hg hat)
           have n3_ := Aside0.mk (Kd.V_afterv (ok := (fun k_ => ((P0_ k_ ∨ P1_ k_) ∨ w.heap.size ≤ k_))) (by (with_reducible repeat (first | apply Kd.V_alloc | apply Kd.V_drewN | apply Kd.V_drew)); exact HL169_0.out) hg hat)
           have n4_ := Aside0.mk (Kd.V_afterv (ok := (fun k_ => ((P0_ k_ ∨ P1_ k_) ∨ w.heap.size ≤ k_))) (by (with_reducible repeat (first | apply Kd.V_alloc | apply Kd.V_drewN | apply Kd.V_drew)); exact HL180_0.out) hg hat)
           have n5_ := Aside0.mk (Kd.V_afterv (ok := (fun k_ => ((P0_ k_ ∨ P1_ k_) ∨ w.heap.size ≤ k_))) (by (with_reducible repeat (first | apply Kd.V_alloc | apply Kd.V_drewN | apply Kd.V_drew)); exact HO188.out) hg hat)
           have n6_ := Aside0.mk (hb)
           have n7_ := Aside0.mk (ho)
           clear HO_0
           clear HO_1
           clear HL168_0
           clear HL169_0
           clear HL180_0
           clear HO188
           clear HB
           clear HO_9
           have HO_0 := n0_
           have HO_1 := n1_
           have HL168_0 := n2_
           have HL169_0 := n3_
           have HL180_0 := n4_
           have HO188 := n5_
           have HB := n6_
           have HO183 := n7_
           clear n0_ n1_ n2_ n3_ n4_ n5_ n6_ n7_
           clear ho hb hg hat
           refine hK.out _ _ ?_
           clear hK K
           refine norm_ (a' := ?_) ?_ ?_
           rotate_left
           ·show Act.put _ (some 68) _ = _
            simp only [Act.put, zp1, zp2, zp3, i64_w, i32_w]
            rfl
           refine pure_ (i := 8) (N := some 9) (v := ?_) (a' := ?_) #[true, true, true, true, true, true, true, true, true, false] rfl rfl (any_of HT_.out (by kernel_rfl)) (fun _ _ _ h => h) (Or.inl ⟨by rfl, ?_⟩) ?_ ?_
           rotate_left
           ·intro w'
            go_simp
            with_reducible rfl
           rotate_left
           ·simp only [Act.put, zp1, zp2, zp3, i64_w, i32_w]
            rfl
           refine pure_ (i := 9) (N := some 1) (v := ?_) (a' := ?_) #[true, true, true, true, true, true, true, true, true, true] rfl rfl (any_of HT_.out (by kernel_rfl)) (fun _ _ _ h => h) (Or.inl ⟨by rfl, ?_⟩) ?_ ?_
           rotate_left
           ·intro w'
            go_simp
            with_reducible rfl
           rotate_left
           ·simp only [Act.put, zp1, zp2, zp3, i64_w, i32_w]
            rfl
           refine done_ (done_of HT_.out (by kernel_rfl)) ?_
           try go_wp2
           go_roundg k1
           case measure => have := HK1.out; omega
           case rel => exact ⟨(x0_1), (y184), (y181), H', ⟨by have := HK1.out; omega⟩, ⟨by (with_reducible repeat (first | apply Kd.V_alloc | apply Kd.V_drewN | apply Kd.V_drew)); exact HO_0.out⟩, ⟨by (with_reducible repeat (first | apply Kd.V_alloc | apply Kd.V_drewN | apply Kd.V_drew)); exact HO188.out⟩, ⟨by (with_reducible repeat (first | apply Kd.N_alloc | apply Kd.N_drewN | apply Kd.N_drew)); exact HO183.out⟩, ⟨zhb⟩⟩
          ·rw [if_neg c22] at H
           exact absurd H (by simp)
         ·rw [if_neg c21] at H
          exact absurd H (by simp)
        ·rw [if_neg c20] at H
         have c20b0 : decide (0 < t170) = false := decide_eq_false c20
         clear c20
         replace H := Option.bind_eq_some_iff.mp H
         obtain ⟨⟨t191, t194, t195⟩, A300, H⟩ := H
         (try dsimp only at H)
         have A30 := Aside0.mk A300
         clear A300
         by_cases c31 : t195 = true
         ·subst c31
          have H1 : (if x9_1.length < 4398046511104 then (if 1 ≤ (x0_1.length : Int) then (if 1 ≤ (x1_1.length : Int) then (impl_merged_impl_Item__impl_cmpItem_impl_together_1.l0 k1 (x0_1.drop 1) (x1_1.drop 1) (x9_1 ++ [(⟨t191, t194⟩ : S68)])) else (none)) else (none)) else (none)) = some r := by rw [if_pos rfl] at H; exact H
          clear H
          have H := H1
          clear H1
          by_cases c32 : x9_1.length < 4398046511104
          ·rw [if_pos c32] at H
           have LMc32 := Aside0.mk c32
           clear c32
           obtain ⟨y197, hy197⟩ : ∃ y_ : List (S68), y_ = (x9_1 ++ [(⟨t191, t194⟩ : S68)]) := ⟨_, rfl⟩
           replace H : (if 1 ≤ (x0_1.length : Int) then (if 1 ≤ (x1_1.length : Int) then (impl_merged_impl_Item__impl_cmpItem_impl_together_1.l0 k1 (x0_1.drop 1) (x1_1.drop 1) y197) else (none)) else (none)) = some r := by first | (rw [hy197]; with_reducible exact H) | (have H2_ := (Option.bind_some _ _).symm.trans H; rw [hy197]; with_reducible exact H2_) | (have H2_ := (Option.bind_some _ _).symm.trans H; with_reducible exact H2_) | with_reducible exact H | (rw [hy197]; exact H) | exact H
           have Ny197 := Aside0.mk hy197
           clear hy197
           by_cases c33 : 1 ≤ (x0_1.length : Int)
           ·rw [if_pos c33] at H
            have c33b0 := eq_true c33
            have c33b1 : decide (1 ≤ (x0_1.length : Int)) = true := decide_eq_true c33
            clear c33
            obtain ⟨y200, hy200⟩ : ∃ y_ : List (S68), y_ = (x0_1.drop 1) := ⟨_, rfl⟩
            replace H : (if 1 ≤ (x1_1.length : Int) then (impl_merged_impl_Item__impl_cmpItem_impl_together_1.l0 k1 y200 (x1_1.drop 1) y197) else (none)) = some r := by first | (rw [hy200]; with_reducible exact H) | (have H2_ := (Option.bind_some _ _).symm.trans H; rw [hy200]; with_reducible exact H2_) | (have H2_ := (Option.bind_some _ _).symm.trans H; with_reducible exact H2_) | with_reducible exact H | (rw [hy200]; exact H) | exact H
            have Ny200 := Aside0.mk hy200
            clear hy200
            by_cases c34 : 1 ≤ (x1_1.length : Int)
            ·rw [if_pos c34] at H
             have c34b0 := eq_true c34
             have c34b1 : decide (1 ≤ (x1_1.length : Int)) = true := decide_eq_true c34
             clear c34
             obtain ⟨y205, hy205⟩ : ∃ y_ : List (S68), y_ = (x1_1.drop 1) := ⟨_, rfl⟩
             replace H : (impl_merged_impl_Item__impl_cmpItem_impl_together_1.l0 k1 y200 y205 y197) = some r := by first | (rw [hy205]; with_reducible exact H) | (have H2_ := (Option.bind_some _ _).symm.trans H; rw [hy205]; with_reducible exact H2_) | (have H2_ := (Option.bind_some _ _).symm.trans H; with_reducible exact H2_) | with_reducible exact H | (rw [hy205]; exact H) | exact H
             have Ny205 := Aside0.mk hy205
             clear hy205
             have H' := Aside0.mk H
             clear H
             obtain ⟨Ao35, co35, eo35⟩ := Kd.V_slice HO_0.out
             subst eo35
             obtain ⟨Ao36, co36, eo36⟩ := Kd.V_slice HO_1.out
             subst eo36
             try go_wp2
             have n0_ := Aside0.mk (Kd.V_drew HO_0.out)
             have n1_ := Aside0.mk (Kd.V_drew HO_1.out)
             have n2_ := Aside0.mk (Kd.N_drew HO_9.out)
             have n3_ := Aside0.mk (below_drew1 HB.out)
             clear HO_0
             clear HO_1
             clear HO_9
             clear HB
             have HO_0 := n0_
             have HO_1 := n1_
             have HO_9 := n2_
             have HB := n3_
             clear n0_ n1_ n2_ n3_
             have p168 : 0 ≤ (0 : Int) := (by omega)
             have q168 : 0 < (x0_1.length : Int) := zod
             obtain ⟨ad168, A168_0, c168_0, e168, hx168_0, hx168_1, hl168_0, hi168_0⟩ := at_T68 (Kd.V_reads' HO_0.out).2.2 0 p168 q168
             cases e168
             obtain ⟨ce168, hce168, hMe168, hcc168⟩ := Kd.V_get HO_0.out z68 0 p168 (by first | exact q168 | exact zod | (have e_ := (Kd.V_reads' HO_0.out).1; omega))
             obtain ⟨ua168_0, uc168_0, rfl, ul168_0, ge168_0⟩ := k68_openF hMe168
             have hv168_0 := hcc168 0 _ rfl
             rw [Nat.add_zero] at hv168_0
             replace hv168_0 := Option.some.inj (hv168_0.symm.trans hx168_0)
             injection hv168_0 with hva_ hvn_ hvc_
             rw [hva_] at ge168_0
             rw [hvc_] at ul168_0
             have HL168_0 := Aside0.mk (show Kd.V (Kd.int .i64) 3 _ w.heap.size _ _ ((rd_T68 x0_1 0).f0) from Kd.V_mk ul168_0 ge168_0)
             clear hva_ hvn_ hvc_ ge168_0 ul168_0
             clear hcc168 hce168
             have qi168 : (0 < x0_1.length) = True := eq_true (by omega)
             (try rw [show ((0 : Int)).toNat = 0 from rfl] at hx168_0)
             (try rw [show 0 * 2 = 0 from rfl] at hx168_0)
             (try rw [Addr.add_zero'] at hx168_0)
             (try rw [show ((0 : Int)).toNat = 0 from rfl] at hx168_1)
             (try rw [show 0 * 2 = 0 from rfl] at hx168_1)
             (try rw [Addr.add_zero'] at hx168_1)
             have HR168_0 := Aside0.mk hi168_0
             have HC168_0 := Aside0.mk hl168_0
             clear hi168_0 hl168_0
             replace p168 := eq_true p168
             replace q168 := eq_true q168
             have p169 : 0 ≤ (0 : Int) := (by omega)
             have q169 : 0 < (x1_1.length : Int) := zod
             obtain ⟨ad169, A169_0, c169_0, e169, hx169_0, hx169_1, hl169_0, hi169_0⟩ := at_T68 (Kd.V_reads' HO_1.out).2.2 0 p169 q169
             cases e169
             obtain ⟨ce169, hce169, hMe169, hcc169⟩ := Kd.V_get HO_1.out z68 0 p169 (by first | exact q169 | exact zod | (have e_ := (Kd.V_reads' HO_1.out).1; omega))
             obtain ⟨ua169_0, uc169_0, rfl, ul169_0, ge169_0⟩ := k68_openF hMe169
             have hv169_0 := hcc169 0 _ rfl
             rw [Nat.add_zero] at hv169_0
             replace hv169_0 := Option.some.inj (hv169_0.symm.trans hx169_0)
             injection hv169_0 with hva_ hvn_ hvc_
             rw [hva_] at ge169_0
             rw [hvc_] at ul169_0
             have HL169_0 := Aside0.mk (show Kd.V (Kd.int .i64) 3 _ w.heap.size _ _ ((rd_T68 x1_1 0).f0) from Kd.V_mk ul169_0 ge169_0)
             clear hva_ hvn_ hvc_ ge169_0 ul169_0
             clear hcc169 hce169
             have qi169 : (0 < x1_1.length) = True := eq_true (by omega)
             (try rw [show ((0 : Int)).toNat = 0 from rfl] at hx169_0)
             (try rw [show 0 * 2 = 0 from rfl] at hx169_0)
             (try rw [Addr.add_zero'] at hx169_0)
             (try rw [show ((0 : Int)).toNat = 0 from rfl] at hx169_1)
             (try rw [show 0 * 2 = 0 from rfl] at hx169_1)
             (try rw [Addr.add_zero'] at hx169_1)
             have HR169_0 := Aside0.mk hi169_0
             have HC169_0 := Aside0.mk hl169_0
             clear hi169_0 hl169_0
             replace p169 := eq_true p169
             replace q169 := eq_true q169
             refine start_ (n := 9) (S := fun w' => w'.cell? ad168 = some (.slice A168_0 ((rd_T68 x0_1 0).f0).length c168_0) ∧ w'.cell? ⟨ad168.block, ad168.off + 1, none⟩ = some (.int .i64 ((rd_T68 x0_1 0).f1)) ∧ w'.cell? ad169 = some (.slice A169_0 ((rd_T68 x1_1 0).f0).length c169_0) ∧ w'.cell? ⟨ad169.block, ad169.off + 1, none⟩ = some (.int .i64 ((rd_T68 x1_1 0).f1))) (ds := []) #[false, false, false, false, false, false, false, false, false] (by kernel_rfl) rfl rfl ⟨hx168_0, hx168_1, hx169_0, hx169_1⟩ (fun hHeld => ?_); refine with_tabW impl_merged_impl_Item__impl_cmpItem_impl_together_1.tab3 impl_merged_impl_Item__impl_cmpItem_impl_together_1.bits3 (fun HT_ HW_ => ?_)
             generalize wr.drew = w37 at HO_0 HO_1 HO_9 HB HL168_0 HL169_0 HR168_0 HR169_0 hx168_0 hx168_1 hx169_0 hx169_1 hHeld ⊢
             refine pure_ (i := 0) (N := some 21) (v := ?_) (a' := ?_) #[true, false, false, false, false, false, false, false, false] rfl rfl (any_of HT_.out (by kernel_rfl)) (fun _ _ _ h => h) (Or.inl ⟨by rfl, ?_⟩) ?_ ?_
             rotate_left
             ·intro w'
              go_simp
              with_reducible rfl
             rotate_left
             ·simp only [Act.put, zp1, zp2, zp3, i64_w, i32_w]
              rfl
             refine pure_ (i := 1) (N := some 22) (v := ?_) (a' := ?_) #[true, true, false, false, false, false, false, false, false] rfl rfl (any_of HT_.out (by kernel_rfl)) (fun _ _ _ h => h) (Or.inl ⟨by rfl, ?_⟩) ?_ ?_
             rotate_left
             ·intro w'
              go_simp
              with_reducible rfl
             rotate_left
             ·simp only [Act.put, zp1, zp2, zp3, i64_w, i32_w]
              rfl
             refine pure_ (i := 2) (N := some 23) (v := ?_) (a' := ?_) #[true, true, true, false, false, false, false, false, false] rfl rfl (any_of HT_.out (by kernel_rfl)) (fun _ _ _ h => h) (Or.inl ⟨by rfl, ?_⟩) ?_ ?_
             rotate_left
             ·intro w'
              go_simp
              with_reducible rfl
             rotate_left
             ·simp only [Act.put, zp1, zp2, zp3, i64_w, i32_w]
              rfl
             refine pure_ (i := 4) (N := some 25) (v := ?_) (a' := ?_) #[true, true, true, false, true, false, false, false, false] rfl rfl (any_of HT_.out (by kernel_rfl)) (fun _ _ _ h => h) (Or.inl ⟨by rfl, ?_⟩) ?_ ?_
             rotate_left
             ·intro w'
              go_simp
              with_reducible rfl
             rotate_left
             ·simp only [Act.put, zp1, zp2, zp3, i64_w, i32_w]
              rfl
             refine pure_ (i := 5) (N := some 26) (v := ?_) (a' := ?_) #[true, true, true, false, true, true, false, false, false] rfl rfl (any_of HT_.out (by kernel_rfl)) (fun _ _ _ h => h) (Or.inl ⟨by rfl, ?_⟩) ?_ ?_
             rotate_left
             ·intro w'
              go_simp
              with_reducible rfl
             rotate_left
             ·simp only [Act.put, zp1, zp2, zp3, i64_w, i32_w]
              rfl
             refine take_ (i := 3) (N := some 24) (v := ?_) (a' := ?_) #[true, true, true, true, true, true, false, false, false] rfl rfl (take_ofW HT_.out HW_.out (by kernel_rfl)) (fun _ _ _ h => h) (Or.inl ⟨by rfl, ?_⟩) hHeld ?_ ?_
             rotate_left
             ·rintro w' ⟨s0, s1, s2, s3⟩
              go_simp
              with_reducible rfl
             rotate_left
             ·simp only [Act.put, zp1, zp2, zp3, i64_w, i32_w]
              rfl
             refine take_ (i := 6) (N := some 27) (v := ?_) (a' := ?_) #[true, true, true, true, true, true, true, false, false] rfl rfl (take_ofW HT_.out HW_.out (by kernel_rfl)) (fun _ _ _ h => h) (Or.inl ⟨by rfl, ?_⟩) hHeld ?_ ?_
             rotate_left
             ·rintro w' ⟨s0, s1, s2, s3⟩
              go_simp
              with_reducible rfl
             rotate_left
             ·simp only [Act.put, zp1, zp2, zp3, i64_w, i32_w]
              rfl
             refine one_ (i := 7) (N := some 28) #[true, true, true, true, true, true, true, true, false] rfl rfl (one_of HT_.out (by kernel_rfl)) (by decide) (fun K hK => ?_)
             refine goes_f (.tmp 21) Try.func107 (by kernel_rfl) rfl #[.agg #[.slice A168_0 ((rd_T68 x0_1 0).f0).length c168_0, .int .i64 ((rd_T68 x0_1 0).f1)], .agg #[.slice A169_0 ((rd_T68 x1_1 0).f0).length c169_0, .int .i64 ((rd_T68 x1_1 0).f1)]] (by rfl) rfl rfl rfl zar ?_
             with_reducible refine (impl_cmpItem.calls k1 _ _ ((rd_T68 x0_1 0).f0) ((rd_T68 x0_1 0).f1) _ _ ((rd_T68 x1_1 0).f0) ((rd_T68 x1_1 0).f1) t170 _ ?side1 ?side2 ?side3 ?side4 A9.out).mono ?_
             (case side1 => repeat (first | exact (by repeat (first | (with_reducible exact HR168_0.out) | (with_reducible refine Kd.C_alloc ?_ _) | (with_reducible refine Kd.C_drewN ?_ _) | (with_reducible refine Kd.C_drew ?_) | exact HR168_0.out)) | (with_reducible refine Kd.C_alloc ?_ _) | (with_reducible refine Kd.C_drewN ?_ _) | (with_reducible refine Kd.C_drew ?_)))
             (case side2 => exact HC168_0.out)
             (case side3 => repeat (first | exact (by repeat (first | (with_reducible exact HR169_0.out) | (with_reducible refine Kd.C_alloc ?_ _) | (with_reducible refine Kd.C_drewN ?_ _) | (with_reducible refine Kd.C_drew ?_) | exact HR169_0.out)) | (with_reducible refine Kd.C_alloc ?_ _) | (with_reducible refine Kd.C_drewN ?_ _) | (with_reducible refine Kd.C_drew ?_)))
             (case side4 => exact HC169_0.out)
             rintro e w38 ⟨rfl, hb⟩
             have HS0_ := (hb.cell (World.block_lt_of_cell? _ _ (hHeld.1))).trans (hHeld.1)
             have HS1_ := (hb.cell (World.block_lt_of_cell? _ _ (hHeld.2.1))).trans (hHeld.2.1)
             have HS2_ := (hb.cell (World.block_lt_of_cell? _ _ (hHeld.2.2.1))).trans (hHeld.2.2.1)
             have HS3_ := (hb.cell (World.block_lt_of_cell? _ _ (hHeld.2.2.2))).trans (hHeld.2.2.2)
             refine ⟨_, rfl, ?_⟩
             have n0_ := Aside0.mk (Kd.V_below (by (with_reducible repeat (first | apply Kd.V_alloc | apply Kd.V_drewN | apply Kd.V_drew)); exact HO_0.out) hb)
             have n1_ := Aside0.mk (Kd.V_below (by (with_reducible repeat (first | apply Kd.V_alloc | apply Kd.V_drewN | apply Kd.V_drew)); exact HO_1.out) hb)
             have n2_ := Aside0.mk (Kd.N_below (by (with_reducible repeat (first | apply Kd.N_alloc | apply Kd.N_drewN | apply Kd.N_drew)); exact HO_9.out) hb)
             have n3_ := Aside0.mk (Kd.V_below (by (with_reducible repeat (first | apply Kd.V_alloc | apply Kd.V_drewN | apply Kd.V_drew)); exact HL168_0.out) hb)
             have n4_ := Aside0.mk (Kd.V_below (by (with_reducible repeat (first | apply Kd.V_alloc | apply Kd.V_drewN | apply Kd.V_drew)); exact HL169_0.out) hb)
             have n5_ := Aside0.mk (Kd.C_below (by repeat (first | (with_reducible exact HR168_0.out) | (with_reducible refine Kd.C_alloc ?_ _) | (with_reducible refine Kd.C_drewN ?_ _) | (with_reducible refine Kd.C_drew ?_) | exact HR168_0.out)) hb)
             have n6_ := Aside0.mk (Kd.C_below (by repeat (first | (with_reducible exact HR169_0.out) | (with_reducible refine Kd.C_alloc ?_ _) | (with_reducible refine Kd.C_drewN ?_ _) | (with_reducible refine Kd.C_drew ?_) | exact HR169_0.out)) hb)
             have n7_ := Aside0.mk (below_step zhb hb)
             clear HO_0
             clear HO_1
             clear HO_9
             clear HL168_0
             clear HL169_0
             clear HR168_0
             clear HR169_0
             clear HB
             have HO_0 := n0_
             have HO_1 := n1_
             have HO_9 := n2_
             have HL168_0 := n3_
             have HL169_0 := n4_
             have HR168_0 := n5_
             have HR169_0 := n6_
             have HB := n7_
             clear n0_ n1_ n2_ n3_ n4_ n5_ n6_ n7_
             (try clear hb)
             (try clear hb2)
             (try clear hk)
             (try clear hi)
             refine hK.out _ _ ⟨HS0_, HS1_, HS2_, HS3_⟩ (fun hHeld => ?_)
             clear hK K
             refine norm_ (a' := ?_) ?_ ?_
             rotate_left
             ·show Act.put _ (some 28) _ = _
              simp only [Act.put, zp1, zp2, zp3, i64_w, i32_w]
              rfl
             refine pure_ (i := 8) (N := some 10) (v := ?_) (a' := ?_) #[true, true, true, true, true, true, true, true, true] rfl rfl (any_of HT_.out (by kernel_rfl)) (fun _ _ _ h => h) (Or.inl ⟨by rfl, ?_⟩) ?_ ?_
             rotate_left
             ·intro w'
              go_simp
              with_reducible rfl
             rotate_left
             ·simp only [Act.put, zp1, zp2, zp3, i64_w, i32_w]
              rfl
             refine done_ (done_of HT_.out (by kernel_rfl)) ?_
             try go_wp2
             have n0_ := Aside0.mk (Kd.V_drew HO_0.out)
             have n1_ := Aside0.mk (Kd.V_drew HO_1.out)
             have n2_ := Aside0.mk (Kd.N_drew HO_9.out)
             have n3_ := Aside0.mk (Kd.V_drew HL168_0.out)
             have n4_ := Aside0.mk (Kd.V_drew HL169_0.out)
             have n5_ := Aside0.mk (Kd.C_drew HR168_0.out)
             have n6_ := Aside0.mk (Kd.C_drew HR169_0.out)
             have n7_ := Aside0.mk (below_drew1 HB.out)
             clear HO_0
             clear HO_1
             clear HO_9
             clear HL168_0
             clear HL169_0
             clear HR168_0
             clear HR169_0
             clear HB
             have HO_0 := n0_
             have HO_1 := n1_
             have HO_9 := n2_
             have HL168_0 := n3_
             have HL169_0 := n4_
             have HR168_0 := n5_
             have HR169_0 := n6_
             have HB := n7_
             clear n0_ n1_ n2_ n3_ n4_ n5_ n6_ n7_
             have p189 : 0 ≤ (0 : Int) := (by omega)
             have q189 : 0 < (x0_1.length : Int) := zod
             obtain ⟨ad189, A189_0, c189_0, e189, hx189_0, hx189_1, hl189_0, hi189_0⟩ := at_T68 (Kd.V_reads' HO_0.out).2.2 0 p189 q189
             obtain rfl : ad168 = ad189 := (by injection e189)
             obtain ⟨ce189, hce189, hMe189, hcc189⟩ := Kd.V_get HO_0.out z68 0 p189 (by first | exact q189 | exact zod | (have e_ := (Kd.V_reads' HO_0.out).1; omega))
             obtain ⟨ua189_0, uc189_0, rfl, ul189_0, ge189_0⟩ := k68_openF hMe189
             have hv189_0 := hcc189 0 _ rfl
             rw [Nat.add_zero] at hv189_0
             replace hv189_0 := Option.some.inj (hv189_0.symm.trans hx189_0)
             injection hv189_0 with hva_ hvn_ hvc_
             rw [hva_] at ge189_0
             rw [hvc_] at ul189_0
             have HL189_0 := Aside0.mk (show Kd.V (Kd.int .i64) 3 _ w.heap.size _ _ ((rd_T68 x0_1 0).f0) from Kd.V_mk ul189_0 ge189_0)
             clear hva_ hvn_ hvc_ ge189_0 ul189_0
             clear hcc189 hce189
             have qi189 : (0 < x0_1.length) = True := eq_true (by omega)
             (try rw [show ((0 : Int)).toNat = 0 from rfl] at hx189_0)
             (try rw [show 0 * 2 = 0 from rfl] at hx189_0)
             (try rw [Addr.add_zero'] at hx189_0)
             (try rw [show ((0 : Int)).toNat = 0 from rfl] at hx189_1)
             (try rw [show 0 * 2 = 0 from rfl] at hx189_1)
             (try rw [Addr.add_zero'] at hx189_1)
             have HR189_0 := Aside0.mk hi189_0
             have HC189_0 := Aside0.mk hl189_0
             clear hi189_0 hl189_0
             replace p189 := eq_true p189
             replace q189 := eq_true q189
             have p190 : 0 ≤ (0 : Int) := (by omega)
             have q190 : 0 < (x1_1.length : Int) := zod
             obtain ⟨ad190, A190_0, c190_0, e190, hx190_0, hx190_1, hl190_0, hi190_0⟩ := at_T68 (Kd.V_reads' HO_1.out).2.2 0 p190 q190
             obtain rfl : ad169 = ad190 := (by injection e190)
             obtain ⟨ce190, hce190, hMe190, hcc190⟩ := Kd.V_get HO_1.out z68 0 p190 (by first | exact q190 | exact zod | (have e_ := (Kd.V_reads' HO_1.out).1; omega))
             obtain ⟨ua190_0, uc190_0, rfl, ul190_0, ge190_0⟩ := k68_openF hMe190
             have hv190_0 := hcc190 0 _ rfl
             rw [Nat.add_zero] at hv190_0
             replace hv190_0 := Option.some.inj (hv190_0.symm.trans hx190_0)
             injection hv190_0 with hva_ hvn_ hvc_
             rw [hva_] at ge190_0
             rw [hvc_] at ul190_0
             have HL190_0 := Aside0.mk (show Kd.V (Kd.int .i64) 3 _ w.heap.size _ _ ((rd_T68 x1_1 0).f0) from Kd.V_mk ul190_0 ge190_0)
             clear hva_ hvn_ hvc_ ge190_0 ul190_0
             clear hcc190 hce190
             have qi190 : (0 < x1_1.length) = True := eq_true (by omega)
             (try rw [show ((0 : Int)).toNat = 0 from rfl] at hx190_0)
             (try rw [show 0 * 2 = 0 from rfl] at hx190_0)
             (try rw [Addr.add_zero'] at hx190_0)
             (try rw [show ((0 : Int)).toNat = 0 from rfl] at hx190_1)
             (try rw [show 0 * 2 = 0 from rfl] at hx190_1)
             (try rw [Addr.add_zero'] at hx190_1)
             have HR190_0 := Aside0.mk hi190_0
             have HC190_0 := Aside0.mk hl190_0
             clear hi190_0 hl190_0
             replace p190 := eq_true p190
             replace q190 := eq_true q190
             refine start_ (n := 14) (S := fun w' => w'.cell? ad168 = some (.slice A189_0 ((rd_T68 x0_1 0).f0).length c189_0) ∧ w'.cell? ⟨ad168.block, ad168.off + 1, none⟩ = some (.int .i64 ((rd_T68 x0_1 0).f1)) ∧ w'.cell? ad169 = some (.slice A190_0 ((rd_T68 x1_1 0).f0).length c190_0) ∧ w'.cell? ⟨ad169.block, ad169.off + 1, none⟩ = some (.int .i64 ((rd_T68 x1_1 0).f1))) (ds := []) #[false, false, false, false, false, false, false, false, false, false, false, false, false, false] (by kernel_rfl) rfl rfl ⟨hx189_0, hx189_1, hx190_0, hx190_1⟩ (fun hHeld => ?_); refine with_tabW impl_merged_impl_Item__impl_cmpItem_impl_together_1.tab4 impl_merged_impl_Item__impl_cmpItem_impl_together_1.bits4 (fun HT_ HW_ => ?_)
             generalize w38.drew = w39 at HO_0 HO_1 HO_9 HL168_0 HL169_0 HR168_0 HR169_0 HB HL189_0 HL190_0 HR189_0 HR190_0 hx189_0 hx189_1 hx190_0 hx190_1 hHeld ⊢
             refine pure_ (i := 0) (N := some 30) (v := ?_) (a' := ?_) #[true, false, false, false, false, false, false, false, false, false, false, false, false, false] rfl rfl (any_of HT_.out (by kernel_rfl)) (fun _ _ _ h => h) (Or.inl ⟨by rfl, ?_⟩) ?_ ?_
             rotate_left
             ·intro w'
              go_simp
              with_reducible rfl
             rotate_left
             ·simp only [Act.put, zp1, zp2, zp3, i64_w, i32_w]
              rfl
             refine pure_ (i := 1) (N := some 31) (v := ?_) (a' := ?_) #[true, true, false, false, false, false, false, false, false, false, false, false, false, false] rfl rfl (any_of HT_.out (by kernel_rfl)) (fun _ _ _ h => h) (Or.inl ⟨by rfl, ?_⟩) ?_ ?_
             rotate_left
             ·intro w'
              go_simp
              with_reducible rfl
             rotate_left
             ·simp only [Act.put, zp1, zp2, zp3, i64_w, i32_w]
              rfl
             refine pure_ (i := 2) (N := some 32) (v := ?_) (a' := ?_) #[true, true, true, false, false, false, false, false, false, false, false, false, false, false] rfl rfl (any_of HT_.out (by kernel_rfl)) (fun _ _ _ h => h) (Or.inl ⟨by rfl, ?_⟩) ?_ ?_
             rotate_left
             ·intro w'
              go_simp
              with_reducible rfl
             rotate_left
             ·simp only [Act.put, zp1, zp2, zp3, i64_w, i32_w]
              rfl
             refine pure_ (i := 4) (N := some 34) (v := ?_) (a' := ?_) #[true, true, true, false, true, false, false, false, false, false, false, false, false, false] rfl rfl (any_of HT_.out (by kernel_rfl)) (fun _ _ _ h => h) (Or.inl ⟨by rfl, ?_⟩) ?_ ?_
             rotate_left
             ·intro w'
              go_simp
              with_reducible rfl
             rotate_left
             ·simp only [Act.put, zp1, zp2, zp3, i64_w, i32_w]
              rfl
             refine pure_ (i := 5) (N := some 35) (v := ?_) (a' := ?_) #[true, true, true, false, true, true, false, false, false, false, false, false, false, false] rfl rfl (any_of HT_.out (by kernel_rfl)) (fun _ _ _ h => h) (Or.inl ⟨by rfl, ?_⟩) ?_ ?_
             rotate_left
             ·intro w'
              go_simp
              with_reducible rfl
             rotate_left
             ·simp only [Act.put, zp1, zp2, zp3, i64_w, i32_w]
              rfl
             refine take_ (i := 3) (N := some 33) (v := ?_) (a' := ?_) #[true, true, true, true, true, true, false, false, false, false, false, false, false, false] rfl rfl (take_ofW HT_.out HW_.out (by kernel_rfl)) (fun _ _ _ h => h) (Or.inl ⟨by rfl, ?_⟩) hHeld ?_ ?_
             rotate_left
             ·rintro w' ⟨s0, s1, s2, s3⟩
              go_simp
              with_reducible rfl
             rotate_left
             ·simp only [Act.put, zp1, zp2, zp3, i64_w, i32_w]
              rfl
             refine take_ (i := 6) (N := some 36) (v := ?_) (a' := ?_) #[true, true, true, true, true, true, true, false, false, false, false, false, false, false] rfl rfl (take_ofW HT_.out HW_.out (by kernel_rfl)) (fun _ _ _ h => h) (Or.inl ⟨by rfl, ?_⟩) hHeld ?_ ?_
             rotate_left
             ·rintro w' ⟨s0, s1, s2, s3⟩
              go_simp
              with_reducible rfl
             rotate_left
             ·simp only [Act.put, zp1, zp2, zp3, i64_w, i32_w]
              rfl
             refine join_ (σ := Value × Nat) 2 #[true, true, true, true, true, true, true, true, true, true, true, true, false, false] (fun s_ => [(37, .tuple #[.agg #[s_.1, .int .i64 t194], .bool true]), (11, .pointer (some ⟨s_.2, 0, none⟩)), (29, .tuple #[.agg #[s_.1, .int .i64 t194], .bool true]), (38, .agg #[s_.1, .int .i64 t194]), (39, .bool true)]) (fun s_ w' => (w'.cell? ad168 = some (.slice A189_0 ((rd_T68 x0_1 0).f0).length c189_0) ∧ w'.cell? ⟨ad168.block, ad168.off + 1, none⟩ = some (.int .i64 ((rd_T68 x0_1 0).f1)) ∧ w'.cell? ad169 = some (.slice A190_0 ((rd_T68 x1_1 0).f0).length c190_0) ∧ w'.cell? ⟨ad169.block, ad169.off + 1, none⟩ = some (.int .i64 ((rd_T68 x1_1 0).f1))) ∧ (Kd.V (Kd.int .i64) 3 w' w.heap.size (fun k_ => ((P0_ k_ ∨ P1_ k_) ∨ w.heap.size ≤ k_) ∧ some k_ ≠ (u9 : Value).ownBlock ∧ k_ ≠ s_.2) (.slice A168_0 ((rd_T68 x0_1 0).f0).length c168_0) ((rd_T68 x0_1 0).f0)) ∧ (Kd.V (Kd.int .i64) 3 w' w.heap.size (fun k_ => ((P0_ k_ ∨ P1_ k_) ∨ w.heap.size ≤ k_) ∧ some k_ ≠ (u9 : Value).ownBlock ∧ k_ ≠ s_.2) (.slice A169_0 ((rd_T68 x1_1 0).f0).length c169_0) ((rd_T68 x1_1 0).f0)) ∧ (Kd.V (Kd.int .i64) 3 w' w.heap.size (fun k_ => ((P0_ k_ ∨ P1_ k_) ∨ w.heap.size ≤ k_) ∧ some k_ ≠ (u9 : Value).ownBlock ∧ k_ ≠ s_.2) (.slice A189_0 ((rd_T68 x0_1 0).f0).length c189_0) ((rd_T68 x0_1 0).f0)) ∧ (Kd.V (Kd.int .i64) 3 w' w.heap.size (fun k_ => ((P0_ k_ ∨ P1_ k_) ∨ w.heap.size ≤ k_) ∧ some k_ ≠ (u9 : Value).ownBlock ∧ k_ ≠ s_.2) (.slice A190_0 ((rd_T68 x1_1 0).f0).length c190_0) ((rd_T68 x1_1 0).f0)) ∧ (Kd.V (Kd.int .i64) 3 w' w.heap.size (fun k_ => ((P0_ k_ ∨ P1_ k_) ∨ w.heap.size ≤ k_) ∧ some k_ ≠ (u9 : Value).ownBlock ∧ k_ ≠ s_.2) s_.1 t191) ∧ (Kd.V k68 68 w' w.heap.size (fun k_ => ((P0_ k_ ∨ P1_ k_) ∨ w.heap.size ≤ k_) ∧ some k_ ≠ (u9 : Value).ownBlock ∧ k_ ≠ s_.2) (.slice (some ad168) x0_1.length co35) x0_1) ∧ (Kd.V k68 68 w' w.heap.size (fun k_ => ((P0_ k_ ∨ P1_ k_) ∨ w.heap.size ≤ k_) ∧ some k_ ≠ (u9 : Value).ownBlock ∧ k_ ≠ s_.2) (.slice (some ad169) x1_1.length co36) x1_1) ∧ (Kd.N k68 68 w' w.heap.size (fun k_ => ((P0_ k_ ∨ P1_ k_) ∨ w.heap.size ≤ k_) ∧ k_ ≠ s_.2) u9 x9_1) ∧ (w'.heap[s_.2]? = some (.cells #[.slice none 0 0, .int .i64 0] 68 (0, 0))) ∧ (w.heap.size ≤ s_.2) ∧ (w.heap.size ≤ s_.2) ∧ (Below w.heap.size w w')) ?_ ?_
             rotate_left
             ·intro hCont
              refine two_ (i := 7) (j := 11) (Ni := some 37) (Nj := some 11) #[true, true, true, true, true, true, true, true, false, false, false, false, false, false] #[true, true, true, true, true, true, true, false, false, false, false, true, false, false] rfl rfl rfl rfl (two_of HT_.out (by kernel_rfl)) (by decide) (by decide) (fun K hK => ?_) (fun K hK => ?_)
              ·skip
               refine goes_f (.tmp 30) Try.func108 (by kernel_rfl) rfl #[.agg #[.slice A189_0 ((rd_T68 x0_1 0).f0).length c189_0, .int .i64 ((rd_T68 x0_1 0).f1)], .agg #[.slice A190_0 ((rd_T68 x1_1 0).f0).length c190_0, .int .i64 ((rd_T68 x1_1 0).f1)]] (by rfl) rfl rfl rfl zar ?_
               with_reducible refine (impl_together_1.calls (fun k_ => (((P0_ k_ ∨ P1_ k_) ∨ w.heap.size ≤ k_) ∧ some k_ ≠ (u9 : Value).ownBlock)) _ _ ((rd_T68 x0_1 0).f0) ((rd_T68 x0_1 0).f1) _ _ ((rd_T68 x1_1 0).f0) ((rd_T68 x1_1 0).f1) t191 t194 true _ ?side1 ?side2 ?side3 A30.out).mono ?_
               (case side1 => exact HL189_0.out)
               (case side2 => repeat (first | exact (by repeat (first | (with_reducible exact HR190_0.out) | (with_reducible refine Kd.C_alloc ?_ _) | (with_reducible refine Kd.C_drewN ?_ _) | (with_reducible refine Kd.C_drew ?_) | exact HR190_0.out)) | (with_reducible refine Kd.C_alloc ?_ _) | (with_reducible refine Kd.C_drewN ?_ _) | (with_reducible refine Kd.C_drew ?_)))
               (case side3 => exact HC190_0.out)
               rintro e w40 ⟨v192, rfl, ho0, hb⟩
               have HS0_ := (hb.cell (World.block_lt_of_cell? _ _ (hHeld.1))).trans (hHeld.1)
               have HS1_ := (hb.cell (World.block_lt_of_cell? _ _ (hHeld.2.1))).trans (hHeld.2.1)
               have HS2_ := (hb.cell (World.block_lt_of_cell? _ _ (hHeld.2.2.1))).trans (hHeld.2.2.1)
               have HS3_ := (hb.cell (World.block_lt_of_cell? _ _ (hHeld.2.2.2))).trans (hHeld.2.2.2)
               refine ⟨_, rfl, ?_⟩
               have n0_ := Aside0.mk (Kd.V_below (by (with_reducible repeat (first | apply Kd.V_alloc | apply Kd.V_drewN | apply Kd.V_drew)); exact HO_0.out) hb)
               have n1_ := Aside0.mk (Kd.V_below (by (with_reducible repeat (first | apply Kd.V_alloc | apply Kd.V_drewN | apply Kd.V_drew)); exact HO_1.out) hb)
               have n2_ := Aside0.mk (Kd.N_below (by (with_reducible repeat (first | apply Kd.N_alloc | apply Kd.N_drewN | apply Kd.N_drew)); exact HO_9.out) hb)
               have n3_ := Aside0.mk (Kd.V_below (by (with_reducible repeat (first | apply Kd.V_alloc | apply Kd.V_drewN | apply Kd.V_drew)); exact HL168_0.out) hb)
               have n4_ := Aside0.mk (Kd.V_below (by (with_reducible repeat (first | apply Kd.V_alloc | apply Kd.V_drewN | apply Kd.V_drew)); exact HL169_0.out) hb)
               have n5_ := Aside0.mk (Kd.V_below (by (with_reducible repeat (first | apply Kd.V_alloc | apply Kd.V_drewN | apply Kd.V_drew)); exact HL189_0.out) hb)
               have n6_ := Aside0.mk (Kd.V_below (by (with_reducible repeat (first | apply Kd.V_alloc | apply Kd.V_drewN | apply Kd.V_drew)); exact HL190_0.out) hb)
               have n7_ := Aside0.mk (Kd.V_lower (Kd.V_mono (ok' := fun k_ => ((P0_ k_ ∨ P1_ k_) ∨ w.heap.size ≤ k_) ∧ some k_ ≠ (u9 : Value).ownBlock) ho0 (fun k_ hk_ => ⟨Or.elim hk_ (fun hs_ => hs_.1) (fun hn_ => (.inr (Nat.le_trans (below_size zhb) hn_))), Or.elim hk_ (fun hs_ => hs_.2) (fun hn_ => (Kd.fresh' (Kd.N_lt (by (with_reducible repeat (first | apply Kd.N_alloc | apply Kd.N_drewN | apply Kd.N_drew)); exact HO_9.out)) k_ hn_))⟩)) (below_size zhb))
               have n8_ := Aside0.mk (Kd.C_below (by repeat (first | (with_reducible exact HR168_0.out) | (with_reducible refine Kd.C_alloc ?_ _) | (with_reducible refine Kd.C_drewN ?_ _) | (with_reducible refine Kd.C_drew ?_) | exact HR168_0.out)) hb)
               have n9_ := Aside0.mk (Kd.C_below (by repeat (first | (with_reducible exact HR169_0.out) | (with_reducible refine Kd.C_alloc ?_ _) | (with_reducible refine Kd.C_drewN ?_ _) | (with_reducible refine Kd.C_drew ?_) | exact HR169_0.out)) hb)
               have n10_ := Aside0.mk (Kd.C_below (by repeat (first | (with_reducible exact HR189_0.out) | (with_reducible refine Kd.C_alloc ?_ _) | (with_reducible refine Kd.C_drewN ?_ _) | (with_reducible refine Kd.C_drew ?_) | exact HR189_0.out)) hb)
               have n11_ := Aside0.mk (Kd.C_below (by repeat (first | (with_reducible exact HR190_0.out) | (with_reducible refine Kd.C_alloc ?_ _) | (with_reducible refine Kd.C_drewN ?_ _) | (with_reducible refine Kd.C_drew ?_) | exact HR190_0.out)) hb)
               have n12_ := Aside0.mk (below_step zhb hb)
               clear HO_0
               clear HO_1
               clear HO_9
               clear HL168_0
               clear HL169_0
               clear HL189_0
               clear HL190_0
               clear HR168_0
               clear HR169_0
               clear HR189_0
               clear HR190_0
               clear HB
               have HO_0 := n0_
               have HO_1 := n1_
               have HO_9 := n2_
               have HL168_0 := n3_
               have HL169_0 := n4_
               have HL189_0 := n5_
               have HL190_0 := n6_
               have HO193 := n7_
               have HR168_0 := n8_
               have HR169_0 := n9_
               have HR189_0 := n10_
               have HR190_0 := n11_
               have HB := n12_
               clear n0_ n1_ n2_ n3_ n4_ n5_ n6_ n7_ n8_ n9_ n10_ n11_ n12_
               (try clear hb)
               (try clear hb2)
               (try clear hk)
               (try clear hi)
               (try clear ho0)
               refine hK.out _ _ ⟨HS0_, HS1_, HS2_, HS3_⟩ (fun hHeld => ?_)
               clear hK K
               refine norm_ (a' := ?_) ?_ ?_
               rotate_left
               ·show Act.put _ (some 37) _ = _
                simp only [Act.put, zp1, zp2, zp3, i64_w, i32_w]
                rfl
               refine pure_ (i := 8) (N := some 29) (v := ?_) (a' := ?_) #[true, true, true, true, true, true, true, true, true, false, false, false, false, false] rfl rfl (any_of HT_.out (by kernel_rfl)) (fun _ _ _ h => h) (Or.inl ⟨by rfl, ?_⟩) ?_ ?_
               rotate_left
               ·intro w'
                go_simp
                with_reducible rfl
               rotate_left
               ·simp only [Act.put, zp1, zp2, zp3, i64_w, i32_w]
                rfl
               refine pure_ (i := 9) (N := some 38) (v := ?_) (a' := ?_) #[true, true, true, true, true, true, true, true, true, true, false, false, false, false] rfl rfl (any_of HT_.out (by kernel_rfl)) (fun _ _ _ h => h) (Or.inl ⟨by rfl, ?_⟩) ?_ ?_
               rotate_left
               ·intro w'
                go_simp
                with_reducible rfl
               rotate_left
               ·simp only [Act.put, zp1, zp2, zp3, i64_w, i32_w]
                rfl
               refine pure_ (i := 10) (N := some 39) (v := ?_) (a' := ?_) #[true, true, true, true, true, true, true, true, true, true, true, false, false, false] rfl rfl (any_of HT_.out (by kernel_rfl)) (fun _ _ _ h => h) (Or.inl ⟨by rfl, ?_⟩) ?_ ?_
               rotate_left
               ·intro w'
                go_simp
                with_reducible rfl
               rotate_left
               ·simp only [Act.put, zp1, zp2, zp3, i64_w, i32_w]
                rfl
               refine one_ (i := 11) (N := some 11) #[true, true, true, true, true, true, true, true, true, true, true, true, false, false] rfl rfl (one_of HT_.out (by kernel_rfl)) (by decide) (fun K hK => ?_)
               refine box_step ?hg (N := 11) ?hd (cs := #[.slice none 0 0, .int .i64 0]) (t := 68) ?hr ?_; (case hd => rfl); (case hg => rfl); (case hr => first | (go_simp; done) | (go_simp; rfl))
               intro gb196 hg w41 hbox hb
               have HS0_ := (hb.cell (World.block_lt_of_cell? _ _ (hHeld.1))).trans (hHeld.1)
               have HS1_ := (hb.cell (World.block_lt_of_cell? _ _ (hHeld.2.1))).trans (hHeld.2.1)
               have HS2_ := (hb.cell (World.block_lt_of_cell? _ _ (hHeld.2.2.1))).trans (hHeld.2.2.1)
               have HS3_ := (hb.cell (World.block_lt_of_cell? _ _ (hHeld.2.2.2))).trans (hHeld.2.2.2)
               have n0_ := Aside0.mk (Kd.V_below (Kd.V_elderB (by (with_reducible repeat (first | apply Kd.V_alloc | apply Kd.V_drewN | apply Kd.V_drew)); exact HO_0.out) gb196 (Nat.le_of_eq hg.symm)) hb)
               have n1_ := Aside0.mk (Kd.V_below (Kd.V_elderB (by (with_reducible repeat (first | apply Kd.V_alloc | apply Kd.V_drewN | apply Kd.V_drew)); exact HO_1.out) gb196 (Nat.le_of_eq hg.symm)) hb)
               have n2_ := Aside0.mk (Kd.N_below (Kd.N_elderB (by (with_reducible repeat (first | apply Kd.N_alloc | apply Kd.N_drewN | apply Kd.N_drew)); exact HO_9.out) gb196 (Nat.le_of_eq hg.symm)) hb)
               have n3_ := Aside0.mk (Kd.V_below (Kd.V_elderB (by (with_reducible repeat (first | apply Kd.V_alloc | apply Kd.V_drewN | apply Kd.V_drew)); exact HL168_0.out) gb196 (Nat.le_of_eq hg.symm)) hb)
               have n4_ := Aside0.mk (Kd.V_below (Kd.V_elderB (by (with_reducible repeat (first | apply Kd.V_alloc | apply Kd.V_drewN | apply Kd.V_drew)); exact HL169_0.out) gb196 (Nat.le_of_eq hg.symm)) hb)
               have n5_ := Aside0.mk (Kd.V_below (Kd.V_elderB (by (with_reducible repeat (first | apply Kd.V_alloc | apply Kd.V_drewN | apply Kd.V_drew)); exact HL189_0.out) gb196 (Nat.le_of_eq hg.symm)) hb)
               have n6_ := Aside0.mk (Kd.V_below (Kd.V_elderB (by (with_reducible repeat (first | apply Kd.V_alloc | apply Kd.V_drewN | apply Kd.V_drew)); exact HL190_0.out) gb196 (Nat.le_of_eq hg.symm)) hb)
               have n7_ := Aside0.mk (Kd.V_below (Kd.V_elderB (by (with_reducible repeat (first | apply Kd.V_alloc | apply Kd.V_drewN | apply Kd.V_drew)); exact HO193.out) gb196 (Nat.le_of_eq hg.symm)) hb)
               have n8_ := Aside0.mk (Kd.C_below (by repeat (first | (with_reducible exact HR168_0.out) | (with_reducible refine Kd.C_alloc ?_ _) | (with_reducible refine Kd.C_drewN ?_ _) | (with_reducible refine Kd.C_drew ?_) | exact HR168_0.out)) hb)
               have n9_ := Aside0.mk (Kd.C_below (by repeat (first | (with_reducible exact HR169_0.out) | (with_reducible refine Kd.C_alloc ?_ _) | (with_reducible refine Kd.C_drewN ?_ _) | (with_reducible refine Kd.C_drew ?_) | exact HR169_0.out)) hb)
               have n10_ := Aside0.mk (Kd.C_below (by repeat (first | (with_reducible exact HR189_0.out) | (with_reducible refine Kd.C_alloc ?_ _) | (with_reducible refine Kd.C_drewN ?_ _) | (with_reducible refine Kd.C_drew ?_) | exact HR189_0.out)) hb)
               have n11_ := Aside0.mk (Kd.C_below (by repeat (first | (with_reducible exact HR190_0.out) | (with_reducible refine Kd.C_alloc ?_ _) | (with_reducible refine Kd.C_drewN ?_ _) | (with_reducible refine Kd.C_drew ?_) | exact HR190_0.out)) hb)
               have n12_ := Aside0.mk (below_step zhb hb)
               have n13_ := Aside0.mk (hbox)
               have n14_ := Aside0.mk ((by rw [hg]; exact (below_size zhb) : w.heap.size ≤ gb196))
               have n15_ := Aside0.mk ((by rw [hg]; exact (below_size zhb) : w.heap.size ≤ gb196))
               clear HO_0
               clear HO_1
               clear HO_9
               clear HL168_0
               clear HL169_0
               clear HL189_0
               clear HL190_0
               clear HO193
               clear HR168_0
               clear HR169_0
               clear HR189_0
               clear HR190_0
               clear HB
               have HO_0 := n0_
               have HO_1 := n1_
               have HO_9 := n2_
               have HL168_0 := n3_
               have HL169_0 := n4_
               have HL189_0 := n5_
               have HL190_0 := n6_
               have HO193 := n7_
               have HR168_0 := n8_
               have HR169_0 := n9_
               have HR189_0 := n10_
               have HR190_0 := n11_
               have HB := n12_
               have BK196 := n13_
               have GW196 := n14_
               have GE196 := n15_
               clear n0_ n1_ n2_ n3_ n4_ n5_ n6_ n7_ n8_ n9_ n10_ n11_ n12_ n13_ n14_ n15_
               clear hb hbox hg
               refine hK.out _ _ ⟨HS0_, HS1_, HS2_, HS3_⟩ (fun hHeld => ?_)
               clear hK K
               refine norm_ (a' := ?_) ?_ ?_
               rotate_left
               ·show Act.put _ (some 11) _ = _
                simp only [Act.put, zp1, zp2, zp3, i64_w, i32_w]
                rfl
               exact norm_ (by simp only [putAll, Act.put, zp1, zp2, zp3]) (hCont (v192, gb196) _ ⟨hHeld, (by (with_reducible repeat (first | apply Kd.V_alloc | apply Kd.V_drewN | apply Kd.V_drew)); exact Kd.V_mono HL168_0.out (fun _ hk => ⟨hk.1.1, ⟨hk.1.2, hk.2⟩⟩)), (by (with_reducible repeat (first | apply Kd.V_alloc | apply Kd.V_drewN | apply Kd.V_drew)); exact Kd.V_mono HL169_0.out (fun _ hk => ⟨hk.1.1, ⟨hk.1.2, hk.2⟩⟩)), (by (with_reducible repeat (first | apply Kd.V_alloc | apply Kd.V_drewN | apply Kd.V_drew)); exact Kd.V_mono HL189_0.out (fun _ hk => ⟨hk.1.1, ⟨hk.1.2, hk.2⟩⟩)), (by (with_reducible repeat (first | apply Kd.V_alloc | apply Kd.V_drewN | apply Kd.V_drew)); exact Kd.V_mono HL190_0.out (fun _ hk => ⟨hk.1.1, ⟨hk.1.2, hk.2⟩⟩)), (by (with_reducible repeat (first | apply Kd.V_alloc | apply Kd.V_drewN | apply Kd.V_drew)); exact Kd.V_mono HO193.out (fun _ hk => ⟨hk.1.1, ⟨hk.1.2, hk.2⟩⟩)), (by (with_reducible repeat (first | apply Kd.V_alloc | apply Kd.V_drewN | apply Kd.V_drew)); exact Kd.V_mono HO_0.out (fun _ hk => ⟨hk.1.1, ⟨hk.1.2, hk.2⟩⟩)), (by (with_reducible repeat (first | apply Kd.V_alloc | apply Kd.V_drewN | apply Kd.V_drew)); exact Kd.V_mono HO_1.out (fun _ hk => ⟨hk.1.1, ⟨hk.1.2, hk.2⟩⟩)), (by (with_reducible repeat (first | apply Kd.N_alloc | apply Kd.N_drewN | apply Kd.N_drew)); exact HO_9.out), (by (with_reducible repeat (first | refine blk_drewN ?_ _ | refine blk_drew ?_ | refine blk_alloc ?_ _)); exact BK196.out), GW196.out, GE196.out, (by repeat (first | (with_reducible first | exact HB.out | apply below_alloc | apply pw_below_drewN | apply below_drew1 | refine below_set ?_ GE196.out) | exact HB.out))⟩)
              ·skip
               refine box_step ?hg (N := 11) ?hd (cs := #[.slice none 0 0, .int .i64 0]) (t := 68) ?hr ?_; (case hd => rfl); (case hg => rfl); (case hr => first | (go_simp; done) | (go_simp; rfl))
               intro gb196 hg w40 hbox hb
               have HS0_ := (hb.cell (World.block_lt_of_cell? _ _ (hHeld.1))).trans (hHeld.1)
               have HS1_ := (hb.cell (World.block_lt_of_cell? _ _ (hHeld.2.1))).trans (hHeld.2.1)
               have HS2_ := (hb.cell (World.block_lt_of_cell? _ _ (hHeld.2.2.1))).trans (hHeld.2.2.1)
               have HS3_ := (hb.cell (World.block_lt_of_cell? _ _ (hHeld.2.2.2))).trans (hHeld.2.2.2)
               have n0_ := Aside0.mk (Kd.V_below (Kd.V_elderB (by (with_reducible repeat (first | apply Kd.V_alloc | apply Kd.V_drewN | apply Kd.V_drew)); exact HO_0.out) gb196 (Nat.le_of_eq hg.symm)) hb)
               have n1_ := Aside0.mk (Kd.V_below (Kd.V_elderB (by (with_reducible repeat (first | apply Kd.V_alloc | apply Kd.V_drewN | apply Kd.V_drew)); exact HO_1.out) gb196 (Nat.le_of_eq hg.symm)) hb)
               have n2_ := Aside0.mk (Kd.N_below (Kd.N_elderB (by (with_reducible repeat (first | apply Kd.N_alloc | apply Kd.N_drewN | apply Kd.N_drew)); exact HO_9.out) gb196 (Nat.le_of_eq hg.symm)) hb)
               have n3_ := Aside0.mk (Kd.V_below (Kd.V_elderB (by (with_reducible repeat (first | apply Kd.V_alloc | apply Kd.V_drewN | apply Kd.V_drew)); exact HL168_0.out) gb196 (Nat.le_of_eq hg.symm)) hb)
               have n4_ := Aside0.mk (Kd.V_below (Kd.V_elderB (by (with_reducible repeat (first | apply Kd.V_alloc | apply Kd.V_drewN | apply Kd.V_drew)); exact HL169_0.out) gb196 (Nat.le_of_eq hg.symm)) hb)
               have n5_ := Aside0.mk (Kd.V_below (Kd.V_elderB (by (with_reducible repeat (first | apply Kd.V_alloc | apply Kd.V_drewN | apply Kd.V_drew)); exact HL189_0.out) gb196 (Nat.le_of_eq hg.symm)) hb)
               have n6_ := Aside0.mk (Kd.V_below (Kd.V_elderB (by (with_reducible repeat (first | apply Kd.V_alloc | apply Kd.V_drewN | apply Kd.V_drew)); exact HL190_0.out) gb196 (Nat.le_of_eq hg.symm)) hb)
               have n7_ := Aside0.mk (Kd.C_below (by repeat (first | (with_reducible exact HR168_0.out) | (with_reducible refine Kd.C_alloc ?_ _) | (with_reducible refine Kd.C_drewN ?_ _) | (with_reducible refine Kd.C_drew ?_) | exact HR168_0.out)) hb)
               have n8_ := Aside0.mk (Kd.C_below (by repeat (first | (with_reducible exact HR169_0.out) | (with_reducible refine Kd.C_alloc ?_ _) | (with_reducible refine Kd.C_drewN ?_ _) | (with_reducible refine Kd.C_drew ?_) | exact HR169_0.out)) hb)
               have n9_ := Aside0.mk (Kd.C_below (by repeat (first | (with_reducible exact HR189_0.out) | (with_reducible refine Kd.C_alloc ?_ _) | (with_reducible refine Kd.C_drewN ?_ _) | (with_reducible refine Kd.C_drew ?_) | exact HR189_0.out)) hb)
               have n10_ := Aside0.mk (Kd.C_below (by repeat (first | (with_reducible exact HR190_0.out) | (with_reducible refine Kd.C_alloc ?_ _) | (with_reducible refine Kd.C_drewN ?_ _) | (with_reducible refine Kd.C_drew ?_) | exact HR190_0.out)) hb)
               have n11_ := Aside0.mk (below_step zhb hb)
               have n12_ := Aside0.mk (hbox)
               have n13_ := Aside0.mk ((by rw [hg]; exact (below_size zhb) : w.heap.size ≤ gb196))
               have n14_ := Aside0.mk ((by rw [hg]; exact (below_size zhb) : w.heap.size ≤ gb196))
               clear HO_0
               clear HO_1
               clear HO_9
               clear HL168_0
               clear HL169_0
               clear HL189_0
               clear HL190_0
               clear HR168_0
               clear HR169_0
               clear HR189_0
               clear HR190_0
               clear HB
               have HO_0 := n0_
               have HO_1 := n1_
               have HO_9 := n2_
               have HL168_0 := n3_
               have HL169_0 := n4_
               have HL189_0 := n5_
               have HL190_0 := n6_
               have HR168_0 := n7_
               have HR169_0 := n8_
               have HR189_0 := n9_
               have HR190_0 := n10_
               have HB := n11_
               have BK196 := n12_
               have GW196 := n13_
               have GE196 := n14_
               clear n0_ n1_ n2_ n3_ n4_ n5_ n6_ n7_ n8_ n9_ n10_ n11_ n12_ n13_ n14_
               clear hb hbox hg
               refine hK.out _ _ ⟨HS0_, HS1_, HS2_, HS3_⟩ (fun hHeld => ?_)
               clear hK K
               refine norm_ (a' := ?_) ?_ ?_
               rotate_left
               ·show Act.put _ (some 11) _ = _
                simp only [Act.put, zp1, zp2, zp3, i64_w, i32_w]
                rfl
               refine one_ (i := 7) (N := some 37) #[true, true, true, true, true, true, true, true, false, false, false, true, false, false] rfl rfl (one_of HT_.out (by kernel_rfl)) (by decide) (fun K hK => ?_)
               refine goes_f (.tmp 30) Try.func108 (by kernel_rfl) rfl #[.agg #[.slice A189_0 ((rd_T68 x0_1 0).f0).length c189_0, .int .i64 ((rd_T68 x0_1 0).f1)], .agg #[.slice A190_0 ((rd_T68 x1_1 0).f0).length c190_0, .int .i64 ((rd_T68 x1_1 0).f1)]] (by rfl) rfl rfl rfl zar ?_
               with_reducible refine (impl_together_1.calls (fun k_ => ((((P0_ k_ ∨ P1_ k_) ∨ w.heap.size ≤ k_) ∧ some k_ ≠ (u9 : Value).ownBlock) ∧ k_ ≠ gb196)) _ _ ((rd_T68 x0_1 0).f0) ((rd_T68 x0_1 0).f1) _ _ ((rd_T68 x1_1 0).f0) ((rd_T68 x1_1 0).f1) t191 t194 true _ ?side1 ?side2 ?side3 A30.out).mono ?_
               (case side1 => exact HL189_0.out)
               (case side2 => repeat (first | exact (by repeat (first | (with_reducible exact HR190_0.out) | (with_reducible refine Kd.C_alloc ?_ _) | (with_reducible refine Kd.C_drewN ?_ _) | (with_reducible refine Kd.C_drew ?_) | exact HR190_0.out)) | (with_reducible refine Kd.C_alloc ?_ _) | (with_reducible refine Kd.C_drewN ?_ _) | (with_reducible refine Kd.C_drew ?_)))
               (case side3 => exact HC190_0.out)
               rintro e w41 ⟨v192, rfl, ho0, hb⟩
               have HS0_ := (hb.cell (World.block_lt_of_cell? _ _ (hHeld.1))).trans (hHeld.1)
               have HS1_ := (hb.cell (World.block_lt_of_cell? _ _ (hHeld.2.1))).trans (hHeld.2.1)
               have HS2_ := (hb.cell (World.block_lt_of_cell? _ _ (hHeld.2.2.1))).trans (hHeld.2.2.1)
               have HS3_ := (hb.cell (World.block_lt_of_cell? _ _ (hHeld.2.2.2))).trans (hHeld.2.2.2)
               refine ⟨_, rfl, ?_⟩
               have n0_ := Aside0.mk (Kd.V_below (by (with_reducible repeat (first | apply Kd.V_alloc | apply Kd.V_drewN | apply Kd.V_drew)); exact HO_0.out) hb)
               have n1_ := Aside0.mk (Kd.V_below (by (with_reducible repeat (first | apply Kd.V_alloc | apply Kd.V_drewN | apply Kd.V_drew)); exact HO_1.out) hb)
               have n2_ := Aside0.mk (Kd.N_below (by (with_reducible repeat (first | apply Kd.N_alloc | apply Kd.N_drewN | apply Kd.N_drew)); exact HO_9.out) hb)
               have n3_ := Aside0.mk (Kd.V_below (by (with_reducible repeat (first | apply Kd.V_alloc | apply Kd.V_drewN | apply Kd.V_drew)); exact HL168_0.out) hb)
               have n4_ := Aside0.mk (Kd.V_below (by (with_reducible repeat (first | apply Kd.V_alloc | apply Kd.V_drewN | apply Kd.V_drew)); exact HL169_0.out) hb)
               have n5_ := Aside0.mk (Kd.V_below (by (with_reducible repeat (first | apply Kd.V_alloc | apply Kd.V_drewN | apply Kd.V_drew)); exact HL189_0.out) hb)
               have n6_ := Aside0.mk (Kd.V_below (by (with_reducible repeat (first | apply Kd.V_alloc | apply Kd.V_drewN | apply Kd.V_drew)); exact HL190_0.out) hb)
               have n7_ := Aside0.mk (Kd.V_lower (Kd.V_mono (ok' := fun k_ => ((P0_ k_ ∨ P1_ k_) ∨ w.heap.size ≤ k_) ∧ some k_ ≠ (u9 : Value).ownBlock ∧ k_ ≠ gb196) ho0 (fun k_ hk_ => ⟨Or.elim hk_ (fun hs_ => hs_.1.1) (fun hn_ => (.inr (Nat.le_trans (below_size (by repeat (first | (with_reducible first | exact HB.out | apply below_alloc | apply pw_below_drewN | apply below_drew1 | refine below_set ?_ GE196.out) | exact HB.out))) hn_))), Or.elim hk_ (fun hs_ => hs_.1.2) (fun hn_ => (Kd.fresh' (Kd.N_lt (by (with_reducible repeat (first | apply Kd.N_alloc | apply Kd.N_drewN | apply Kd.N_drew)); exact HO_9.out)) k_ hn_)), Or.elim hk_ (fun hs_ => hs_.2) (fun hn_ => (Kd.freshB (g := gb196) (o := .cells #[.slice none 0 0, .int .i64 0] 68 (0, 0)) (by (with_reducible repeat (first | refine blk_drewN ?_ _ | refine blk_drew ?_ | refine blk_alloc ?_ _)); exact BK196.out) k_ hn_))⟩)) (below_size (by repeat (first | (with_reducible first | exact HB.out | apply below_alloc | apply pw_below_drewN | apply below_drew1 | refine below_set ?_ GE196.out) | exact HB.out))))
               have n8_ := Aside0.mk (Kd.C_below (by repeat (first | (with_reducible exact HR168_0.out) | (with_reducible refine Kd.C_alloc ?_ _) | (with_reducible refine Kd.C_drewN ?_ _) | (with_reducible refine Kd.C_drew ?_) | exact HR168_0.out)) hb)
               have n9_ := Aside0.mk (Kd.C_below (by repeat (first | (with_reducible exact HR169_0.out) | (with_reducible refine Kd.C_alloc ?_ _) | (with_reducible refine Kd.C_drewN ?_ _) | (with_reducible refine Kd.C_drew ?_) | exact HR169_0.out)) hb)
               have n10_ := Aside0.mk (Kd.C_below (by repeat (first | (with_reducible exact HR189_0.out) | (with_reducible refine Kd.C_alloc ?_ _) | (with_reducible refine Kd.C_drewN ?_ _) | (with_reducible refine Kd.C_drew ?_) | exact HR189_0.out)) hb)
               have n11_ := Aside0.mk (Kd.C_below (by repeat (first | (with_reducible exact HR190_0.out) | (with_reducible refine Kd.C_alloc ?_ _) | (with_reducible refine Kd.C_drewN ?_ _) | (with_reducible refine Kd.C_drew ?_) | exact HR190_0.out)) hb)
               have n12_ := Aside0.mk (blk_below (g := gb196) (o := .cells #[.slice none 0 0, .int .i64 0] 68 (0, 0)) (by (with_reducible repeat (first | refine blk_drewN ?_ _ | refine blk_drew ?_ | refine blk_alloc ?_ _)); exact BK196.out) hb)
               have n13_ := Aside0.mk (below_step (by repeat (first | (with_reducible first | exact HB.out | apply below_alloc | apply pw_below_drewN | apply below_drew1 | refine below_set ?_ GE196.out) | exact HB.out)) hb)
               clear HO_0
               clear HO_1
               clear HO_9
               clear HL168_0
               clear HL169_0
               clear HL189_0
               clear HL190_0
               clear HR168_0
               clear HR169_0
               clear HR189_0
               clear HR190_0
               clear BK196
               clear HB
               have HO_0 := n0_
               have HO_1 := n1_
               have HO_9 := n2_
               have HL168_0 := n3_
               have HL169_0 := n4_
               have HL189_0 := n5_
               have HL190_0 := n6_
               have HO193 := n7_
               have HR168_0 := n8_
               have HR169_0 := n9_
               have HR189_0 := n10_
               have HR190_0 := n11_
               have BK196 := n12_
               have HB := n13_
               clear n0_ n1_ n2_ n3_ n4_ n5_ n6_ n7_ n8_ n9_ n10_ n11_ n12_ n13_
               (try clear hb)
               (try clear hb2)
               (try clear hk)
               (try clear hi)
               (try clear ho0)
               refine hK.out _ _ ⟨HS0_, HS1_, HS2_, HS3_⟩ (fun hHeld => ?_)
               clear hK K
               refine norm_ (a' := ?_) ?_ ?_
               rotate_left
               ·show Act.put _ (some 37) _ = _
                simp only [Act.put, zp1, zp2, zp3, i64_w, i32_w]
                rfl
               refine pure_ (i := 8) (N := some 29) (v := ?_) (a' := ?_) #[true, true, true, true, true, true, true, true, true, false, false, true, false, false] rfl rfl (any_of HT_.out (by kernel_rfl)) (fun _ _ _ h => h) (Or.inl ⟨by rfl, ?_⟩) ?_ ?_
               rotate_left
               ·intro w'
                go_simp
                with_reducible rfl
               rotate_left
               ·simp only [Act.put, zp1, zp2, zp3, i64_w, i32_w]
                rfl
               refine pure_ (i := 9) (N := some 38) (v := ?_) (a' := ?_) #[true, true, true, true, true, true, true, true, true, true, false, true, false, false] rfl rfl (any_of HT_.out (by kernel_rfl)) (fun _ _ _ h => h) (Or.inl ⟨by rfl, ?_⟩) ?_ ?_
               rotate_left
               ·intro w'
                go_simp
                with_reducible rfl
               rotate_left
               ·simp only [Act.put, zp1, zp2, zp3, i64_w, i32_w]
                rfl
               refine pure_ (i := 10) (N := some 39) (v := ?_) (a' := ?_) #[true, true, true, true, true, true, true, true, true, true, true, true, false, false] rfl rfl (any_of HT_.out (by kernel_rfl)) (fun _ _ _ h => h) (Or.inl ⟨by rfl, ?_⟩) ?_ ?_
               rotate_left
               ·intro w'
                go_simp
                with_reducible rfl
               rotate_left
               ·simp only [Act.put, zp1, zp2, zp3, i64_w, i32_w]
                rfl
               exact norm_ (by simp only [putAll, Act.put, zp1, zp2, zp3]) (hCont (v192, gb196) _ ⟨hHeld, (by (with_reducible repeat (first | apply Kd.V_alloc | apply Kd.V_drewN | apply Kd.V_drew)); exact Kd.V_mono HL168_0.out (fun _ hk => ⟨hk.1.1, ⟨hk.1.2, hk.2⟩⟩)), (by (with_reducible repeat (first | apply Kd.V_alloc | apply Kd.V_drewN | apply Kd.V_drew)); exact Kd.V_mono HL169_0.out (fun _ hk => ⟨hk.1.1, ⟨hk.1.2, hk.2⟩⟩)), (by (with_reducible repeat (first | apply Kd.V_alloc | apply Kd.V_drewN | apply Kd.V_drew)); exact Kd.V_mono HL189_0.out (fun _ hk => ⟨hk.1.1, ⟨hk.1.2, hk.2⟩⟩)), (by (with_reducible repeat (first | apply Kd.V_alloc | apply Kd.V_drewN | apply Kd.V_drew)); exact Kd.V_mono HL190_0.out (fun _ hk => ⟨hk.1.1, ⟨hk.1.2, hk.2⟩⟩)), (by (with_reducible repeat (first | apply Kd.V_alloc | apply Kd.V_drewN | apply Kd.V_drew)); exact HO193.out), (by (with_reducible repeat (first | apply Kd.V_alloc | apply Kd.V_drewN | apply Kd.V_drew)); exact Kd.V_mono HO_0.out (fun _ hk => ⟨hk.1.1, ⟨hk.1.2, hk.2⟩⟩)), (by (with_reducible repeat (first | apply Kd.V_alloc | apply Kd.V_drewN | apply Kd.V_drew)); exact Kd.V_mono HO_1.out (fun _ hk => ⟨hk.1.1, ⟨hk.1.2, hk.2⟩⟩)), (by (with_reducible repeat (first | apply Kd.N_alloc | apply Kd.N_drewN | apply Kd.N_drew)); exact HO_9.out), (by (with_reducible repeat (first | refine blk_drewN ?_ _ | refine blk_drew ?_ | refine blk_alloc ?_ _)); exact BK196.out), GW196.out, GE196.out, (by repeat (first | (with_reducible first | exact HB.out | apply below_alloc | apply pw_below_drewN | apply below_drew1 | refine below_set ?_ GE196.out) | exact HB.out))⟩)
             rintro ⟨v192, gb196⟩ w42 ⟨hS_, h0_, h1_, h2_, h3_, h4_, h5_, h6_, h7_, h8_, h9_, h10_, h11_⟩
             have n0_ : Aside0 (Kd.V (Kd.int .i64) 3 w42 w.heap.size (fun k_ => ((P0_ k_ ∨ P1_ k_) ∨ w.heap.size ≤ k_) ∧ some k_ ≠ (u9 : Value).ownBlock ∧ k_ ≠ gb196) (.slice A168_0 ((rd_T68 x0_1 0).f0).length c168_0) ((rd_T68 x0_1 0).f0)) := ⟨h0_⟩
             have n1_ : Aside0 (Kd.V (Kd.int .i64) 3 w42 w.heap.size (fun k_ => ((P0_ k_ ∨ P1_ k_) ∨ w.heap.size ≤ k_) ∧ some k_ ≠ (u9 : Value).ownBlock ∧ k_ ≠ gb196) (.slice A169_0 ((rd_T68 x1_1 0).f0).length c169_0) ((rd_T68 x1_1 0).f0)) := ⟨h1_⟩
             have n2_ : Aside0 (Kd.V (Kd.int .i64) 3 w42 w.heap.size (fun k_ => ((P0_ k_ ∨ P1_ k_) ∨ w.heap.size ≤ k_) ∧ some k_ ≠ (u9 : Value).ownBlock ∧ k_ ≠ gb196) (.slice A189_0 ((rd_T68 x0_1 0).f0).length c189_0) ((rd_T68 x0_1 0).f0)) := ⟨h2_⟩
             have n3_ : Aside0 (Kd.V (Kd.int .i64) 3 w42 w.heap.size (fun k_ => ((P0_ k_ ∨ P1_ k_) ∨ w.heap.size ≤ k_) ∧ some k_ ≠ (u9 : Value).ownBlock ∧ k_ ≠ gb196) (.slice A190_0 ((rd_T68 x1_1 0).f0).length c190_0) ((rd_T68 x1_1 0).f0)) := ⟨h3_⟩
             have n4_ : Aside0 (Kd.V (Kd.int .i64) 3 w42 w.heap.size (fun k_ => ((P0_ k_ ∨ P1_ k_) ∨ w.heap.size ≤ k_) ∧ some k_ ≠ (u9 : Value).ownBlock ∧ k_ ≠ gb196) v192 t191) := ⟨h4_⟩
             have n5_ : Aside0 (Kd.V k68 68 w42 w.heap.size (fun k_ => ((P0_ k_ ∨ P1_ k_) ∨ w.heap.size ≤ k_) ∧ some k_ ≠ (u9 : Value).ownBlock ∧ k_ ≠ gb196) (.slice (some ad168) x0_1.length co35) x0_1) := ⟨h5_⟩
             have n6_ : Aside0 (Kd.V k68 68 w42 w.heap.size (fun k_ => ((P0_ k_ ∨ P1_ k_) ∨ w.heap.size ≤ k_) ∧ some k_ ≠ (u9 : Value).ownBlock ∧ k_ ≠ gb196) (.slice (some ad169) x1_1.length co36) x1_1) := ⟨h6_⟩
             have n7_ : Aside0 (Kd.N k68 68 w42 w.heap.size (fun k_ => ((P0_ k_ ∨ P1_ k_) ∨ w.heap.size ≤ k_) ∧ k_ ≠ gb196) u9 x9_1) := ⟨h7_⟩
             have n8_ : Aside0 (w42.heap[gb196]? = some (.cells #[.slice none 0 0, .int .i64 0] 68 (0, 0))) := ⟨h8_⟩
             have n9_ : Aside0 (w.heap.size ≤ gb196) := ⟨h9_⟩
             have n10_ : Aside0 (w.heap.size ≤ gb196) := ⟨h10_⟩
             have n11_ : Aside0 (Below w.heap.size w w42) := ⟨h11_⟩
             clear HO_0
             clear HO_1
             clear HO_9
             clear HL168_0
             clear HL169_0
             clear HR168_0
             clear HR169_0
             clear HB
             clear h0_ h1_ h2_ h3_ h4_ h5_ h6_ h7_ h8_ h9_ h10_ h11_
             have HL168_0 := n0_
             have HL169_0 := n1_
             have HL189_0 := n2_
             have HL190_0 := n3_
             have HO193 := n4_
             have HO_0 := n5_
             have HO_1 := n6_
             have HO_9 := n7_
             have BK196 := n8_
             have GW196 := n9_
             have GE196 := n10_
             have HB := n11_
             clear n0_ n1_ n2_ n3_ n4_ n5_ n6_ n7_ n8_ n9_ n10_ n11_
             have hHeld : w42.cell? ad168 = some (.slice A189_0 ((rd_T68 x0_1 0).f0).length c189_0) ∧ w42.cell? ⟨ad168.block, ad168.off + 1, none⟩ = some (.int .i64 ((rd_T68 x0_1 0).f1)) ∧ w42.cell? ad169 = some (.slice A190_0 ((rd_T68 x1_1 0).f0).length c190_0) ∧ w42.cell? ⟨ad169.block, ad169.off + 1, none⟩ = some (.int .i64 ((rd_T68 x1_1 0).f1)) := hS_
             obtain ⟨Ao43, co43, eo43⟩ := Kd.V_slice HO193.out
             (first | subst eo43 | (injection eo43 with f1_ f2_ f3_; have f4_ := f1_.symm; have f5_ := f3_.symm; clear f1_ f2_ f3_; subst f4_; subst f5_))
             refine norm_ (a' := ?_) ?_ ?_
             rotate_left
             ·simp only [putAll, Act.put, zp1, zp2, zp3]
              rfl
             refine one_ (i := 12) (N := none) #[true, true, true, true, true, true, true, true, true, true, true, true, true, false] rfl rfl (one_of HT_.out (by kernel_rfl)) (by decide) (fun K hK => ?_)
             have hs44 : w42.cell? ⟨gb196, 0, none⟩ = some (.slice none 0 0) := (blk_cell BK196.out 0).trans rfl
             have hfs44 := blk_frozen BK196.out 0
             have hs45 : w42.cell? ⟨gb196, 1, none⟩ = some (.int .i64 0) := (blk_cell BK196.out 1).trans rfl
             have hfs45 := blk_frozen BK196.out 1
             refine skip_ (w1 := ?_) (by rfl) rfl ?_ ?_
             rotate_left
             ·go_simp
              rfl
             refine hK.out _ _ ⟨((cell_far (p := ⟨gb196, _, none⟩) (by first | exact Kd.own_blk (Kd.V_away HO_0.out (fun _ hk => hk.2.2)) | (rw [add_block]; exact Kd.own_blk (Kd.V_away HO_0.out (fun _ hk => hk.2.2))) | (show (Addr.add _ _).block ≠ _; rw [add_block]; exact Kd.own_blk (Kd.V_away HO_0.out (fun _ hk => hk.2.2))) | (dsimp only; exact Kd.own_blk (Kd.V_away HO_0.out (fun _ hk => hk.2.2)))) _).trans (((cell_far (p := ⟨gb196, _, none⟩) (by first | exact Kd.own_blk (Kd.V_away HO_0.out (fun _ hk => hk.2.2)) | (rw [add_block]; exact Kd.own_blk (Kd.V_away HO_0.out (fun _ hk => hk.2.2))) | (show (Addr.add _ _).block ≠ _; rw [add_block]; exact Kd.own_blk (Kd.V_away HO_0.out (fun _ hk => hk.2.2))) | (dsimp only; exact Kd.own_blk (Kd.V_away HO_0.out (fun _ hk => hk.2.2)))) _).trans (hHeld.1)))), ((cell_far (p := ⟨gb196, _, none⟩) (by first | exact Kd.own_blk (Kd.V_away HO_0.out (fun _ hk => hk.2.2)) | (rw [add_block]; exact Kd.own_blk (Kd.V_away HO_0.out (fun _ hk => hk.2.2))) | (show (Addr.add _ _).block ≠ _; rw [add_block]; exact Kd.own_blk (Kd.V_away HO_0.out (fun _ hk => hk.2.2))) | (dsimp only; exact Kd.own_blk (Kd.V_away HO_0.out (fun _ hk => hk.2.2)))) _).trans (((cell_far (p := ⟨gb196, _, none⟩) (by first | exact Kd.own_blk (Kd.V_away HO_0.out (fun _ hk => hk.2.2)) | (rw [add_block]; exact Kd.own_blk (Kd.V_away HO_0.out (fun _ hk => hk.2.2))) | (show (Addr.add _ _).block ≠ _; rw [add_block]; exact Kd.own_blk (Kd.V_away HO_0.out (fun _ hk => hk.2.2))) | (dsimp only; exact Kd.own_blk (Kd.V_away HO_0.out (fun _ hk => hk.2.2)))) _).trans (hHeld.2.1)))), ((cell_far (p := ⟨gb196, _, none⟩) (by first | exact Kd.own_blk (Kd.V_away HO_1.out (fun _ hk => hk.2.2)) | (rw [add_block]; exact Kd.own_blk (Kd.V_away HO_1.out (fun _ hk => hk.2.2))) | (show (Addr.add _ _).block ≠ _; rw [add_block]; exact Kd.own_blk (Kd.V_away HO_1.out (fun _ hk => hk.2.2))) | (dsimp only; exact Kd.own_blk (Kd.V_away HO_1.out (fun _ hk => hk.2.2)))) _).trans (((cell_far (p := ⟨gb196, _, none⟩) (by first | exact Kd.own_blk (Kd.V_away HO_1.out (fun _ hk => hk.2.2)) | (rw [add_block]; exact Kd.own_blk (Kd.V_away HO_1.out (fun _ hk => hk.2.2))) | (show (Addr.add _ _).block ≠ _; rw [add_block]; exact Kd.own_blk (Kd.V_away HO_1.out (fun _ hk => hk.2.2))) | (dsimp only; exact Kd.own_blk (Kd.V_away HO_1.out (fun _ hk => hk.2.2)))) _).trans (hHeld.2.2.1)))), ((cell_far (p := ⟨gb196, _, none⟩) (by first | exact Kd.own_blk (Kd.V_away HO_1.out (fun _ hk => hk.2.2)) | (rw [add_block]; exact Kd.own_blk (Kd.V_away HO_1.out (fun _ hk => hk.2.2))) | (show (Addr.add _ _).block ≠ _; rw [add_block]; exact Kd.own_blk (Kd.V_away HO_1.out (fun _ hk => hk.2.2))) | (dsimp only; exact Kd.own_blk (Kd.V_away HO_1.out (fun _ hk => hk.2.2)))) _).trans (((cell_far (p := ⟨gb196, _, none⟩) (by first | exact Kd.own_blk (Kd.V_away HO_1.out (fun _ hk => hk.2.2)) | (rw [add_block]; exact Kd.own_blk (Kd.V_away HO_1.out (fun _ hk => hk.2.2))) | (show (Addr.add _ _).block ≠ _; rw [add_block]; exact Kd.own_blk (Kd.V_away HO_1.out (fun _ hk => hk.2.2))) | (dsimp only; exact Kd.own_blk (Kd.V_away HO_1.out (fun _ hk => hk.2.2)))) _).trans (hHeld.2.2.2))))⟩ (fun hHeld => ?_)
             clear hK K
             refine pure_ (i := 13) (N := some 12) (v := ?_) (a' := ?_) #[true, true, true, true, true, true, true, true, true, true, true, true, true, true] rfl rfl (any_of HT_.out (by kernel_rfl)) (fun _ _ _ h => h) (Or.inl ⟨by rfl, ?_⟩) ?_ ?_
             rotate_left
             ·intro w'
              go_simp
              with_reducible rfl
             rotate_left
             ·simp only [Act.put, zp1, zp2, zp3, i64_w, i32_w]
              rfl
             refine done_ (done_of HT_.out (by kernel_rfl)) ?_
             have n0_ : Aside0 (Kd.V k68 68 ((w42.setCell ⟨gb196, 0, none⟩ (.slice Ao43 t191.length co43)).setCell ⟨gb196, 1, none⟩ (.int .i64 t194)) w.heap.size (fun k_ => ((P0_ k_ ∨ P1_ k_) ∨ w.heap.size ≤ k_) ∧ some k_ ≠ (u9 : Value).ownBlock ∧ k_ ≠ gb196) (.slice (some ad168) x0_1.length co35) x0_1) := ⟨by (with_reducible repeat (first | apply Kd.V_alloc | apply Kd.V_drewN | apply Kd.V_drew)); exact Kd.V_mono (Kd.V_far (p := ⟨gb196, 1, none⟩) (Kd.V_far (p := ⟨gb196, 0, none⟩) (Kd.V_mono HO_0.out (fun k_ hk => (⟨hk, hk.2.2⟩ : _ ∧ k_ ≠ gb196))) (fun _ hk => hk.2) (.slice Ao43 t191.length co43)) (fun _ hk => hk.2) (.int .i64 t194)) (fun _ hk => ⟨hk.1.1, ⟨hk.1.2.1, hk.1.2.2⟩⟩)⟩
             have n1_ : Aside0 (Kd.V k68 68 ((w42.setCell ⟨gb196, 0, none⟩ (.slice Ao43 t191.length co43)).setCell ⟨gb196, 1, none⟩ (.int .i64 t194)) w.heap.size (fun k_ => ((P0_ k_ ∨ P1_ k_) ∨ w.heap.size ≤ k_) ∧ some k_ ≠ (u9 : Value).ownBlock ∧ k_ ≠ gb196) (.slice (some ad169) x1_1.length co36) x1_1) := ⟨by (with_reducible repeat (first | apply Kd.V_alloc | apply Kd.V_drewN | apply Kd.V_drew)); exact Kd.V_mono (Kd.V_far (p := ⟨gb196, 1, none⟩) (Kd.V_far (p := ⟨gb196, 0, none⟩) (Kd.V_mono HO_1.out (fun k_ hk => (⟨hk, hk.2.2⟩ : _ ∧ k_ ≠ gb196))) (fun _ hk => hk.2) (.slice Ao43 t191.length co43)) (fun _ hk => hk.2) (.int .i64 t194)) (fun _ hk => ⟨hk.1.1, ⟨hk.1.2.1, hk.1.2.2⟩⟩)⟩
             have n2_ : Aside0 (Kd.N k68 68 ((w42.setCell ⟨gb196, 0, none⟩ (.slice Ao43 t191.length co43)).setCell ⟨gb196, 1, none⟩ (.int .i64 t194)) w.heap.size (fun k_ => ((P0_ k_ ∨ P1_ k_) ∨ w.heap.size ≤ k_) ∧ k_ ≠ gb196) u9 x9_1) := ⟨by (with_reducible repeat (first | apply Kd.N_alloc | apply Kd.N_drewN | apply Kd.N_drew)); exact Kd.N_mono (Kd.N_far (p := ⟨gb196, 1, none⟩) (Kd.N_far (p := ⟨gb196, 0, none⟩) (Kd.N_mono HO_9.out (fun k_ hk => (⟨hk, hk.2⟩ : _ ∧ k_ ≠ gb196))) (fun _ hk => hk.2) (.slice Ao43 t191.length co43)) (fun _ hk => hk.2) (.int .i64 t194)) (fun _ hk => ⟨hk.1.1, hk.1.2⟩)⟩
             have n3_ : Aside0 (Kd.V (Kd.int .i64) 3 ((w42.setCell ⟨gb196, 0, none⟩ (.slice Ao43 t191.length co43)).setCell ⟨gb196, 1, none⟩ (.int .i64 t194)) w.heap.size (fun k_ => ((P0_ k_ ∨ P1_ k_) ∨ w.heap.size ≤ k_) ∧ some k_ ≠ (u9 : Value).ownBlock ∧ k_ ≠ gb196) (.slice A168_0 ((rd_T68 x0_1 0).f0).length c168_0) ((rd_T68 x0_1 0).f0)) := ⟨by (with_reducible repeat (first | apply Kd.V_alloc | apply Kd.V_drewN | apply Kd.V_drew)); exact Kd.V_mono (Kd.V_far (p := ⟨gb196, 1, none⟩) (Kd.V_far (p := ⟨gb196, 0, none⟩) (Kd.V_mono HL168_0.out (fun k_ hk => (⟨hk, hk.2.2⟩ : _ ∧ k_ ≠ gb196))) (fun _ hk => hk.2) (.slice Ao43 t191.length co43)) (fun _ hk => hk.2) (.int .i64 t194)) (fun _ hk => ⟨hk.1.1, ⟨hk.1.2.1, hk.1.2.2⟩⟩)⟩
             have n4_ : Aside0 (Kd.V (Kd.int .i64) 3 ((w42.setCell ⟨gb196, 0, none⟩ (.slice Ao43 t191.length co43)).setCell ⟨gb196, 1, none⟩ (.int .i64 t194)) w.heap.size (fun k_ => ((P0_ k_ ∨ P1_ k_) ∨ w.heap.size ≤ k_) ∧ some k_ ≠ (u9 : Value).ownBlock ∧ k_ ≠ gb196) (.slice A169_0 ((rd_T68 x1_1 0).f0).length c169_0) ((rd_T68 x1_1 0).f0)) := ⟨by (with_reducible repeat (first | apply Kd.V_alloc | apply Kd.V_drewN | apply Kd.V_drew)); exact Kd.V_mono (Kd.V_far (p := ⟨gb196, 1, none⟩) (Kd.V_far (p := ⟨gb196, 0, none⟩) (Kd.V_mono HL169_0.out (fun k_ hk => (⟨hk, hk.2.2⟩ : _ ∧ k_ ≠ gb196))) (fun _ hk => hk.2) (.slice Ao43 t191.length co43)) (fun _ hk => hk.2) (.int .i64 t194)) (fun _ hk => ⟨hk.1.1, ⟨hk.1.2.1, hk.1.2.2⟩⟩)⟩
             have n5_ : Aside0 (Kd.V (Kd.int .i64) 3 ((w42.setCell ⟨gb196, 0, none⟩ (.slice Ao43 t191.length co43)).setCell ⟨gb196, 1, none⟩ (.int .i64 t194)) w.heap.size (fun k_ => ((P0_ k_ ∨ P1_ k_) ∨ w.heap.size ≤ k_) ∧ some k_ ≠ (u9 : Value).ownBlock ∧ k_ ≠ gb196) (.slice A189_0 ((rd_T68 x0_1 0).f0).length c189_0) ((rd_T68 x0_1 0).f0)) := ⟨by (with_reducible repeat (first | apply Kd.V_alloc | apply Kd.V_drewN | apply Kd.V_drew)); exact Kd.V_mono (Kd.V_far (p := ⟨gb196, 1, none⟩) (Kd.V_far (p := ⟨gb196, 0, none⟩) (Kd.V_mono HL189_0.out (fun k_ hk => (⟨hk, hk.2.2⟩ : _ ∧ k_ ≠ gb196))) (fun _ hk => hk.2) (.slice Ao43 t191.length co43)) (fun _ hk => hk.2) (.int .i64 t194)) (fun _ hk => ⟨hk.1.1, ⟨hk.1.2.1, hk.1.2.2⟩⟩)⟩
             have n6_ : Aside0 (Kd.V (Kd.int .i64) 3 ((w42.setCell ⟨gb196, 0, none⟩ (.slice Ao43 t191.length co43)).setCell ⟨gb196, 1, none⟩ (.int .i64 t194)) w.heap.size (fun k_ => ((P0_ k_ ∨ P1_ k_) ∨ w.heap.size ≤ k_) ∧ some k_ ≠ (u9 : Value).ownBlock ∧ k_ ≠ gb196) (.slice A190_0 ((rd_T68 x1_1 0).f0).length c190_0) ((rd_T68 x1_1 0).f0)) := ⟨by (with_reducible repeat (first | apply Kd.V_alloc | apply Kd.V_drewN | apply Kd.V_drew)); exact Kd.V_mono (Kd.V_far (p := ⟨gb196, 1, none⟩) (Kd.V_far (p := ⟨gb196, 0, none⟩) (Kd.V_mono HL190_0.out (fun k_ hk => (⟨hk, hk.2.2⟩ : _ ∧ k_ ≠ gb196))) (fun _ hk => hk.2) (.slice Ao43 t191.length co43)) (fun _ hk => hk.2) (.int .i64 t194)) (fun _ hk => ⟨hk.1.1, ⟨hk.1.2.1, hk.1.2.2⟩⟩)⟩
             have n7_ : Aside0 (Kd.V (Kd.int .i64) 3 ((w42.setCell ⟨gb196, 0, none⟩ (.slice Ao43 t191.length co43)).setCell ⟨gb196, 1, none⟩ (.int .i64 t194)) w.heap.size (fun k_ => ((P0_ k_ ∨ P1_ k_) ∨ w.heap.size ≤ k_) ∧ some k_ ≠ (u9 : Value).ownBlock ∧ k_ ≠ gb196) (.slice Ao43 t191.length co43) t191) := ⟨by (with_reducible repeat (first | apply Kd.V_alloc | apply Kd.V_drewN | apply Kd.V_drew)); exact Kd.V_mono (Kd.V_far (p := ⟨gb196, 1, none⟩) (Kd.V_far (p := ⟨gb196, 0, none⟩) (Kd.V_mono HO193.out (fun k_ hk => (⟨hk, hk.2.2⟩ : _ ∧ k_ ≠ gb196))) (fun _ hk => hk.2) (.slice Ao43 t191.length co43)) (fun _ hk => hk.2) (.int .i64 t194)) (fun _ hk => ⟨hk.1.1, ⟨hk.1.2.1, hk.1.2.2⟩⟩)⟩
             have n8_ : Aside0 (((w42.setCell ⟨gb196, 0, none⟩ (.slice Ao43 t191.length co43)).setCell ⟨gb196, 1, none⟩ (.int .i64 t194)).heap[gb196]? = some (.cells #[.slice Ao43 t191.length co43, .int .i64 t194] 68 (0, 0))) := ⟨by (with_reducible repeat (first | refine blk_drewN ?_ _ | refine blk_drew ?_ | refine blk_alloc ?_ _)); refine blk_put (cs := #[.slice Ao43 t191.length co43, .int .i64 0]) ?_ 1 _ rfl; (with_reducible repeat (first | refine blk_drewN ?_ _ | refine blk_drew ?_ | refine blk_alloc ?_ _)); refine blk_put (cs := #[.slice none 0 0, .int .i64 0]) ?_ 0 _ rfl; (with_reducible repeat (first | refine blk_drewN ?_ _ | refine blk_drew ?_ | refine blk_alloc ?_ _)); exact BK196.out⟩
             have n9_ : Aside0 (Below w.heap.size w ((w42.setCell ⟨gb196, 0, none⟩ (.slice Ao43 t191.length co43)).setCell ⟨gb196, 1, none⟩ (.int .i64 t194))) := ⟨by repeat (first | (with_reducible first | exact HB.out | apply below_alloc | apply pw_below_drewN | apply below_drew1 | refine below_set ?_ GE196.out) | exact HB.out)⟩
             (try clear HO_0)
             (try clear HO_1)
             (try clear HO_9)
             (try clear HL168_0)
             (try clear HL169_0)
             (try clear HL189_0)
             (try clear HL190_0)
             (try clear HO193)
             (try clear BK196)
             (try clear HB)
             generalize ((w42.setCell ⟨gb196, 0, none⟩ (.slice Ao43 t191.length co43)).setCell ⟨gb196, 1, none⟩ (.int .i64 t194)) = w46 at n0_ n1_ n2_ n3_ n4_ n5_ n6_ n7_ n8_ n9_ ⊢
             have HO_0 := n0_
             have HO_1 := n1_
             have HO_9 := n2_
             have HL168_0 := n3_
             have HL169_0 := n4_
             have HL189_0 := n5_
             have HL190_0 := n6_
             have HO193 := n7_
             have BK196 := n8_
             have HB := n9_
             clear n0_ n1_ n2_ n3_ n4_ n5_ n6_ n7_ n8_ n9_
             have hcz47_0 : w46.cell? ⟨gb196, 0, none⟩ = some (.slice Ao43 t191.length co43) := (blk_cell BK196.out 0).trans rfl
             have hcz47_1 : w46.cell? ⟨gb196, 1, none⟩ = some (.int .i64 t194) := (blk_cell BK196.out 1).trans rfl
             have hfz47_0 := blk_frozen BK196.out 0
             have hfz47_1 := blk_frozen BK196.out 1
             try go_wp2_with (first | ((with_reducible refine gate_builtin (b := .append) (xs := #[.tmp 41, .tmp 43]) rfl ?_); (try (refine gate_guard (by rfl) ?_; dsimp only)); at_builtin; refine Kd.N_append k68 (w0 := w) w.heap.size rfl (.tmp 41) (.tmp 43) 33 68 (.agg #[(.slice none 0 0), (.int .i64 0)]) 32 rfl Try.underlying33 info68 rfl (by decide) (by omega) u9 x9_1 (⟨t191, t194⟩ : S68) [.slice Ao43 t191.length co43, .int .i64 t194] (fun k_ => ((P0_ k_ ∨ P1_ k_) ∨ w.heap.size ≤ k_) ∧ k_ ≠ gb196) (fun k_ => ((fun k_ => ((P0_ k_ ∨ P1_ k_) ∨ w.heap.size ≤ k_) ∧ k_ ≠ gb196)) k_ ∧ some k_ ≠ (u9 : Value).ownBlock) rfl rfl ?aP (fun _ hk => hk) ?aF ?aO ?aB ?aS ?aL ?_; (case aP => exact (k68_mkF _ _ (⟨t191, t194⟩ : S68) (Kd.V_reads' (Kd.V_mono (ok' := (fun k_ => ((fun k_ => ((P0_ k_ ∨ P1_ k_) ∨ w.heap.size ≤ k_) ∧ k_ ≠ gb196)) k_ ∧ some k_ ≠ (u9 : Value).ownBlock)) (HO193.out) (fun k_ hk => ⟨⟨hk.1, hk.2.2⟩, hk.2.1⟩))).2.1 (Kd.V_F (Kd.V_mono (ok' := (fun k_ => ((fun k_ => ((P0_ k_ ∨ P1_ k_) ∨ w.heap.size ≤ k_) ∧ k_ ≠ gb196)) k_ ∧ some k_ ≠ (u9 : Value).ownBlock)) (HO193.out) (fun k_ hk => ⟨⟨hk.1, hk.2.2⟩, hk.2.1⟩))))); (case aB => exact (by repeat (first | (with_reducible first | exact HB.out | apply below_alloc | apply pw_below_drewN | apply below_drew1 | refine below_set ?_ GE196.out) | exact HB.out))); (case aF => exact (fun k_ hk => ⟨(.inr (Nat.le_trans (below_size (by repeat (first | (with_reducible first | exact HB.out | apply below_alloc | apply pw_below_drewN | apply below_drew1 | refine below_set ?_ GE196.out) | exact HB.out))) hk)), Kd.freshB (g := gb196) (o := .cells #[.slice Ao43 t191.length co43, .int .i64 t194] 68 (0, 0)) (by (with_reducible repeat (first | refine blk_drewN ?_ _ | refine blk_drew ?_ | refine blk_alloc ?_ _)); exact BK196.out) k_ hk⟩)); (case aO => exact (by (with_reducible repeat (first | apply Kd.N_alloc | apply Kd.N_drewN | apply Kd.N_drew)); exact HO_9.out)); (case aS => exact (below_size (by repeat (first | (with_reducible first | exact HB.out | apply below_alloc | apply pw_below_drewN | apply below_drew1 | refine below_set ?_ GE196.out) | exact HB.out)))); (case aL => have := LMc32.out; omega); intro v198 w48 ho hb hg hat; rw [← Ny197.out] at ho; have n0_ := Aside0.mk (Kd.V_afterv (ok := (fun k_ => ((P0_ k_ ∨ P1_ k_) ∨ w.heap.size ≤ k_) ∧ k_ ≠ gb196)) (by (with_reducible repeat (first | apply Kd.V_alloc | apply Kd.V_drewN | apply Kd.V_drew)); exact Kd.V_mono HO_0.out (fun _ hk => ⟨⟨hk.1, hk.2.2⟩, hk.2.1⟩)) hg hat); have n1_ := Aside0.mk (Kd.V_afterv (ok := (fun k_ => ((P0_ k_ ∨ P1_ k_) ∨ w.heap.size ≤ k_) ∧ k_ ≠ gb196)) (by (with_reducible repeat (first | apply Kd.V_alloc | apply Kd.V_drewN | apply Kd.V_drew)); exact Kd.V_mono HO_1.out (fun _ hk => ⟨⟨hk.1, hk.2.2⟩, hk.2.1⟩)) hg hat); have n2_ := Aside0.mk (Kd.V_afterv (ok := (fun k_ => ((P0_ k_ ∨ P1_ k_) ∨ w.heap.size ≤ k_) ∧ k_ ≠ gb196)) (by (with_reducible repeat (first | apply Kd.V_alloc | apply Kd.V_drewN | apply Kd.V_drew)); exact Kd.V_mono HL168_0.out (fun _ hk => ⟨⟨hk.1, hk.2.2⟩, hk.2.1⟩)) hg hat); have n3_ := Aside0.mk (Kd.V_afterv (ok := (fun k_ => ((P0_ k_ ∨ P1_ k_) ∨ w.heap.size ≤ k_) ∧ k_ ≠ gb196)) (by (with_reducible repeat (first | apply Kd.V_alloc | apply Kd.V_drewN | apply Kd.V_drew)); exact Kd.V_mono HL169_0.out (fun _ hk => ⟨⟨hk.1, hk.2.2⟩, hk.2.1⟩)) hg hat); have n4_ := Aside0.mk (Kd.V_afterv (ok := (fun k_ => ((P0_ k_ ∨ P1_ k_) ∨ w.heap.size ≤ k_) ∧ k_ ≠ gb196)) (by (with_reducible repeat (first | apply Kd.V_alloc | apply Kd.V_drewN | apply Kd.V_drew)); exact Kd.V_mono HL189_0.out (fun _ hk => ⟨⟨hk.1, hk.2.2⟩, hk.2.1⟩)) hg hat); have n5_ := Aside0.mk (Kd.V_afterv (ok := (fun k_ => ((P0_ k_ ∨ P1_ k_) ∨ w.heap.size ≤ k_) ∧ k_ ≠ gb196)) (by (with_reducible repeat (first | apply Kd.V_alloc | apply Kd.V_drewN | apply Kd.V_drew)); exact Kd.V_mono HL190_0.out (fun _ hk => ⟨⟨hk.1, hk.2.2⟩, hk.2.1⟩)) hg hat); have n6_ := Aside0.mk (Kd.V_afterv (ok := (fun k_ => ((P0_ k_ ∨ P1_ k_) ∨ w.heap.size ≤ k_) ∧ k_ ≠ gb196)) (by (with_reducible repeat (first | apply Kd.V_alloc | apply Kd.V_drewN | apply Kd.V_drew)); exact Kd.V_mono HO193.out (fun _ hk => ⟨⟨hk.1, hk.2.2⟩, hk.2.1⟩)) hg hat); have n7_ := Aside0.mk (blk_grown (g := gb196) (o := .cells #[.slice Ao43 t191.length co43, .int .i64 t194] 68 (0, 0)) (by (with_reducible repeat (first | refine blk_drewN ?_ _ | refine blk_drew ?_ | refine blk_alloc ?_ _)); exact BK196.out) hg (Kd.N_away HO_9.out (fun _ hk => hk.2))); have n8_ := Aside0.mk (hb); have n9_ := Aside0.mk (ho); clear HO_0; clear HO_1; clear HL168_0; clear HL169_0; clear HL189_0; clear HL190_0; clear HO193; clear BK196; clear HB; clear HO_9; have HO_0 := n0_; have HO_1 := n1_; have HL168_0 := n2_; have HL169_0 := n3_; have HL189_0 := n4_; have HL190_0 := n5_; have HO193 := n6_; have BK196 := n7_; have HB := n8_; have HO199 := n9_; clear n0_ n1_ n2_ n3_ n4_ n5_ n6_ n7_ n8_ n9_; clear ho hb hg hat))
             have n0_ := Aside0.mk (Kd.V_drew HO_0.out)
             have n1_ := Aside0.mk (Kd.V_drew HO_1.out)
             have n2_ := Aside0.mk (Kd.V_drew HL168_0.out)
             have n3_ := Aside0.mk (Kd.V_drew HL169_0.out)
             have n4_ := Aside0.mk (Kd.V_drew HL189_0.out)
             have n5_ := Aside0.mk (Kd.V_drew HL190_0.out)
             have n6_ := Aside0.mk (Kd.V_drew HO193.out)
             have n7_ := Aside0.mk (Kd.N_drew HO199.out)
             have n8_ := Aside0.mk (blk_drew BK196.out)
             have n9_ := Aside0.mk (below_drew1 HB.out)
             clear HO_0
             clear HO_1
             clear HL168_0
             clear HL169_0
             clear HL189_0
             clear HL190_0
             clear HO193
             clear HO199
             clear BK196
             clear HB
             have HO_0 := n0_
             have HO_1 := n1_
             have HL168_0 := n2_
             have HL169_0 := n3_
             have HL189_0 := n4_
             have HL190_0 := n5_
             have HO193 := n6_
             have HO199 := n7_
             have BK196 := n8_
             have HB := n9_
             clear n0_ n1_ n2_ n3_ n4_ n5_ n6_ n7_ n8_ n9_
             have q50 : (1 : Int) ≤ ((x0_1.length : Int) : Int) := zod
             obtain ⟨i050, hi050, _, hsz50, _⟩ := info_parts info68
             have hroom50 : x0_1.length ≤ co35 := (Kd.V_reads' HO_0.out).2.1
             have hC50 : Kd.F k68 _ _ (some ad168) x0_1.length x0_1 := (Kd.V_at (base := w.heap.size) HO_0.out).2.2
             have hcut50 := cut_from (P := Try.prog) 33 68 .i64 Try.underlying33 hi050 2 hsz50 (some ad168) x0_1.length co35 1 (by omega) q50
             have hr50 := Kd.F_cut (m := (1 : Int).toNat) (c := co35) hC50 (by omega) hroom50
             obtain ⟨A50, hA50⟩ : ∃ A1, A1 = (if co35 = (1 : Int).toNat then (some ad168) else ((some ad168) : Option Addr).map (·.add ((1 : Int).toNat * 2))) := ⟨_, rfl⟩
             obtain ⟨c50, hc50⟩ : ∃ c1, c1 = co35 - (1 : Int).toNat := ⟨_, rfl⟩
             have hy50 : y200.length = x0_1.length - (1 : Int).toNat := (by rw [Ny200.out, List.length_drop] <;> omega)
             rw [show (x0_1).drop (1 : Int).toNat = y200 from Ny200.out.symm] at hr50
             replace hr50 : Kd.F k68 _ _ A50 y200.length y200 := (by rw [hA50]; exact hr50)
             rw [← hy50, ← hA50, ← hc50] at hcut50
             have HO204 := Aside0.mk (show Kd.V k68 68 _ w.heap.size _ (.slice A50 y200.length c50) y200 from Kd.V_mk (by rw [hy50, hc50]; exact Nat.sub_le_sub_right hroom50 _) hr50)
             have HC204 := Aside0.mk (show y200.length ≤ c50 from by rw [hy50, hc50]; exact Nat.sub_le_sub_right hroom50 _)
             clear hr50 hC50 hroom50 hi050 hsz50 hc50
             have KY50 := Aside0.mk hy50
             have KA50 := Aside0.mk hA50
             clear hy50 hA50
             replace q50 := eq_true q50
             have q51 : (1 : Int) ≤ ((x1_1.length : Int) : Int) := zod
             obtain ⟨i051, hi051, _, hsz51, _⟩ := info_parts info68
             have hroom51 : x1_1.length ≤ co36 := (Kd.V_reads' HO_1.out).2.1
             have hC51 : Kd.F k68 _ _ (some ad169) x1_1.length x1_1 := (Kd.V_at (base := w.heap.size) HO_1.out).2.2
             have hcut51 := cut_from (P := Try.prog) 33 68 .i64 Try.underlying33 hi051 2 hsz51 (some ad169) x1_1.length co36 1 (by omega) q51
             have hr51 := Kd.F_cut (m := (1 : Int).toNat) (c := co36) hC51 (by omega) hroom51
             obtain ⟨A51, hA51⟩ : ∃ A1, A1 = (if co36 = (1 : Int).toNat then (some ad169) else ((some ad169) : Option Addr).map (·.add ((1 : Int).toNat * 2))) := ⟨_, rfl⟩
             obtain ⟨c51, hc51⟩ : ∃ c1, c1 = co36 - (1 : Int).toNat := ⟨_, rfl⟩
             have hy51 : y205.length = x1_1.length - (1 : Int).toNat := (by rw [Ny205.out, List.length_drop] <;> omega)
             rw [show (x1_1).drop (1 : Int).toNat = y205 from Ny205.out.symm] at hr51
             replace hr51 : Kd.F k68 _ _ A51 y205.length y205 := (by rw [hA51]; exact hr51)
             rw [← hy51, ← hA51, ← hc51] at hcut51
             have HO209 := Aside0.mk (show Kd.V k68 68 _ w.heap.size _ (.slice A51 y205.length c51) y205 from Kd.V_mk (by rw [hy51, hc51]; exact Nat.sub_le_sub_right hroom51 _) hr51)
             have HC209 := Aside0.mk (show y205.length ≤ c51 from by rw [hy51, hc51]; exact Nat.sub_le_sub_right hroom51 _)
             clear hr51 hC51 hroom51 hi051 hsz51 hc51
             have KY51 := Aside0.mk hy51
             have KA51 := Aside0.mk hA51
             clear hy51 hA51
             replace q51 := eq_true q51
             refine start_ (n := 6) (S := fun w' => True) (ds := []) #[false, false, false, false, false, false] (by kernel_rfl) rfl rfl trivial (fun hHeld => ?_)
             generalize w48.drew = w49 at HO_0 HO_1 HL168_0 HL169_0 HL189_0 HL190_0 HO193 HO199 BK196 HB HO204 HO209 hHeld ⊢
             refine pure_ (i := 0) (N := some 45) (v := ?_) (a' := ?_) #[true, false, false, false, false, false] rfl rfl (by kernel_rfl) (fun _ _ _ h => h) (Or.inl ⟨by rfl, ?_⟩) ?_ ?_
             rotate_left
             ·intro w'
              go_simp
              with_reducible rfl
             rotate_left
             ·simp only [Act.put, zp1, zp2, zp3, i64_w, i32_w]
              rfl
             refine pure_ (i := 1) (N := some 46) (v := ?_) (a' := ?_) #[true, true, false, false, false, false] rfl rfl (by kernel_rfl) (fun _ _ _ h => h) (Or.inl ⟨by rfl, ?_⟩) ?_ ?_
             rotate_left
             ·intro w'
              go_simp
              with_reducible rfl
             rotate_left
             ·simp only [Act.put, zp1, zp2, zp3, i64_w, i32_w]
              rfl
             refine pure_ (i := 2) (N := some 47) (v := ?_) (a' := ?_) #[true, true, true, false, false, false] rfl rfl (by kernel_rfl) (fun _ _ _ h => h) (Or.inl ⟨by rfl, ?_⟩) ?_ ?_
             rotate_left
             ·intro w'
              go_simp
              with_reducible rfl
             rotate_left
             ·simp only [Act.put, zp1, zp2, zp3, i64_w, i32_w]
              rfl
             refine pure_ (i := 3) (N := some 48) (v := ?_) (a' := ?_) #[true, true, true, true, false, false] rfl rfl (by kernel_rfl) (fun _ _ _ h => h) (Or.inl ⟨by rfl, ?_⟩) ?_ ?_
             rotate_left
             ·intro w'
              go_simp
              with_reducible rfl
             rotate_left
             ·simp only [Act.put, zp1, zp2, zp3, i64_w, i32_w]
              rfl
             refine pure_ (i := 4) (N := some 0) (v := ?_) (a' := ?_) #[true, true, true, true, true, false] rfl rfl (by kernel_rfl) (fun _ _ _ h => h) (Or.inl ⟨by rfl, ?_⟩) ?_ ?_
             rotate_left
             ·intro w'
              go_simp
              with_reducible rfl
             rotate_left
             ·simp only [Act.put, zp1, zp2, zp3, i64_w, i32_w]
              rfl
             refine pure_ (i := 5) (N := some 1) (v := ?_) (a' := ?_) #[true, true, true, true, true, true] rfl rfl (by kernel_rfl) (fun _ _ _ h => h) (Or.inl ⟨by rfl, ?_⟩) ?_ ?_
             rotate_left
             ·intro w'
              go_simp
              with_reducible rfl
             rotate_left
             ·simp only [Act.put, zp1, zp2, zp3, i64_w, i32_w]
              rfl
             refine done_ (by kernel_rfl) ?_
             try go_wp2
             go_roundg k1
             case measure => have := HK1.out; omega
             case rel => exact ⟨(y200), (y205), (y197), H', ⟨by have := HK1.out; omega⟩, ⟨by (with_reducible repeat (first | apply Kd.V_alloc | apply Kd.V_drewN | apply Kd.V_drew)); exact Kd.V_mono HO204.out (fun _ hk => ⟨hk.1.1, hk.2⟩)⟩, ⟨by (with_reducible repeat (first | apply Kd.V_alloc | apply Kd.V_drewN | apply Kd.V_drew)); exact Kd.V_mono HO209.out (fun _ hk => ⟨hk.1.1, hk.2⟩)⟩, ⟨by (with_reducible repeat (first | apply Kd.N_alloc | apply Kd.N_drewN | apply Kd.N_drew)); exact Kd.N_mono HO199.out (fun _ hk => hk.1)⟩, ⟨by repeat (first | (with_reducible first | exact HB.out | apply below_alloc | apply pw_below_drewN | apply below_drew1 | refine below_set ?_ GE196.out) | exact HB.out)⟩⟩
            ·rw [if_neg c34] at H
             exact absurd H (by simp)
           ·rw [if_neg c33] at H
            exact absurd H (by simp)
          ·rw [if_neg c32] at H
           exact absurd H (by simp)
         ·replace c31 := Bool.eq_false_iff.mpr c31
          subst c31
          have H1 : (if 1 ≤ (x0_1.length : Int) then (if 1 ≤ (x1_1.length : Int) then (impl_merged_impl_Item__impl_cmpItem_impl_together_1.l0 k1 (x0_1.drop 1) (x1_1.drop 1) x9_1) else (none)) else (none)) = some r := by rw [if_neg (show ¬ (false = true) by decide)] at H; exact H
          clear H
          have H := H1
          clear H1
          by_cases c52 : 1 ≤ (x0_1.length : Int)
          ·rw [if_pos c52] at H
           have c52b0 := eq_true c52
           have c52b1 : decide (1 ≤ (x0_1.length : Int)) = true := decide_eq_true c52
           clear c52
           obtain ⟨y210, hy210⟩ : ∃ y_ : List (S68), y_ = (x0_1.drop 1) := ⟨_, rfl⟩
           replace H : (if 1 ≤ (x1_1.length : Int) then (impl_merged_impl_Item__impl_cmpItem_impl_together_1.l0 k1 y210 (x1_1.drop 1) x9_1) else (none)) = some r := by first | (rw [hy210]; with_reducible exact H) | (have H2_ := (Option.bind_some _ _).symm.trans H; rw [hy210]; with_reducible exact H2_) | (have H2_ := (Option.bind_some _ _).symm.trans H; with_reducible exact H2_) | with_reducible exact H | (rw [hy210]; exact H) | exact H
           have Ny210 := Aside0.mk hy210
           clear hy210
           by_cases c53 : 1 ≤ (x1_1.length : Int)
           ·rw [if_pos c53] at H
            have c53b0 := eq_true c53
            have c53b1 : decide (1 ≤ (x1_1.length : Int)) = true := decide_eq_true c53
            clear c53
            obtain ⟨y215, hy215⟩ : ∃ y_ : List (S68), y_ = (x1_1.drop 1) := ⟨_, rfl⟩
            replace H : (impl_merged_impl_Item__impl_cmpItem_impl_together_1.l0 k1 y210 y215 x9_1) = some r := by first | (rw [hy215]; with_reducible exact H) | (have H2_ := (Option.bind_some _ _).symm.trans H; rw [hy215]; with_reducible exact H2_) | (have H2_ := (Option.bind_some _ _).symm.trans H; with_reducible exact H2_) | with_reducible exact H | (rw [hy215]; exact H) | exact H
            have Ny215 := Aside0.mk hy215
            clear hy215
            have H' := Aside0.mk H
            clear H
            obtain ⟨Ao54, co54, eo54⟩ := Kd.V_slice HO_0.out
            subst eo54
            obtain ⟨Ao55, co55, eo55⟩ := Kd.V_slice HO_1.out
            subst eo55
            try go_wp2
            have n0_ := Aside0.mk (Kd.V_drew HO_0.out)
            have n1_ := Aside0.mk (Kd.V_drew HO_1.out)
            have n2_ := Aside0.mk (Kd.N_drew HO_9.out)
            have n3_ := Aside0.mk (below_drew1 HB.out)
            clear HO_0
            clear HO_1
            clear HO_9
            clear HB
            have HO_0 := n0_
            have HO_1 := n1_
            have HO_9 := n2_
            have HB := n3_
            clear n0_ n1_ n2_ n3_
            have p168 : 0 ≤ (0 : Int) := (by omega)
            have q168 : 0 < (x0_1.length : Int) := zod
            obtain ⟨ad168, A168_0, c168_0, e168, hx168_0, hx168_1, hl168_0, hi168_0⟩ := at_T68 (Kd.V_reads' HO_0.out).2.2 0 p168 q168
            cases e168
            obtain ⟨ce168, hce168, hMe168, hcc168⟩ := Kd.V_get HO_0.out z68 0 p168 (by first | exact q168 | exact zod | (have e_ := (Kd.V_reads' HO_0.out).1; omega))
            obtain ⟨ua168_0, uc168_0, rfl, ul168_0, ge168_0⟩ := k68_openF hMe168
            have hv168_0 := hcc168 0 _ rfl
            rw [Nat.add_zero] at hv168_0
            replace hv168_0 := Option.some.inj (hv168_0.symm.trans hx168_0)
            injection hv168_0 with hva_ hvn_ hvc_
            rw [hva_] at ge168_0
            rw [hvc_] at ul168_0
            have HL168_0 := Aside0.mk (show Kd.V (Kd.int .i64) 3 _ w.heap.size _ _ ((rd_T68 x0_1 0).f0) from Kd.V_mk ul168_0 ge168_0)
            clear hva_ hvn_ hvc_ ge168_0 ul168_0
            clear hcc168 hce168
            have qi168 : (0 < x0_1.length) = True := eq_true (by omega)
            (try rw [show ((0 : Int)).toNat = 0 from rfl] at hx168_0)
            (try rw [show 0 * 2 = 0 from rfl] at hx168_0)
            (try rw [Addr.add_zero'] at hx168_0)
            (try rw [show ((0 : Int)).toNat = 0 from rfl] at hx168_1)
            (try rw [show 0 * 2 = 0 from rfl] at hx168_1)
            (try rw [Addr.add_zero'] at hx168_1)
            have HR168_0 := Aside0.mk hi168_0
            have HC168_0 := Aside0.mk hl168_0
            clear hi168_0 hl168_0
            replace p168 := eq_true p168
            replace q168 := eq_true q168
            have p169 : 0 ≤ (0 : Int) := (by omega)
            have q169 : 0 < (x1_1.length : Int) := zod
            obtain ⟨ad169, A169_0, c169_0, e169, hx169_0, hx169_1, hl169_0, hi169_0⟩ := at_T68 (Kd.V_reads' HO_1.out).2.2 0 p169 q169
            cases e169
            obtain ⟨ce169, hce169, hMe169, hcc169⟩ := Kd.V_get HO_1.out z68 0 p169 (by first | exact q169 | exact zod | (have e_ := (Kd.V_reads' HO_1.out).1; omega))
            obtain ⟨ua169_0, uc169_0, rfl, ul169_0, ge169_0⟩ := k68_openF hMe169
            have hv169_0 := hcc169 0 _ rfl
            rw [Nat.add_zero] at hv169_0
            replace hv169_0 := Option.some.inj (hv169_0.symm.trans hx169_0)
            injection hv169_0 with hva_ hvn_ hvc_
            rw [hva_] at ge169_0
            rw [hvc_] at ul169_0
            have HL169_0 := Aside0.mk (show Kd.V (Kd.int .i64) 3 _ w.heap.size _ _ ((rd_T68 x1_1 0).f0) from Kd.V_mk ul169_0 ge169_0)
            clear hva_ hvn_ hvc_ ge169_0 ul169_0
            clear hcc169 hce169
            have qi169 : (0 < x1_1.length) = True := eq_true (by omega)
            (try rw [show ((0 : Int)).toNat = 0 from rfl] at hx169_0)
            (try rw [show 0 * 2 = 0 from rfl] at hx169_0)
            (try rw [Addr.add_zero'] at hx169_0)
            (try rw [show ((0 : Int)).toNat = 0 from rfl] at hx169_1)
            (try rw [show 0 * 2 = 0 from rfl] at hx169_1)
            (try rw [Addr.add_zero'] at hx169_1)
            have HR169_0 := Aside0.mk hi169_0
            have HC169_0 := Aside0.mk hl169_0
            clear hi169_0 hl169_0
            replace p169 := eq_true p169
            replace q169 := eq_true q169
            refine start_ (n := 9) (S := fun w' => w'.cell? ad168 = some (.slice A168_0 ((rd_T68 x0_1 0).f0).length c168_0) ∧ w'.cell? ⟨ad168.block, ad168.off + 1, none⟩ = some (.int .i64 ((rd_T68 x0_1 0).f1)) ∧ w'.cell? ad169 = some (.slice A169_0 ((rd_T68 x1_1 0).f0).length c169_0) ∧ w'.cell? ⟨ad169.block, ad169.off + 1, none⟩ = some (.int .i64 ((rd_T68 x1_1 0).f1))) (ds := []) #[false, false, false, false, false, false, false, false, false] (by kernel_rfl) rfl rfl ⟨hx168_0, hx168_1, hx169_0, hx169_1⟩ (fun hHeld => ?_); refine with_tabW impl_merged_impl_Item__impl_cmpItem_impl_together_1.tab3 impl_merged_impl_Item__impl_cmpItem_impl_together_1.bits3 (fun HT_ HW_ => ?_)
            generalize wr.drew = w56 at HO_0 HO_1 HO_9 HB HL168_0 HL169_0 HR168_0 HR169_0 hx168_0 hx168_1 hx169_0 hx169_1 hHeld ⊢
            refine pure_ (i := 0) (N := some 21) (v := ?_) (a' := ?_) #[true, false, false, false, false, false, false, false, false] rfl rfl (any_of HT_.out (by kernel_rfl)) (fun _ _ _ h => h) (Or.inl ⟨by rfl, ?_⟩) ?_ ?_
            rotate_left
            ·intro w'
             go_simp
             with_reducible rfl
            rotate_left
            ·simp only [Act.put, zp1, zp2, zp3, i64_w, i32_w]
             rfl
            refine pure_ (i := 1) (N := some 22) (v := ?_) (a' := ?_) #[true, true, false, false, false, false, false, false, false] rfl rfl (any_of HT_.out (by kernel_rfl)) (fun _ _ _ h => h) (Or.inl ⟨by rfl, ?_⟩) ?_ ?_
            rotate_left
            ·intro w'
             go_simp
             with_reducible rfl
            rotate_left
            ·simp only [Act.put, zp1, zp2, zp3, i64_w, i32_w]
             rfl
            refine pure_ (i := 2) (N := some 23) (v := ?_) (a' := ?_) #[true, true, true, false, false, false, false, false, false] rfl rfl (any_of HT_.out (by kernel_rfl)) (fun _ _ _ h => h) (Or.inl ⟨by rfl, ?_⟩) ?_ ?_
            rotate_left
            ·intro w'
             go_simp
             with_reducible rfl
            rotate_left
            ·simp only [Act.put, zp1, zp2, zp3, i64_w, i32_w]
             rfl
            refine pure_ (i := 4) (N := some 25) (v := ?_) (a' := ?_) #[true, true, true, false, true, false, false, false, false] rfl rfl (any_of HT_.out (by kernel_rfl)) (fun _ _ _ h => h) (Or.inl ⟨by rfl, ?_⟩) ?_ ?_
            rotate_left
            ·intro w'
             go_simp
             with_reducible rfl
            rotate_left
            ·simp only [Act.put, zp1, zp2, zp3, i64_w, i32_w]
             rfl
            refine pure_ (i := 5) (N := some 26) (v := ?_) (a' := ?_) #[true, true, true, false, true, true, false, false, false] rfl rfl (any_of HT_.out (by kernel_rfl)) (fun _ _ _ h => h) (Or.inl ⟨by rfl, ?_⟩) ?_ ?_
            rotate_left
            ·intro w'
             go_simp
             with_reducible rfl
            rotate_left
            ·simp only [Act.put, zp1, zp2, zp3, i64_w, i32_w]
             rfl
            refine take_ (i := 3) (N := some 24) (v := ?_) (a' := ?_) #[true, true, true, true, true, true, false, false, false] rfl rfl (take_ofW HT_.out HW_.out (by kernel_rfl)) (fun _ _ _ h => h) (Or.inl ⟨by rfl, ?_⟩) hHeld ?_ ?_
            rotate_left
            ·rintro w' ⟨s0, s1, s2, s3⟩
             go_simp
             with_reducible rfl
            rotate_left
            ·simp only [Act.put, zp1, zp2, zp3, i64_w, i32_w]
             rfl
            refine take_ (i := 6) (N := some 27) (v := ?_) (a' := ?_) #[true, true, true, true, true, true, true, false, false] rfl rfl (take_ofW HT_.out HW_.out (by kernel_rfl)) (fun _ _ _ h => h) (Or.inl ⟨by rfl, ?_⟩) hHeld ?_ ?_
            rotate_left
            ·rintro w' ⟨s0, s1, s2, s3⟩
             go_simp
             with_reducible rfl
            rotate_left
            ·simp only [Act.put, zp1, zp2, zp3, i64_w, i32_w]
             rfl
            refine one_ (i := 7) (N := some 28) #[true, true, true, true, true, true, true, true, false] rfl rfl (one_of HT_.out (by kernel_rfl)) (by decide) (fun K hK => ?_)
            refine goes_f (.tmp 21) Try.func107 (by kernel_rfl) rfl #[.agg #[.slice A168_0 ((rd_T68 x0_1 0).f0).length c168_0, .int .i64 ((rd_T68 x0_1 0).f1)], .agg #[.slice A169_0 ((rd_T68 x1_1 0).f0).length c169_0, .int .i64 ((rd_T68 x1_1 0).f1)]] (by rfl) rfl rfl rfl zar ?_
            with_reducible refine (impl_cmpItem.calls k1 _ _ ((rd_T68 x0_1 0).f0) ((rd_T68 x0_1 0).f1) _ _ ((rd_T68 x1_1 0).f0) ((rd_T68 x1_1 0).f1) t170 _ ?side1 ?side2 ?side3 ?side4 A9.out).mono ?_
            (case side1 => repeat (first | exact (by repeat (first | (with_reducible exact HR168_0.out) | (with_reducible refine Kd.C_alloc ?_ _) | (with_reducible refine Kd.C_drewN ?_ _) | (with_reducible refine Kd.C_drew ?_) | exact HR168_0.out)) | (with_reducible refine Kd.C_alloc ?_ _) | (with_reducible refine Kd.C_drewN ?_ _) | (with_reducible refine Kd.C_drew ?_)))
            (case side2 => exact HC168_0.out)
            (case side3 => repeat (first | exact (by repeat (first | (with_reducible exact HR169_0.out) | (with_reducible refine Kd.C_alloc ?_ _) | (with_reducible refine Kd.C_drewN ?_ _) | (with_reducible refine Kd.C_drew ?_) | exact HR169_0.out)) | (with_reducible refine Kd.C_alloc ?_ _) | (with_reducible refine Kd.C_drewN ?_ _) | (with_reducible refine Kd.C_drew ?_)))
            (case side4 => exact HC169_0.out)
            rintro e w57 ⟨rfl, hb⟩
            have HS0_ := (hb.cell (World.block_lt_of_cell? _ _ (hHeld.1))).trans (hHeld.1)
            have HS1_ := (hb.cell (World.block_lt_of_cell? _ _ (hHeld.2.1))).trans (hHeld.2.1)
            have HS2_ := (hb.cell (World.block_lt_of_cell? _ _ (hHeld.2.2.1))).trans (hHeld.2.2.1)
            have HS3_ := (hb.cell (World.block_lt_of_cell? _ _ (hHeld.2.2.2))).trans (hHeld.2.2.2)
            refine ⟨_, rfl, ?_⟩
            have n0_ := Aside0.mk (Kd.V_below (by (with_reducible repeat (first | apply Kd.V_alloc | apply Kd.V_drewN | apply Kd.V_drew)); exact HO_0.out) hb)
            have n1_ := Aside0.mk (Kd.V_below (by (with_reducible repeat (first | apply Kd.V_alloc | apply Kd.V_drewN | apply Kd.V_drew)); exact HO_1.out) hb)
            have n2_ := Aside0.mk (Kd.N_below (by (with_reducible repeat (first | apply Kd.N_alloc | apply Kd.N_drewN | apply Kd.N_drew)); exact HO_9.out) hb)
            have n3_ := Aside0.mk (Kd.V_below (by (with_reducible repeat (first | apply Kd.V_alloc | apply Kd.V_drewN | apply Kd.V_drew)); exact HL168_0.out) hb)
            have n4_ := Aside0.mk (Kd.V_below (by (with_reducible repeat (first | apply Kd.V_alloc | apply Kd.V_drewN | apply Kd.V_drew)); exact HL169_0.out) hb)
            have n5_ := Aside0.mk (Kd.C_below (by repeat (first | (with_reducible exact HR168_0.out) | (with_reducible refine Kd.C_alloc ?_ _) | (with_reducible refine Kd.C_drewN ?_ _) | (with_reducible refine Kd.C_drew ?_) | exact HR168_0.out)) hb)
            have n6_ := Aside0.mk (Kd.C_below (by repeat (first | (with_reducible exact HR169_0.out) | (with_reducible refine Kd.C_alloc ?_ _) | (with_reducible refine Kd.C_drewN ?_ _) | (with_reducible refine Kd.C_drew ?_) | exact HR169_0.out)) hb)
            have n7_ := Aside0.mk (below_step zhb hb)
            clear HO_0
            clear HO_1
            clear HO_9
            clear HL168_0
            clear HL169_0
            clear HR168_0
            clear HR169_0
            clear HB
            have HO_0 := n0_
            have HO_1 := n1_
            have HO_9 := n2_
            have HL168_0 := n3_
            have HL169_0 := n4_
            have HR168_0 := n5_
            have HR169_0 := n6_
            have HB := n7_
            clear n0_ n1_ n2_ n3_ n4_ n5_ n6_ n7_
            (try clear hb)
            (try clear hb2)
            (try clear hk)
            (try clear hi)
            refine hK.out _ _ ⟨HS0_, HS1_, HS2_, HS3_⟩ (fun hHeld => ?_)
            clear hK K
            refine norm_ (a' := ?_) ?_ ?_
            rotate_left
            ·show Act.put _ (some 28) _ = _
             simp only [Act.put, zp1, zp2, zp3, i64_w, i32_w]
             rfl
            refine pure_ (i := 8) (N := some 10) (v := ?_) (a' := ?_) #[true, true, true, true, true, true, true, true, true] rfl rfl (any_of HT_.out (by kernel_rfl)) (fun _ _ _ h => h) (Or.inl ⟨by rfl, ?_⟩) ?_ ?_
            rotate_left
            ·intro w'
             go_simp
             with_reducible rfl
            rotate_left
            ·simp only [Act.put, zp1, zp2, zp3, i64_w, i32_w]
             rfl
            refine done_ (done_of HT_.out (by kernel_rfl)) ?_
            try go_wp2
            have n0_ := Aside0.mk (Kd.V_drew HO_0.out)
            have n1_ := Aside0.mk (Kd.V_drew HO_1.out)
            have n2_ := Aside0.mk (Kd.N_drew HO_9.out)
            have n3_ := Aside0.mk (Kd.V_drew HL168_0.out)
            have n4_ := Aside0.mk (Kd.V_drew HL169_0.out)
            have n5_ := Aside0.mk (Kd.C_drew HR168_0.out)
            have n6_ := Aside0.mk (Kd.C_drew HR169_0.out)
            have n7_ := Aside0.mk (below_drew1 HB.out)
            clear HO_0
            clear HO_1
            clear HO_9
            clear HL168_0
            clear HL169_0
            clear HR168_0
            clear HR169_0
            clear HB
            have HO_0 := n0_
            have HO_1 := n1_
            have HO_9 := n2_
            have HL168_0 := n3_
            have HL169_0 := n4_
            have HR168_0 := n5_
            have HR169_0 := n6_
            have HB := n7_
            clear n0_ n1_ n2_ n3_ n4_ n5_ n6_ n7_
            have p189 : 0 ≤ (0 : Int) := (by omega)
            have q189 : 0 < (x0_1.length : Int) := zod
            obtain ⟨ad189, A189_0, c189_0, e189, hx189_0, hx189_1, hl189_0, hi189_0⟩ := at_T68 (Kd.V_reads' HO_0.out).2.2 0 p189 q189
            obtain rfl : ad168 = ad189 := (by injection e189)
            obtain ⟨ce189, hce189, hMe189, hcc189⟩ := Kd.V_get HO_0.out z68 0 p189 (by first | exact q189 | exact zod | (have e_ := (Kd.V_reads' HO_0.out).1; omega))
            obtain ⟨ua189_0, uc189_0, rfl, ul189_0, ge189_0⟩ := k68_openF hMe189
            have hv189_0 := hcc189 0 _ rfl
            rw [Nat.add_zero] at hv189_0
            replace hv189_0 := Option.some.inj (hv189_0.symm.trans hx189_0)
            injection hv189_0 with hva_ hvn_ hvc_
            rw [hva_] at ge189_0
            rw [hvc_] at ul189_0
            have HL189_0 := Aside0.mk (show Kd.V (Kd.int .i64) 3 _ w.heap.size _ _ ((rd_T68 x0_1 0).f0) from Kd.V_mk ul189_0 ge189_0)
            clear hva_ hvn_ hvc_ ge189_0 ul189_0
            clear hcc189 hce189
            have qi189 : (0 < x0_1.length) = True := eq_true (by omega)
            (try rw [show ((0 : Int)).toNat = 0 from rfl] at hx189_0)
            (try rw [show 0 * 2 = 0 from rfl] at hx189_0)
            (try rw [Addr.add_zero'] at hx189_0)
            (try rw [show ((0 : Int)).toNat = 0 from rfl] at hx189_1)
            (try rw [show 0 * 2 = 0 from rfl] at hx189_1)
            (try rw [Addr.add_zero'] at hx189_1)
            have HR189_0 := Aside0.mk hi189_0
            have HC189_0 := Aside0.mk hl189_0
            clear hi189_0 hl189_0
            replace p189 := eq_true p189
            replace q189 := eq_true q189
            have p190 : 0 ≤ (0 : Int) := (by omega)
            have q190 : 0 < (x1_1.length : Int) := zod
            obtain ⟨ad190, A190_0, c190_0, e190, hx190_0, hx190_1, hl190_0, hi190_0⟩ := at_T68 (Kd.V_reads' HO_1.out).2.2 0 p190 q190
            obtain rfl : ad169 = ad190 := (by injection e190)
            obtain ⟨ce190, hce190, hMe190, hcc190⟩ := Kd.V_get HO_1.out z68 0 p190 (by first | exact q190 | exact zod | (have e_ := (Kd.V_reads' HO_1.out).1; omega))
            obtain ⟨ua190_0, uc190_0, rfl, ul190_0, ge190_0⟩ := k68_openF hMe190
            have hv190_0 := hcc190 0 _ rfl
            rw [Nat.add_zero] at hv190_0
            replace hv190_0 := Option.some.inj (hv190_0.symm.trans hx190_0)
            injection hv190_0 with hva_ hvn_ hvc_
            rw [hva_] at ge190_0
            rw [hvc_] at ul190_0
            have HL190_0 := Aside0.mk (show Kd.V (Kd.int .i64) 3 _ w.heap.size _ _ ((rd_T68 x1_1 0).f0) from Kd.V_mk ul190_0 ge190_0)
            clear hva_ hvn_ hvc_ ge190_0 ul190_0
            clear hcc190 hce190
            have qi190 : (0 < x1_1.length) = True := eq_true (by omega)
            (try rw [show ((0 : Int)).toNat = 0 from rfl] at hx190_0)
            (try rw [show 0 * 2 = 0 from rfl] at hx190_0)
            (try rw [Addr.add_zero'] at hx190_0)
            (try rw [show ((0 : Int)).toNat = 0 from rfl] at hx190_1)
            (try rw [show 0 * 2 = 0 from rfl] at hx190_1)
            (try rw [Addr.add_zero'] at hx190_1)
            have HR190_0 := Aside0.mk hi190_0
            have HC190_0 := Aside0.mk hl190_0
            clear hi190_0 hl190_0
            replace p190 := eq_true p190
            replace q190 := eq_true q190
            refine start_ (n := 14) (S := fun w' => w'.cell? ad168 = some (.slice A189_0 ((rd_T68 x0_1 0).f0).length c189_0) ∧ w'.cell? ⟨ad168.block, ad168.off + 1, none⟩ = some (.int .i64 ((rd_T68 x0_1 0).f1)) ∧ w'.cell? ad169 = some (.slice A190_0 ((rd_T68 x1_1 0).f0).length c190_0) ∧ w'.cell? ⟨ad169.block, ad169.off + 1, none⟩ = some (.int .i64 ((rd_T68 x1_1 0).f1))) (ds := []) #[false, false, false, false, false, false, false, false, false, false, false, false, false, false] (by kernel_rfl) rfl rfl ⟨hx189_0, hx189_1, hx190_0, hx190_1⟩ (fun hHeld => ?_); refine with_tabW impl_merged_impl_Item__impl_cmpItem_impl_together_1.tab4 impl_merged_impl_Item__impl_cmpItem_impl_together_1.bits4 (fun HT_ HW_ => ?_)
            generalize w57.drew = w58 at HO_0 HO_1 HO_9 HL168_0 HL169_0 HR168_0 HR169_0 HB HL189_0 HL190_0 HR189_0 HR190_0 hx189_0 hx189_1 hx190_0 hx190_1 hHeld ⊢
            refine pure_ (i := 0) (N := some 30) (v := ?_) (a' := ?_) #[true, false, false, false, false, false, false, false, false, false, false, false, false, false] rfl rfl (any_of HT_.out (by kernel_rfl)) (fun _ _ _ h => h) (Or.inl ⟨by rfl, ?_⟩) ?_ ?_
            rotate_left
            ·intro w'
             go_simp
             with_reducible rfl
            rotate_left
            ·simp only [Act.put, zp1, zp2, zp3, i64_w, i32_w]
             rfl
            refine pure_ (i := 1) (N := some 31) (v := ?_) (a' := ?_) #[true, true, false, false, false, false, false, false, false, false, false, false, false, false] rfl rfl (any_of HT_.out (by kernel_rfl)) (fun _ _ _ h => h) (Or.inl ⟨by rfl, ?_⟩) ?_ ?_
            rotate_left
            ·intro w'
             go_simp
             with_reducible rfl
            rotate_left
            ·simp only [Act.put, zp1, zp2, zp3, i64_w, i32_w]
             rfl
            refine pure_ (i := 2) (N := some 32) (v := ?_) (a' := ?_) #[true, true, true, false, false, false, false, false, false, false, false, false, false, false] rfl rfl (any_of HT_.out (by kernel_rfl)) (fun _ _ _ h => h) (Or.inl ⟨by rfl, ?_⟩) ?_ ?_
            rotate_left
            ·intro w'
             go_simp
             with_reducible rfl
            rotate_left
            ·simp only [Act.put, zp1, zp2, zp3, i64_w, i32_w]
             rfl
            refine pure_ (i := 4) (N := some 34) (v := ?_) (a' := ?_) #[true, true, true, false, true, false, false, false, false, false, false, false, false, false] rfl rfl (any_of HT_.out (by kernel_rfl)) (fun _ _ _ h => h) (Or.inl ⟨by rfl, ?_⟩) ?_ ?_
            rotate_left
            ·intro w'
             go_simp
             with_reducible rfl
            rotate_left
            ·simp only [Act.put, zp1, zp2, zp3, i64_w, i32_w]
             rfl
            refine pure_ (i := 5) (N := some 35) (v := ?_) (a' := ?_) #[true, true, true, false, true, true, false, false, false, false, false, false, false, false] rfl rfl (any_of HT_.out (by kernel_rfl)) (fun _ _ _ h => h) (Or.inl ⟨by rfl, ?_⟩) ?_ ?_
            rotate_left
            ·intro w'
             go_simp
             with_reducible rfl
            rotate_left
            ·simp only [Act.put, zp1, zp2, zp3, i64_w, i32_w]
             rfl
            refine take_ (i := 3) (N := some 33) (v := ?_) (a' := ?_) #[true, true, true, true, true, true, false, false, false, false, false, false, false, false] rfl rfl (take_ofW HT_.out HW_.out (by kernel_rfl)) (fun _ _ _ h => h) (Or.inl ⟨by rfl, ?_⟩) hHeld ?_ ?_
            rotate_left
            ·rintro w' ⟨s0, s1, s2, s3⟩
             go_simp
             with_reducible rfl
            rotate_left
            ·simp only [Act.put, zp1, zp2, zp3, i64_w, i32_w]
             rfl
            refine take_ (i := 6) (N := some 36) (v := ?_) (a' := ?_) #[true, true, true, true, true, true, true, false, false, false, false, false, false, false] rfl rfl (take_ofW HT_.out HW_.out (by kernel_rfl)) (fun _ _ _ h => h) (Or.inl ⟨by rfl, ?_⟩) hHeld ?_ ?_
            rotate_left
            ·rintro w' ⟨s0, s1, s2, s3⟩
             go_simp
             with_reducible rfl
            rotate_left
            ·simp only [Act.put, zp1, zp2, zp3, i64_w, i32_w]
             rfl
            refine join_ (σ := Value × Nat) 2 #[true, true, true, true, true, true, true, true, true, true, true, true, false, false] (fun s_ => [(37, .tuple #[.agg #[s_.1, .int .i64 t194], .bool false]), (11, .pointer (some ⟨s_.2, 0, none⟩)), (29, .tuple #[.agg #[s_.1, .int .i64 t194], .bool false]), (38, .agg #[s_.1, .int .i64 t194]), (39, .bool false)]) (fun s_ w' => (w'.cell? ad168 = some (.slice A189_0 ((rd_T68 x0_1 0).f0).length c189_0) ∧ w'.cell? ⟨ad168.block, ad168.off + 1, none⟩ = some (.int .i64 ((rd_T68 x0_1 0).f1)) ∧ w'.cell? ad169 = some (.slice A190_0 ((rd_T68 x1_1 0).f0).length c190_0) ∧ w'.cell? ⟨ad169.block, ad169.off + 1, none⟩ = some (.int .i64 ((rd_T68 x1_1 0).f1))) ∧ (Kd.V (Kd.int .i64) 3 w' w.heap.size (fun k_ => ((P0_ k_ ∨ P1_ k_) ∨ w.heap.size ≤ k_) ∧ some k_ ≠ (u9 : Value).ownBlock ∧ k_ ≠ s_.2) (.slice A168_0 ((rd_T68 x0_1 0).f0).length c168_0) ((rd_T68 x0_1 0).f0)) ∧ (Kd.V (Kd.int .i64) 3 w' w.heap.size (fun k_ => ((P0_ k_ ∨ P1_ k_) ∨ w.heap.size ≤ k_) ∧ some k_ ≠ (u9 : Value).ownBlock ∧ k_ ≠ s_.2) (.slice A169_0 ((rd_T68 x1_1 0).f0).length c169_0) ((rd_T68 x1_1 0).f0)) ∧ (Kd.V (Kd.int .i64) 3 w' w.heap.size (fun k_ => ((P0_ k_ ∨ P1_ k_) ∨ w.heap.size ≤ k_) ∧ some k_ ≠ (u9 : Value).ownBlock ∧ k_ ≠ s_.2) (.slice A189_0 ((rd_T68 x0_1 0).f0).length c189_0) ((rd_T68 x0_1 0).f0)) ∧ (Kd.V (Kd.int .i64) 3 w' w.heap.size (fun k_ => ((P0_ k_ ∨ P1_ k_) ∨ w.heap.size ≤ k_) ∧ some k_ ≠ (u9 : Value).ownBlock ∧ k_ ≠ s_.2) (.slice A190_0 ((rd_T68 x1_1 0).f0).length c190_0) ((rd_T68 x1_1 0).f0)) ∧ (Kd.V (Kd.int .i64) 3 w' w.heap.size (fun k_ => ((P0_ k_ ∨ P1_ k_) ∨ w.heap.size ≤ k_) ∧ some k_ ≠ (u9 : Value).ownBlock ∧ k_ ≠ s_.2) s_.1 t191) ∧ (Kd.V k68 68 w' w.heap.size (fun k_ => ((P0_ k_ ∨ P1_ k_) ∨ w.heap.size ≤ k_) ∧ some k_ ≠ (u9 : Value).ownBlock ∧ k_ ≠ s_.2) (.slice (some ad168) x0_1.length co54) x0_1) ∧ (Kd.V k68 68 w' w.heap.size (fun k_ => ((P0_ k_ ∨ P1_ k_) ∨ w.heap.size ≤ k_) ∧ some k_ ≠ (u9 : Value).ownBlock ∧ k_ ≠ s_.2) (.slice (some ad169) x1_1.length co55) x1_1) ∧ (Kd.N k68 68 w' w.heap.size (fun k_ => ((P0_ k_ ∨ P1_ k_) ∨ w.heap.size ≤ k_) ∧ k_ ≠ s_.2) u9 x9_1) ∧ (w'.heap[s_.2]? = some (.cells #[.slice none 0 0, .int .i64 0] 68 (0, 0))) ∧ (w.heap.size ≤ s_.2) ∧ (w.heap.size ≤ s_.2) ∧ (Below w.heap.size w w')) ?_ ?_
            rotate_left
            ·intro hCont
             refine two_ (i := 7) (j := 11) (Ni := some 37) (Nj := some 11) #[true, true, true, true, true, true, true, true, false, false, false, false, false, false] #[true, true, true, true, true, true, true, false, false, false, false, true, false, false] rfl rfl rfl rfl (two_of HT_.out (by kernel_rfl)) (by decide) (by decide) (fun K hK => ?_) (fun K hK => ?_)
             ·skip
              refine goes_f (.tmp 30) Try.func108 (by kernel_rfl) rfl #[.agg #[.slice A189_0 ((rd_T68 x0_1 0).f0).length c189_0, .int .i64 ((rd_T68 x0_1 0).f1)], .agg #[.slice A190_0 ((rd_T68 x1_1 0).f0).length c190_0, .int .i64 ((rd_T68 x1_1 0).f1)]] (by rfl) rfl rfl rfl zar ?_
              with_reducible refine (impl_together_1.calls (fun k_ => (((P0_ k_ ∨ P1_ k_) ∨ w.heap.size ≤ k_) ∧ some k_ ≠ (u9 : Value).ownBlock)) _ _ ((rd_T68 x0_1 0).f0) ((rd_T68 x0_1 0).f1) _ _ ((rd_T68 x1_1 0).f0) ((rd_T68 x1_1 0).f1) t191 t194 false _ ?side1 ?side2 ?side3 A30.out).mono ?_
              (case side1 => exact HL189_0.out)
              (case side2 => repeat (first | exact (by repeat (first | (with_reducible exact HR190_0.out) | (with_reducible refine Kd.C_alloc ?_ _) | (with_reducible refine Kd.C_drewN ?_ _) | (with_reducible refine Kd.C_drew ?_) | exact HR190_0.out)) | (with_reducible refine Kd.C_alloc ?_ _) | (with_reducible refine Kd.C_drewN ?_ _) | (with_reducible refine Kd.C_drew ?_)))
              (case side3 => exact HC190_0.out)
              rintro e w59 ⟨v192, rfl, ho0, hb⟩
              have HS0_ := (hb.cell (World.block_lt_of_cell? _ _ (hHeld.1))).trans (hHeld.1)
              have HS1_ := (hb.cell (World.block_lt_of_cell? _ _ (hHeld.2.1))).trans (hHeld.2.1)
              have HS2_ := (hb.cell (World.block_lt_of_cell? _ _ (hHeld.2.2.1))).trans (hHeld.2.2.1)
              have HS3_ := (hb.cell (World.block_lt_of_cell? _ _ (hHeld.2.2.2))).trans (hHeld.2.2.2)
              refine ⟨_, rfl, ?_⟩
              have n0_ := Aside0.mk (Kd.V_below (by (with_reducible repeat (first | apply Kd.V_alloc | apply Kd.V_drewN | apply Kd.V_drew)); exact HO_0.out) hb)
              have n1_ := Aside0.mk (Kd.V_below (by (with_reducible repeat (first | apply Kd.V_alloc | apply Kd.V_drewN | apply Kd.V_drew)); exact HO_1.out) hb)
              have n2_ := Aside0.mk (Kd.N_below (by (with_reducible repeat (first | apply Kd.N_alloc | apply Kd.N_drewN | apply Kd.N_drew)); exact HO_9.out) hb)
              have n3_ := Aside0.mk (Kd.V_below (by (with_reducible repeat (first | apply Kd.V_alloc | apply Kd.V_drewN | apply Kd.V_drew)); exact HL168_0.out) hb)
              have n4_ := Aside0.mk (Kd.V_below (by (with_reducible repeat (first | apply Kd.V_alloc | apply Kd.V_drewN | apply Kd.V_drew)); exact HL169_0.out) hb)
              have n5_ := Aside0.mk (Kd.V_below (by (with_reducible repeat (first | apply Kd.V_alloc | apply Kd.V_drewN | apply Kd.V_drew)); exact HL189_0.out) hb)
              have n6_ := Aside0.mk (Kd.V_below (by (with_reducible repeat (first | apply Kd.V_alloc | apply Kd.V_drewN | apply Kd.V_drew)); exact HL190_0.out) hb)
              have n7_ := Aside0.mk (Kd.V_lower (Kd.V_mono (ok' := fun k_ => ((P0_ k_ ∨ P1_ k_) ∨ w.heap.size ≤ k_) ∧ some k_ ≠ (u9 : Value).ownBlock) ho0 (fun k_ hk_ => ⟨Or.elim hk_ (fun hs_ => hs_.1) (fun hn_ => (.inr (Nat.le_trans (below_size zhb) hn_))), Or.elim hk_ (fun hs_ => hs_.2) (fun hn_ => (Kd.fresh' (Kd.N_lt (by (with_reducible repeat (first | apply Kd.N_alloc | apply Kd.N_drewN | apply Kd.N_drew)); exact HO_9.out)) k_ hn_))⟩)) (below_size zhb))
              have n8_ := Aside0.mk (Kd.C_below (by repeat (first | (with_reducible exact HR168_0.out) | (with_reducible refine Kd.C_alloc ?_ _) | (with_reducible refine Kd.C_drewN ?_ _) | (with_reducible refine Kd.C_drew ?_) | exact HR168_0.out)) hb)
              have n9_ := Aside0.mk (Kd.C_below (by repeat (first | (with_reducible exact HR169_0.out) | (with_reducible refine Kd.C_alloc ?_ _) | (with_reducible refine Kd.C_drewN ?_ _) | (with_reducible refine Kd.C_drew ?_) | exact HR169_0.out)) hb)
              have n10_ := Aside0.mk (Kd.C_below (by repeat (first | (with_reducible exact HR189_0.out) | (with_reducible refine Kd.C_alloc ?_ _) | (with_reducible refine Kd.C_drewN ?_ _) | (with_reducible refine Kd.C_drew ?_) | exact HR189_0.out)) hb)
              have n11_ := Aside0.mk (Kd.C_below (by repeat (first | (with_reducible exact HR190_0.out) | (with_reducible refine Kd.C_alloc ?_ _) | (with_reducible refine Kd.C_drewN ?_ _) | (with_reducible refine Kd.C_drew ?_) | exact HR190_0.out)) hb)
              have n12_ := Aside0.mk (below_step zhb hb)
              clear HO_0
              clear HO_1
              clear HO_9
              clear HL168_0
              clear HL169_0
              clear HL189_0
              clear HL190_0
              clear HR168_0
              clear HR169_0
              clear HR189_0
              clear HR190_0
              clear HB
              have HO_0 := n0_
              have HO_1 := n1_
              have HO_9 := n2_
              have HL168_0 := n3_
              have HL169_0 := n4_
              have HL189_0 := n5_
              have HL190_0 := n6_
              have HO193 := n7_
              have HR168_0 := n8_
              have HR169_0 := n9_
              have HR189_0 := n10_
              have HR190_0 := n11_
              have HB := n12_
              clear n0_ n1_ n2_ n3_ n4_ n5_ n6_ n7_ n8_ n9_ n10_ n11_ n12_
              (try clear hb)
              (try clear hb2)
              (try clear hk)
              (try clear hi)
              (try clear ho0)
              refine hK.out _ _ ⟨HS0_, HS1_, HS2_, HS3_⟩ (fun hHeld => ?_)
              clear hK K
              refine norm_ (a' := ?_) ?_ ?_
              rotate_left
              ·show Act.put _ (some 37) _ = _
               simp only [Act.put, zp1, zp2, zp3, i64_w, i32_w]
               rfl
              refine pure_ (i := 8) (N := some 29) (v := ?_) (a' := ?_) #[true, true, true, true, true, true, true, true, true, false, false, false, false, false] rfl rfl (any_of HT_.out (by kernel_rfl)) (fun _ _ _ h => h) (Or.inl ⟨by rfl, ?_⟩) ?_ ?_
              rotate_left
              ·intro w'
               go_simp
               with_reducible rfl
              rotate_left
              ·simp only [Act.put, zp1, zp2, zp3, i64_w, i32_w]
               rfl
              refine pure_ (i := 9) (N := some 38) (v := ?_) (a' := ?_) #[true, true, true, true, true, true, true, true, true, true, false, false, false, false] rfl rfl (any_of HT_.out (by kernel_rfl)) (fun _ _ _ h => h) (Or.inl ⟨by rfl, ?_⟩) ?_ ?_
              rotate_left
              ·intro w'
               go_simp
               with_reducible rfl
              rotate_left
              ·simp only [Act.put, zp1, zp2, zp3, i64_w, i32_w]
               rfl
              refine pure_ (i := 10) (N := some 39) (v := ?_) (a' := ?_) #[true, true, true, true, true, true, true, true, true, true, true, false, false, false] rfl rfl (any_of HT_.out (by kernel_rfl)) (fun _ _ _ h => h) (Or.inl ⟨by rfl, ?_⟩) ?_ ?_
              rotate_left
              ·intro w'
               go_simp
               with_reducible rfl
              rotate_left
              ·simp only [Act.put, zp1, zp2, zp3, i64_w, i32_w]
               rfl
              refine one_ (i := 11) (N := some 11) #[true, true, true, true, true, true, true, true, true, true, true, true, false, false] rfl rfl (one_of HT_.out (by kernel_rfl)) (by decide) (fun K hK => ?_)
              refine box_step ?hg (N := 11) ?hd (cs := #[.slice none 0 0, .int .i64 0]) (t := 68) ?hr ?_; (case hd => rfl); (case hg => rfl); (case hr => first | (go_simp; done) | (go_simp; rfl))
              intro gb196 hg w60 hbox hb
              have HS0_ := (hb.cell (World.block_lt_of_cell? _ _ (hHeld.1))).trans (hHeld.1)
              have HS1_ := (hb.cell (World.block_lt_of_cell? _ _ (hHeld.2.1))).trans (hHeld.2.1)
              have HS2_ := (hb.cell (World.block_lt_of_cell? _ _ (hHeld.2.2.1))).trans (hHeld.2.2.1)
              have HS3_ := (hb.cell (World.block_lt_of_cell? _ _ (hHeld.2.2.2))).trans (hHeld.2.2.2)
              have n0_ := Aside0.mk (Kd.V_below (Kd.V_elderB (by (with_reducible repeat (first | apply Kd.V_alloc | apply Kd.V_drewN | apply Kd.V_drew)); exact HO_0.out) gb196 (Nat.le_of_eq hg.symm)) hb)
              have n1_ := Aside0.mk (Kd.V_below (Kd.V_elderB (by (with_reducible repeat (first | apply Kd.V_alloc | apply Kd.V_drewN | apply Kd.V_drew)); exact HO_1.out) gb196 (Nat.le_of_eq hg.symm)) hb)
              have n2_ := Aside0.mk (Kd.N_below (Kd.N_elderB (by (with_reducible repeat (first | apply Kd.N_alloc | apply Kd.N_drewN | apply Kd.N_drew)); exact HO_9.out) gb196 (Nat.le_of_eq hg.symm)) hb)
              have n3_ := Aside0.mk (Kd.V_below (Kd.V_elderB (by (with_reducible repeat (first | apply Kd.V_alloc | apply Kd.V_drewN | apply Kd.V_drew)); exact HL168_0.out) gb196 (Nat.le_of_eq hg.symm)) hb)
              have n4_ := Aside0.mk (Kd.V_below (Kd.V_elderB (by (with_reducible repeat (first | apply Kd.V_alloc | apply Kd.V_drewN | apply Kd.V_drew)); exact HL169_0.out) gb196 (Nat.le_of_eq hg.symm)) hb)
              have n5_ := Aside0.mk (Kd.V_below (Kd.V_elderB (by (with_reducible repeat (first | apply Kd.V_alloc | apply Kd.V_drewN | apply Kd.V_drew)); exact HL189_0.out) gb196 (Nat.le_of_eq hg.symm)) hb)
              have n6_ := Aside0.mk (Kd.V_below (Kd.V_elderB (by (with_reducible repeat (first | apply Kd.V_alloc | apply Kd.V_drewN | apply Kd.V_drew)); exact HL190_0.out) gb196 (Nat.le_of_eq hg.symm)) hb)
              have n7_ := Aside0.mk (Kd.V_below (Kd.V_elderB (by (with_reducible repeat (first | apply Kd.V_alloc | apply Kd.V_drewN | apply Kd.V_drew)); exact HO193.out) gb196 (Nat.le_of_eq hg.symm)) hb)
              have n8_ := Aside0.mk (Kd.C_below (by repeat (first | (with_reducible exact HR168_0.out) | (with_reducible refine Kd.C_alloc ?_ _) | (with_reducible refine Kd.C_drewN ?_ _) | (with_reducible refine Kd.C_drew ?_) | exact HR168_0.out)) hb)
              have n9_ := Aside0.mk (Kd.C_below (by repeat (first | (with_reducible exact HR169_0.out) | (with_reducible refine Kd.C_alloc ?_ _) | (with_reducible refine Kd.C_drewN ?_ _) | (with_reducible refine Kd.C_drew ?_) | exact HR169_0.out)) hb)
              have n10_ := Aside0.mk (Kd.C_below (by repeat (first | (with_reducible exact HR189_0.out) | (with_reducible refine Kd.C_alloc ?_ _) | (with_reducible refine Kd.C_drewN ?_ _) | (with_reducible refine Kd.C_drew ?_) | exact HR189_0.out)) hb)
              have n11_ := Aside0.mk (Kd.C_below (by repeat (first | (with_reducible exact HR190_0.out) | (with_reducible refine Kd.C_alloc ?_ _) | (with_reducible refine Kd.C_drewN ?_ _) | (with_reducible refine Kd.C_drew ?_) | exact HR190_0.out)) hb)
              have n12_ := Aside0.mk (below_step zhb hb)
              have n13_ := Aside0.mk (hbox)
              have n14_ := Aside0.mk ((by rw [hg]; exact (below_size zhb) : w.heap.size ≤ gb196))
              have n15_ := Aside0.mk ((by rw [hg]; exact (below_size zhb) : w.heap.size ≤ gb196))
              clear HO_0
              clear HO_1
              clear HO_9
              clear HL168_0
              clear HL169_0
              clear HL189_0
              clear HL190_0
              clear HO193
              clear HR168_0
              clear HR169_0
              clear HR189_0
              clear HR190_0
              clear HB
              have HO_0 := n0_
              have HO_1 := n1_
              have HO_9 := n2_
              have HL168_0 := n3_
              have HL169_0 := n4_
              have HL189_0 := n5_
              have HL190_0 := n6_
              have HO193 := n7_
              have HR168_0 := n8_
              have HR169_0 := n9_
              have HR189_0 := n10_
              have HR190_0 := n11_
              have HB := n12_
              have BK196 := n13_
              have GW196 := n14_
              have GE196 := n15_
              clear n0_ n1_ n2_ n3_ n4_ n5_ n6_ n7_ n8_ n9_ n10_ n11_ n12_ n13_ n14_ n15_
              clear hb hbox hg
              refine hK.out _ _ ⟨HS0_, HS1_, HS2_, HS3_⟩ (fun hHeld => ?_)
              clear hK K
              refine norm_ (a' := ?_) ?_ ?_
              rotate_left
              ·show Act.put _ (some 11) _ = _
               simp only [Act.put, zp1, zp2, zp3, i64_w, i32_w]
               rfl
              exact norm_ (by simp only [putAll, Act.put, zp1, zp2, zp3]) (hCont (v192, gb196) _ ⟨hHeld, (by (with_reducible repeat (first | apply Kd.V_alloc | apply Kd.V_drewN | apply Kd.V_drew)); exact Kd.V_mono HL168_0.out (fun _ hk => ⟨hk.1.1, ⟨hk.1.2, hk.2⟩⟩)), (by (with_reducible repeat (first | apply Kd.V_alloc | apply Kd.V_drewN | apply Kd.V_drew)); exact Kd.V_mono HL169_0.out (fun _ hk => ⟨hk.1.1, ⟨hk.1.2, hk.2⟩⟩)), (by (with_reducible repeat (first | apply Kd.V_alloc | apply Kd.V_drewN | apply Kd.V_drew)); exact Kd.V_mono HL189_0.out (fun _ hk => ⟨hk.1.1, ⟨hk.1.2, hk.2⟩⟩)), (by (with_reducible repeat (first | apply Kd.V_alloc | apply Kd.V_drewN | apply Kd.V_drew)); exact Kd.V_mono HL190_0.out (fun _ hk => ⟨hk.1.1, ⟨hk.1.2, hk.2⟩⟩)), (by (with_reducible repeat (first | apply Kd.V_alloc | apply Kd.V_drewN | apply Kd.V_drew)); exact Kd.V_mono HO193.out (fun _ hk => ⟨hk.1.1, ⟨hk.1.2, hk.2⟩⟩)), (by (with_reducible repeat (first | apply Kd.V_alloc | apply Kd.V_drewN | apply Kd.V_drew)); exact Kd.V_mono HO_0.out (fun _ hk => ⟨hk.1.1, ⟨hk.1.2, hk.2⟩⟩)), (by (with_reducible repeat (first | apply Kd.V_alloc | apply Kd.V_drewN | apply Kd.V_drew)); exact Kd.V_mono HO_1.out (fun _ hk => ⟨hk.1.1, ⟨hk.1.2, hk.2⟩⟩)), (by (with_reducible repeat (first | apply Kd.N_alloc | apply Kd.N_drewN | apply Kd.N_drew)); exact HO_9.out), (by (with_reducible repeat (first | refine blk_drewN ?_ _ | refine blk_drew ?_ | refine blk_alloc ?_ _)); exact BK196.out), GW196.out, GE196.out, (by repeat (first | (with_reducible first | exact HB.out | apply below_alloc | apply pw_below_drewN | apply below_drew1 | refine below_set ?_ GE196.out) | exact HB.out))⟩)
             ·skip
              refine box_step ?hg (N := 11) ?hd (cs := #[.slice none 0 0, .int .i64 0]) (t := 68) ?hr ?_; (case hd => rfl); (case hg => rfl); (case hr => first | (go_simp; done) | (go_simp; rfl))
              intro gb196 hg w59 hbox hb
              have HS0_ := (hb.cell (World.block_lt_of_cell? _ _ (hHeld.1))).trans (hHeld.1)
              have HS1_ := (hb.cell (World.block_lt_of_cell? _ _ (hHeld.2.1))).trans (hHeld.2.1)
              have HS2_ := (hb.cell (World.block_lt_of_cell? _ _ (hHeld.2.2.1))).trans (hHeld.2.2.1)
              have HS3_ := (hb.cell (World.block_lt_of_cell? _ _ (hHeld.2.2.2))).trans (hHeld.2.2.2)
              have n0_ := Aside0.mk (Kd.V_below (Kd.V_elderB (by (with_reducible repeat (first | apply Kd.V_alloc | apply Kd.V_drewN | apply Kd.V_drew)); exact HO_0.out) gb196 (Nat.le_of_eq hg.symm)) hb)
              have n1_ := Aside0.mk (Kd.V_below (Kd.V_elderB (by (with_reducible repeat (first | apply Kd.V_alloc | apply Kd.V_drewN | apply Kd.V_drew)); exact HO_1.out) gb196 (Nat.le_of_eq hg.symm)) hb)
              have n2_ := Aside0.mk (Kd.N_below (Kd.N_elderB (by (with_reducible repeat (first | apply Kd.N_alloc | apply Kd.N_drewN | apply Kd.N_drew)); exact HO_9.out) gb196 (Nat.le_of_eq hg.symm)) hb)
              have n3_ := Aside0.mk (Kd.V_below (Kd.V_elderB (by (with_reducible repeat (first | apply Kd.V_alloc | apply Kd.V_drewN | apply Kd.V_drew)); exact HL168_0.out) gb196 (Nat.le_of_eq hg.symm)) hb)
              have n4_ := Aside0.mk (Kd.V_below (Kd.V_elderB (by (with_reducible repeat (first | apply Kd.V_alloc | apply Kd.V_drewN | apply Kd.V_drew)); exact HL169_0.out) gb196 (Nat.le_of_eq hg.symm)) hb)
              have n5_ := Aside0.mk (Kd.V_below (Kd.V_elderB (by (with_reducible repeat (first | apply Kd.V_alloc | apply Kd.V_drewN | apply Kd.V_drew)); exact HL189_0.out) gb196 (Nat.le_of_eq hg.symm)) hb)
              have n6_ := Aside0.mk (Kd.V_below (Kd.V_elderB (by (with_reducible repeat (first | apply Kd.V_alloc | apply Kd.V_drewN | apply Kd.V_drew)); exact HL190_0.out) gb196 (Nat.le_of_eq hg.symm)) hb)
              have n7_ := Aside0.mk (Kd.C_below (by repeat (first | (with_reducible exact HR168_0.out) | (with_reducible refine Kd.C_alloc ?_ _) | (with_reducible refine Kd.C_drewN ?_ _) | (with_reducible refine Kd.C_drew ?_) | exact HR168_0.out)) hb)
              have n8_ := Aside0.mk (Kd.C_below (by repeat (first | (with_reducible exact HR169_0.out) | (with_reducible refine Kd.C_alloc ?_ _) | (with_reducible refine Kd.C_drewN ?_ _) | (with_reducible refine Kd.C_drew ?_) | exact HR169_0.out)) hb)
              have n9_ := Aside0.mk (Kd.C_below (by repeat (first | (with_reducible exact HR189_0.out) | (with_reducible refine Kd.C_alloc ?_ _) | (with_reducible refine Kd.C_drewN ?_ _) | (with_reducible refine Kd.C_drew ?_) | exact HR189_0.out)) hb)
              have n10_ := Aside0.mk (Kd.C_below (by repeat (first | (with_reducible exact HR190_0.out) | (with_reducible refine Kd.C_alloc ?_ _) | (with_reducible refine Kd.C_drewN ?_ _) | (with_reducible refine Kd.C_drew ?_) | exact HR190_0.out)) hb)
              have n11_ := Aside0.mk (below_step zhb hb)
              have n12_ := Aside0.mk (hbox)
              have n13_ := Aside0.mk ((by rw [hg]; exact (below_size zhb) : w.heap.size ≤ gb196))
              have n14_ := Aside0.mk ((by rw [hg]; exact (below_size zhb) : w.heap.size ≤ gb196))
              clear HO_0
              clear HO_1
              clear HO_9
              clear HL168_0
              clear HL169_0
              clear HL189_0
              clear HL190_0
              clear HR168_0
              clear HR169_0
              clear HR189_0
              clear HR190_0
              clear HB
              have HO_0 := n0_
              have HO_1 := n1_
              have HO_9 := n2_
              have HL168_0 := n3_
              have HL169_0 := n4_
              have HL189_0 := n5_
              have HL190_0 := n6_
              have HR168_0 := n7_
              have HR169_0 := n8_
              have HR189_0 := n9_
              have HR190_0 := n10_
              have HB := n11_
              have BK196 := n12_
              have GW196 := n13_
              have GE196 := n14_
              clear n0_ n1_ n2_ n3_ n4_ n5_ n6_ n7_ n8_ n9_ n10_ n11_ n12_ n13_ n14_
              clear hb hbox hg
              refine hK.out _ _ ⟨HS0_, HS1_, HS2_, HS3_⟩ (fun hHeld => ?_)
              clear hK K
              refine norm_ (a' := ?_) ?_ ?_
              rotate_left
              ·show Act.put _ (some 11) _ = _
               simp only [Act.put, zp1, zp2, zp3, i64_w, i32_w]
               rfl
              refine one_ (i := 7) (N := some 37) #[true, true, true, true, true, true, true, true, false, false, false, true, false, false] rfl rfl (one_of HT_.out (by kernel_rfl)) (by decide) (fun K hK => ?_)
              refine goes_f (.tmp 30) Try.func108 (by kernel_rfl) rfl #[.agg #[.slice A189_0 ((rd_T68 x0_1 0).f0).length c189_0, .int .i64 ((rd_T68 x0_1 0).f1)], .agg #[.slice A190_0 ((rd_T68 x1_1 0).f0).length c190_0, .int .i64 ((rd_T68 x1_1 0).f1)]] (by rfl) rfl rfl rfl zar ?_
              with_reducible refine (impl_together_1.calls (fun k_ => ((((P0_ k_ ∨ P1_ k_) ∨ w.heap.size ≤ k_) ∧ some k_ ≠ (u9 : Value).ownBlock) ∧ k_ ≠ gb196)) _ _ ((rd_T68 x0_1 0).f0) ((rd_T68 x0_1 0).f1) _ _ ((rd_T68 x1_1 0).f0) ((rd_T68 x1_1 0).f1) t191 t194 false _ ?side1 ?side2 ?side3 A30.out).mono ?_
              (case side1 => exact HL189_0.out)
              (case side2 => repeat (first | exact (by repeat (first | (with_reducible exact HR190_0.out) | (with_reducible refine Kd.C_alloc ?_ _) | (with_reducible refine Kd.C_drewN ?_ _) | (with_reducible refine Kd.C_drew ?_) | exact HR190_0.out)) | (with_reducible refine Kd.C_alloc ?_ _) | (with_reducible refine Kd.C_drewN ?_ _) | (with_reducible refine Kd.C_drew ?_)))
              (case side3 => exact HC190_0.out)
              rintro e w60 ⟨v192, rfl, ho0, hb⟩
              have HS0_ := (hb.cell (World.block_lt_of_cell? _ _ (hHeld.1))).trans (hHeld.1)
              have HS1_ := (hb.cell (World.block_lt_of_cell? _ _ (hHeld.2.1))).trans (hHeld.2.1)
              have HS2_ := (hb.cell (World.block_lt_of_cell? _ _ (hHeld.2.2.1))).trans (hHeld.2.2.1)
              have HS3_ := (hb.cell (World.block_lt_of_cell? _ _ (hHeld.2.2.2))).trans (hHeld.2.2.2)
              refine ⟨_, rfl, ?_⟩
              have n0_ := Aside0.mk (Kd.V_below (by (with_reducible repeat (first | apply Kd.V_alloc | apply Kd.V_drewN | apply Kd.V_drew)); exact HO_0.out) hb)
              have n1_ := Aside0.mk (Kd.V_below (by (with_reducible repeat (first | apply Kd.V_alloc | apply Kd.V_drewN | apply Kd.V_drew)); exact HO_1.out) hb)
              have n2_ := Aside0.mk (Kd.N_below (by (with_reducible repeat (first | apply Kd.N_alloc | apply Kd.N_drewN | apply Kd.N_drew)); exact HO_9.out) hb)
              have n3_ := Aside0.mk (Kd.V_below (by (with_reducible repeat (first | apply Kd.V_alloc | apply Kd.V_drewN | apply Kd.V_drew)); exact HL168_0.out) hb)
              have n4_ := Aside0.mk (Kd.V_below (by (with_reducible repeat (first | apply Kd.V_alloc | apply Kd.V_drewN | apply Kd.V_drew)); exact HL169_0.out) hb)
              have n5_ := Aside0.mk (Kd.V_below (by (with_reducible repeat (first | apply Kd.V_alloc | apply Kd.V_drewN | apply Kd.V_drew)); exact HL189_0.out) hb)
              have n6_ := Aside0.mk (Kd.V_below (by (with_reducible repeat (first | apply Kd.V_alloc | apply Kd.V_drewN | apply Kd.V_drew)); exact HL190_0.out) hb)
              have n7_ := Aside0.mk (Kd.V_lower (Kd.V_mono (ok' := fun k_ => ((P0_ k_ ∨ P1_ k_) ∨ w.heap.size ≤ k_) ∧ some k_ ≠ (u9 : Value).ownBlock ∧ k_ ≠ gb196) ho0 (fun k_ hk_ => ⟨Or.elim hk_ (fun hs_ => hs_.1.1) (fun hn_ => (.inr (Nat.le_trans (below_size (by repeat (first | (with_reducible first | exact HB.out | apply below_alloc | apply pw_below_drewN | apply below_drew1 | refine below_set ?_ GE196.out) | exact HB.out))) hn_))), Or.elim hk_ (fun hs_ => hs_.1.2) (fun hn_ => (Kd.fresh' (Kd.N_lt (by (with_reducible repeat (first | apply Kd.N_alloc | apply Kd.N_drewN | apply Kd.N_drew)); exact HO_9.out)) k_ hn_)), Or.elim hk_ (fun hs_ => hs_.2) (fun hn_ => (Kd.freshB (g := gb196) (o := .cells #[.slice none 0 0, .int .i64 0] 68 (0, 0)) (by (with_reducible repeat (first | refine blk_drewN ?_ _ | refine blk_drew ?_ | refine blk_alloc ?_ _)); exact BK196.out) k_ hn_))⟩)) (below_size (by repeat (first | (with_reducible first | exact HB.out | apply below_alloc | apply pw_below_drewN | apply below_drew1 | refine below_set ?_ GE196.out) | exact HB.out))))
              have n8_ := Aside0.mk (Kd.C_below (by repeat (first | (with_reducible exact HR168_0.out) | (with_reducible refine Kd.C_alloc ?_ _) | (with_reducible refine Kd.C_drewN ?_ _) | (with_reducible refine Kd.C_drew ?_) | exact HR168_0.out)) hb)
              have n9_ := Aside0.mk (Kd.C_below (by repeat (first | (with_reducible exact HR169_0.out) | (with_reducible refine Kd.C_alloc ?_ _) | (with_reducible refine Kd.C_drewN ?_ _) | (with_reducible refine Kd.C_drew ?_) | exact HR169_0.out)) hb)
              have n10_ := Aside0.mk (Kd.C_below (by repeat (first | (with_reducible exact HR189_0.out) | (with_reducible refine Kd.C_alloc ?_ _) | (with_reducible refine Kd.C_drewN ?_ _) | (with_reducible refine Kd.C_drew ?_) | exact HR189_0.out)) hb)
              have n11_ := Aside0.mk (Kd.C_below (by repeat (first | (with_reducible exact HR190_0.out) | (with_reducible refine Kd.C_alloc ?_ _) | (with_reducible refine Kd.C_drewN ?_ _) | (with_reducible refine Kd.C_drew ?_) | exact HR190_0.out)) hb)
              have n12_ := Aside0.mk (blk_below (g := gb196) (o := .cells #[.slice none 0 0, .int .i64 0] 68 (0, 0)) (by (with_reducible repeat (first | refine blk_drewN ?_ _ | refine blk_drew ?_ | refine blk_alloc ?_ _)); exact BK196.out) hb)
              have n13_ := Aside0.mk (below_step (by repeat (first | (with_reducible first | exact HB.out | apply below_alloc | apply pw_below_drewN | apply below_drew1 | refine below_set ?_ GE196.out) | exact HB.out)) hb)
              clear HO_0
              clear HO_1
              clear HO_9
              clear HL168_0
              clear HL169_0
              clear HL189_0
              clear HL190_0
              clear HR168_0
              clear HR169_0
              clear HR189_0
              clear HR190_0
              clear BK196
              clear HB
              have HO_0 := n0_
              have HO_1 := n1_
              have HO_9 := n2_
              have HL168_0 := n3_
              have HL169_0 := n4_
              have HL189_0 := n5_
              have HL190_0 := n6_
              have HO193 := n7_
              have HR168_0 := n8_
              have HR169_0 := n9_
              have HR189_0 := n10_
              have HR190_0 := n11_
              have BK196 := n12_
              have HB := n13_
              clear n0_ n1_ n2_ n3_ n4_ n5_ n6_ n7_ n8_ n9_ n10_ n11_ n12_ n13_
              (try clear hb)
              (try clear hb2)
              (try clear hk)
              (try clear hi)
              (try clear ho0)
              refine hK.out _ _ ⟨HS0_, HS1_, HS2_, HS3_⟩ (fun hHeld => ?_)
              clear hK K
              refine norm_ (a' := ?_) ?_ ?_
              rotate_left
              ·show Act.put _ (some 37) _ = _
               simp only [Act.put, zp1, zp2, zp3, i64_w, i32_w]
               rfl
              refine pure_ (i := 8) (N := some 29) (v := ?_) (a' := ?_) #[true, true, true, true, true, true, true, true, true, false, false, true, false, false] rfl rfl (any_of HT_.out (by kernel_rfl)) (fun _ _ _ h => h) (Or.inl ⟨by rfl, ?_⟩) ?_ ?_
              rotate_left
              ·intro w'
               go_simp
               with_reducible rfl
              rotate_left
              ·simp only [Act.put, zp1, zp2, zp3, i64_w, i32_w]
               rfl
              refine pure_ (i := 9) (N := some 38) (v := ?_) (a' := ?_) #[true, true, true, true, true, true, true, true, true, true, false, true, false, false] rfl rfl (any_of HT_.out (by kernel_rfl)) (fun _ _ _ h => h) (Or.inl ⟨by rfl, ?_⟩) ?_ ?_
              rotate_left
              ·intro w'
               go_simp
               with_reducible rfl
              rotate_left
              ·simp only [Act.put, zp1, zp2, zp3, i64_w, i32_w]
               rfl
              refine pure_ (i := 10) (N := some 39) (v := ?_) (a' := ?_) #[true, true, true, true, true, true, true, true, true, true, true, true, false, false] rfl rfl (any_of HT_.out (by kernel_rfl)) (fun _ _ _ h => h) (Or.inl ⟨by rfl, ?_⟩) ?_ ?_
              rotate_left
              ·intro w'
               go_simp
               with_reducible rfl
              rotate_left
              ·simp only [Act.put, zp1, zp2, zp3, i64_w, i32_w]
               rfl
              exact norm_ (by simp only [putAll, Act.put, zp1, zp2, zp3]) (hCont (v192, gb196) _ ⟨hHeld, (by (with_reducible repeat (first | apply Kd.V_alloc | apply Kd.V_drewN | apply Kd.V_drew)); exact Kd.V_mono HL168_0.out (fun _ hk => ⟨hk.1.1, ⟨hk.1.2, hk.2⟩⟩)), (by (with_reducible repeat (first | apply Kd.V_alloc | apply Kd.V_drewN | apply Kd.V_drew)); exact Kd.V_mono HL169_0.out (fun _ hk => ⟨hk.1.1, ⟨hk.1.2, hk.2⟩⟩)), (by (with_reducible repeat (first | apply Kd.V_alloc | apply Kd.V_drewN | apply Kd.V_drew)); exact Kd.V_mono HL189_0.out (fun _ hk => ⟨hk.1.1, ⟨hk.1.2, hk.2⟩⟩)), (by (with_reducible repeat (first | apply Kd.V_alloc | apply Kd.V_drewN | apply Kd.V_drew)); exact Kd.V_mono HL190_0.out (fun _ hk => ⟨hk.1.1, ⟨hk.1.2, hk.2⟩⟩)), (by (with_reducible repeat (first | apply Kd.V_alloc | apply Kd.V_drewN | apply Kd.V_drew)); exact HO193.out), (by (with_reducible repeat (first | apply Kd.V_alloc | apply Kd.V_drewN | apply Kd.V_drew)); exact Kd.V_mono HO_0.out (fun _ hk => ⟨hk.1.1, ⟨hk.1.2, hk.2⟩⟩)), (by (with_reducible repeat (first | apply Kd.V_alloc | apply Kd.V_drewN | apply Kd.V_drew)); exact Kd.V_mono HO_1.out (fun _ hk => ⟨hk.1.1, ⟨hk.1.2, hk.2⟩⟩)), (by (with_reducible repeat (first | apply Kd.N_alloc | apply Kd.N_drewN | apply Kd.N_drew)); exact HO_9.out), (by (with_reducible repeat (first | refine blk_drewN ?_ _ | refine blk_drew ?_ | refine blk_alloc ?_ _)); exact BK196.out), GW196.out, GE196.out, (by repeat (first | (with_reducible first | exact HB.out | apply below_alloc | apply pw_below_drewN | apply below_drew1 | refine below_set ?_ GE196.out) | exact HB.out))⟩)
            rintro ⟨v192, gb196⟩ w61 ⟨hS_, h0_, h1_, h2_, h3_, h4_, h5_, h6_, h7_, h8_, h9_, h10_, h11_⟩
            have n0_ : Aside0 (Kd.V (Kd.int .i64) 3 w61 w.heap.size (fun k_ => ((P0_ k_ ∨ P1_ k_) ∨ w.heap.size ≤ k_) ∧ some k_ ≠ (u9 : Value).ownBlock ∧ k_ ≠ gb196) (.slice A168_0 ((rd_T68 x0_1 0).f0).length c168_0) ((rd_T68 x0_1 0).f0)) := ⟨h0_⟩
            have n1_ : Aside0 (Kd.V (Kd.int .i64) 3 w61 w.heap.size (fun k_ => ((P0_ k_ ∨ P1_ k_) ∨ w.heap.size ≤ k_) ∧ some k_ ≠ (u9 : Value).ownBlock ∧ k_ ≠ gb196) (.slice A169_0 ((rd_T68 x1_1 0).f0).length c169_0) ((rd_T68 x1_1 0).f0)) := ⟨h1_⟩
            have n2_ : Aside0 (Kd.V (Kd.int .i64) 3 w61 w.heap.size (fun k_ => ((P0_ k_ ∨ P1_ k_) ∨ w.heap.size ≤ k_) ∧ some k_ ≠ (u9 : Value).ownBlock ∧ k_ ≠ gb196) (.slice A189_0 ((rd_T68 x0_1 0).f0).length c189_0) ((rd_T68 x0_1 0).f0)) := ⟨h2_⟩
            have n3_ : Aside0 (Kd.V (Kd.int .i64) 3 w61 w.heap.size (fun k_ => ((P0_ k_ ∨ P1_ k_) ∨ w.heap.size ≤ k_) ∧ some k_ ≠ (u9 : Value).ownBlock ∧ k_ ≠ gb196) (.slice A190_0 ((rd_T68 x1_1 0).f0).length c190_0) ((rd_T68 x1_1 0).f0)) := ⟨h3_⟩
            have n4_ : Aside0 (Kd.V (Kd.int .i64) 3 w61 w.heap.size (fun k_ => ((P0_ k_ ∨ P1_ k_) ∨ w.heap.size ≤ k_) ∧ some k_ ≠ (u9 : Value).ownBlock ∧ k_ ≠ gb196) v192 t191) := ⟨h4_⟩
            have n5_ : Aside0 (Kd.V k68 68 w61 w.heap.size (fun k_ => ((P0_ k_ ∨ P1_ k_) ∨ w.heap.size ≤ k_) ∧ some k_ ≠ (u9 : Value).ownBlock ∧ k_ ≠ gb196) (.slice (some ad168) x0_1.length co54) x0_1) := ⟨h5_⟩
            have n6_ : Aside0 (Kd.V k68 68 w61 w.heap.size (fun k_ => ((P0_ k_ ∨ P1_ k_) ∨ w.heap.size ≤ k_) ∧ some k_ ≠ (u9 : Value).ownBlock ∧ k_ ≠ gb196) (.slice (some ad169) x1_1.length co55) x1_1) := ⟨h6_⟩
            have n7_ : Aside0 (Kd.N k68 68 w61 w.heap.size (fun k_ => ((P0_ k_ ∨ P1_ k_) ∨ w.heap.size ≤ k_) ∧ k_ ≠ gb196) u9 x9_1) := ⟨h7_⟩
            have n8_ : Aside0 (w61.heap[gb196]? = some (.cells #[.slice none 0 0, .int .i64 0] 68 (0, 0))) := ⟨h8_⟩
            have n9_ : Aside0 (w.heap.size ≤ gb196) := ⟨h9_⟩
            have n10_ : Aside0 (w.heap.size ≤ gb196) := ⟨h10_⟩
            have n11_ : Aside0 (Below w.heap.size w w61) := ⟨h11_⟩
            clear HO_0
            clear HO_1
            clear HO_9
            clear HL168_0
            clear HL169_0
            clear HR168_0
            clear HR169_0
            clear HB
            clear h0_ h1_ h2_ h3_ h4_ h5_ h6_ h7_ h8_ h9_ h10_ h11_
            have HL168_0 := n0_
            have HL169_0 := n1_
            have HL189_0 := n2_
            have HL190_0 := n3_
            have HO193 := n4_
            have HO_0 := n5_
            have HO_1 := n6_
            have HO_9 := n7_
            have BK196 := n8_
            have GW196 := n9_
            have GE196 := n10_
            have HB := n11_
            clear n0_ n1_ n2_ n3_ n4_ n5_ n6_ n7_ n8_ n9_ n10_ n11_
            have hHeld : w61.cell? ad168 = some (.slice A189_0 ((rd_T68 x0_1 0).f0).length c189_0) ∧ w61.cell? ⟨ad168.block, ad168.off + 1, none⟩ = some (.int .i64 ((rd_T68 x0_1 0).f1)) ∧ w61.cell? ad169 = some (.slice A190_0 ((rd_T68 x1_1 0).f0).length c190_0) ∧ w61.cell? ⟨ad169.block, ad169.off + 1, none⟩ = some (.int .i64 ((rd_T68 x1_1 0).f1)) := hS_
            obtain ⟨Ao62, co62, eo62⟩ := Kd.V_slice HO193.out
            (first | subst eo62 | (injection eo62 with f1_ f2_ f3_; have f4_ := f1_.symm; have f5_ := f3_.symm; clear f1_ f2_ f3_; subst f4_; subst f5_))
            refine norm_ (a' := ?_) ?_ ?_
            rotate_left
            ·simp only [putAll, Act.put, zp1, zp2, zp3]
             rfl
            refine one_ (i := 12) (N := none) #[true, true, true, true, true, true, true, true, true, true, true, true, true, false] rfl rfl (one_of HT_.out (by kernel_rfl)) (by decide) (fun K hK => ?_)
            have hs63 : w61.cell? ⟨gb196, 0, none⟩ = some (.slice none 0 0) := (blk_cell BK196.out 0).trans rfl
            have hfs63 := blk_frozen BK196.out 0
            have hs64 : w61.cell? ⟨gb196, 1, none⟩ = some (.int .i64 0) := (blk_cell BK196.out 1).trans rfl
            have hfs64 := blk_frozen BK196.out 1
            refine skip_ (w1 := ?_) (by rfl) rfl ?_ ?_
            rotate_left
            ·go_simp
             rfl
            refine hK.out _ _ ⟨((cell_far (p := ⟨gb196, _, none⟩) (by first | exact Kd.own_blk (Kd.V_away HO_0.out (fun _ hk => hk.2.2)) | (rw [add_block]; exact Kd.own_blk (Kd.V_away HO_0.out (fun _ hk => hk.2.2))) | (show (Addr.add _ _).block ≠ _; rw [add_block]; exact Kd.own_blk (Kd.V_away HO_0.out (fun _ hk => hk.2.2))) | (dsimp only; exact Kd.own_blk (Kd.V_away HO_0.out (fun _ hk => hk.2.2)))) _).trans (((cell_far (p := ⟨gb196, _, none⟩) (by first | exact Kd.own_blk (Kd.V_away HO_0.out (fun _ hk => hk.2.2)) | (rw [add_block]; exact Kd.own_blk (Kd.V_away HO_0.out (fun _ hk => hk.2.2))) | (show (Addr.add _ _).block ≠ _; rw [add_block]; exact Kd.own_blk (Kd.V_away HO_0.out (fun _ hk => hk.2.2))) | (dsimp only; exact Kd.own_blk (Kd.V_away HO_0.out (fun _ hk => hk.2.2)))) _).trans (hHeld.1)))), ((cell_far (p := ⟨gb196, _, none⟩) (by first | exact Kd.own_blk (Kd.V_away HO_0.out (fun _ hk => hk.2.2)) | (rw [add_block]; exact Kd.own_blk (Kd.V_away HO_0.out (fun _ hk => hk.2.2))) | (show (Addr.add _ _).block ≠ _; rw [add_block]; exact Kd.own_blk (Kd.V_away HO_0.out (fun _ hk => hk.2.2))) | (dsimp only; exact Kd.own_blk (Kd.V_away HO_0.out (fun _ hk => hk.2.2)))) _).trans (((cell_far (p := ⟨gb196, _, none⟩) (by first | exact Kd.own_blk (Kd.V_away HO_0.out (fun _ hk => hk.2.2)) | (rw [add_block]; exact Kd.own_blk (Kd.V_away HO_0.out (fun _ hk => hk.2.2))) | (show (Addr.add _ _).block ≠ _; rw [add_block]; exact Kd.own_blk (Kd.V_away HO_0.out (fun _ hk => hk.2.2))) | (dsimp only; exact Kd.own_blk (Kd.V_away HO_0.out (fun _ hk => hk.2.2)))) _).trans (hHeld.2.1)))), ((cell_far (p := ⟨gb196, _, none⟩) (by first | exact Kd.own_blk (Kd.V_away HO_1.out (fun _ hk => hk.2.2)) | (rw [add_block]; exact Kd.own_blk (Kd.V_away HO_1.out (fun _ hk => hk.2.2))) | (show (Addr.add _ _).block ≠ _; rw [add_block]; exact Kd.own_blk (Kd.V_away HO_1.out (fun _ hk => hk.2.2))) | (dsimp only; exact Kd.own_blk (Kd.V_away HO_1.out (fun _ hk => hk.2.2)))) _).trans (((cell_far (p := ⟨gb196, _, none⟩) (by first | exact Kd.own_blk (Kd.V_away HO_1.out (fun _ hk => hk.2.2)) | (rw [add_block]; exact Kd.own_blk (Kd.V_away HO_1.out (fun _ hk => hk.2.2))) | (show (Addr.add _ _).block ≠ _; rw [add_block]; exact Kd.own_blk (Kd.V_away HO_1.out (fun _ hk => hk.2.2))) | (dsimp only; exact Kd.own_blk (Kd.V_away HO_1.out (fun _ hk => hk.2.2)))) _).trans (hHeld.2.2.1)))), ((cell_far (p := ⟨gb196, _, none⟩) (by first | exact Kd.own_blk (Kd.V_away HO_1.out (fun _ hk => hk.2.2)) | (rw [add_block]; exact Kd.own_blk (Kd.V_away HO_1.out (fun _ hk => hk.2.2))) | (show (Addr.add _ _).block ≠ _; rw [add_block]; exact Kd.own_blk (Kd.V_away HO_1.out (fun _ hk => hk.2.2))) | (dsimp only; exact Kd.own_blk (Kd.V_away HO_1.out (fun _ hk => hk.2.2)))) _).trans (((cell_far (p := ⟨gb196, _, none⟩) (by first | exact Kd.own_blk (Kd.V_away HO_1.out (fun _ hk => hk.2.2)) | (rw [add_block]; exact Kd.own_blk (Kd.V_away HO_1.out (fun _ hk => hk.2.2))) | (show (Addr.add _ _).block ≠ _; rw [add_block]; exact Kd.own_blk (Kd.V_away HO_1.out (fun _ hk => hk.2.2))) | (dsimp only; exact Kd.own_blk (Kd.V_away HO_1.out (fun _ hk => hk.2.2)))) _).trans (hHeld.2.2.2))))⟩ (fun hHeld => ?_)
            clear hK K
            refine pure_ (i := 13) (N := some 12) (v := ?_) (a' := ?_) #[true, true, true, true, true, true, true, true, true, true, true, true, true, true] rfl rfl (any_of HT_.out (by kernel_rfl)) (fun _ _ _ h => h) (Or.inl ⟨by rfl, ?_⟩) ?_ ?_
            rotate_left
            ·intro w'
             go_simp
             with_reducible rfl
            rotate_left
            ·simp only [Act.put, zp1, zp2, zp3, i64_w, i32_w]
             rfl
            refine done_ (done_of HT_.out (by kernel_rfl)) ?_
            try go_wp2
            have n0_ : Aside0 (Kd.V k68 68 ((w61.setCell ⟨gb196, 0, none⟩ (.slice Ao62 t191.length co62)).setCell ⟨gb196, 1, none⟩ (.int .i64 t194)) w.heap.size (fun k_ => ((P0_ k_ ∨ P1_ k_) ∨ w.heap.size ≤ k_) ∧ some k_ ≠ (u9 : Value).ownBlock ∧ k_ ≠ gb196) (.slice (some ad168) x0_1.length co54) x0_1) := ⟨by (with_reducible repeat (first | apply Kd.V_alloc | apply Kd.V_drewN | apply Kd.V_drew)); exact Kd.V_mono (Kd.V_far (p := ⟨gb196, 1, none⟩) (Kd.V_far (p := ⟨gb196, 0, none⟩) (Kd.V_mono HO_0.out (fun k_ hk => (⟨hk, hk.2.2⟩ : _ ∧ k_ ≠ gb196))) (fun _ hk => hk.2) (.slice Ao62 t191.length co62)) (fun _ hk => hk.2) (.int .i64 t194)) (fun _ hk => ⟨hk.1.1, ⟨hk.1.2.1, hk.1.2.2⟩⟩)⟩
            have n1_ : Aside0 (Kd.V k68 68 ((w61.setCell ⟨gb196, 0, none⟩ (.slice Ao62 t191.length co62)).setCell ⟨gb196, 1, none⟩ (.int .i64 t194)) w.heap.size (fun k_ => ((P0_ k_ ∨ P1_ k_) ∨ w.heap.size ≤ k_) ∧ some k_ ≠ (u9 : Value).ownBlock ∧ k_ ≠ gb196) (.slice (some ad169) x1_1.length co55) x1_1) := ⟨by (with_reducible repeat (first | apply Kd.V_alloc | apply Kd.V_drewN | apply Kd.V_drew)); exact Kd.V_mono (Kd.V_far (p := ⟨gb196, 1, none⟩) (Kd.V_far (p := ⟨gb196, 0, none⟩) (Kd.V_mono HO_1.out (fun k_ hk => (⟨hk, hk.2.2⟩ : _ ∧ k_ ≠ gb196))) (fun _ hk => hk.2) (.slice Ao62 t191.length co62)) (fun _ hk => hk.2) (.int .i64 t194)) (fun _ hk => ⟨hk.1.1, ⟨hk.1.2.1, hk.1.2.2⟩⟩)⟩
            have n2_ : Aside0 (Kd.N k68 68 ((w61.setCell ⟨gb196, 0, none⟩ (.slice Ao62 t191.length co62)).setCell ⟨gb196, 1, none⟩ (.int .i64 t194)) w.heap.size (fun k_ => ((P0_ k_ ∨ P1_ k_) ∨ w.heap.size ≤ k_) ∧ k_ ≠ gb196) u9 x9_1) := ⟨by (with_reducible repeat (first | apply Kd.N_alloc | apply Kd.N_drewN | apply Kd.N_drew)); exact Kd.N_mono (Kd.N_far (p := ⟨gb196, 1, none⟩) (Kd.N_far (p := ⟨gb196, 0, none⟩) (Kd.N_mono HO_9.out (fun k_ hk => (⟨hk, hk.2⟩ : _ ∧ k_ ≠ gb196))) (fun _ hk => hk.2) (.slice Ao62 t191.length co62)) (fun _ hk => hk.2) (.int .i64 t194)) (fun _ hk => ⟨hk.1.1, hk.1.2⟩)⟩
            have n3_ : Aside0 (Kd.V (Kd.int .i64) 3 ((w61.setCell ⟨gb196, 0, none⟩ (.slice Ao62 t191.length co62)).setCell ⟨gb196, 1, none⟩ (.int .i64 t194)) w.heap.size (fun k_ => ((P0_ k_ ∨ P1_ k_) ∨ w.heap.size ≤ k_) ∧ some k_ ≠ (u9 : Value).ownBlock ∧ k_ ≠ gb196) (.slice A168_0 ((rd_T68 x0_1 0).f0).length c168_0) ((rd_T68 x0_1 0).f0)) := ⟨by (with_reducible repeat (first | apply Kd.V_alloc | apply Kd.V_drewN | apply Kd.V_drew)); exact Kd.V_mono (Kd.V_far (p := ⟨gb196, 1, none⟩) (Kd.V_far (p := ⟨gb196, 0, none⟩) (Kd.V_mono HL168_0.out (fun k_ hk => (⟨hk, hk.2.2⟩ : _ ∧ k_ ≠ gb196))) (fun _ hk => hk.2) (.slice Ao62 t191.length co62)) (fun _ hk => hk.2) (.int .i64 t194)) (fun _ hk => ⟨hk.1.1, ⟨hk.1.2.1, hk.1.2.2⟩⟩)⟩
            have n4_ : Aside0 (Kd.V (Kd.int .i64) 3 ((w61.setCell ⟨gb196, 0, none⟩ (.slice Ao62 t191.length co62)).setCell ⟨gb196, 1, none⟩ (.int .i64 t194)) w.heap.size (fun k_ => ((P0_ k_ ∨ P1_ k_) ∨ w.heap.size ≤ k_) ∧ some k_ ≠ (u9 : Value).ownBlock ∧ k_ ≠ gb196) (.slice A169_0 ((rd_T68 x1_1 0).f0).length c169_0) ((rd_T68 x1_1 0).f0)) := ⟨by (with_reducible repeat (first | apply Kd.V_alloc | apply Kd.V_drewN | apply Kd.V_drew)); exact Kd.V_mono (Kd.V_far (p := ⟨gb196, 1, none⟩) (Kd.V_far (p := ⟨gb196, 0, none⟩) (Kd.V_mono HL169_0.out (fun k_ hk => (⟨hk, hk.2.2⟩ : _ ∧ k_ ≠ gb196))) (fun _ hk => hk.2) (.slice Ao62 t191.length co62)) (fun _ hk => hk.2) (.int .i64 t194)) (fun _ hk => ⟨hk.1.1, ⟨hk.1.2.1, hk.1.2.2⟩⟩)⟩
            have n5_ : Aside0 (Kd.V (Kd.int .i64) 3 ((w61.setCell ⟨gb196, 0, none⟩ (.slice Ao62 t191.length co62)).setCell ⟨gb196, 1, none⟩ (.int .i64 t194)) w.heap.size (fun k_ => ((P0_ k_ ∨ P1_ k_) ∨ w.heap.size ≤ k_) ∧ some k_ ≠ (u9 : Value).ownBlock ∧ k_ ≠ gb196) (.slice A189_0 ((rd_T68 x0_1 0).f0).length c189_0) ((rd_T68 x0_1 0).f0)) := ⟨by (with_reducible repeat (first | apply Kd.V_alloc | apply Kd.V_drewN | apply Kd.V_drew)); exact Kd.V_mono (Kd.V_far (p := ⟨gb196, 1, none⟩) (Kd.V_far (p := ⟨gb196, 0, none⟩) (Kd.V_mono HL189_0.out (fun k_ hk => (⟨hk, hk.2.2⟩ : _ ∧ k_ ≠ gb196))) (fun _ hk => hk.2) (.slice Ao62 t191.length co62)) (fun _ hk => hk.2) (.int .i64 t194)) (fun _ hk => ⟨hk.1.1, ⟨hk.1.2.1, hk.1.2.2⟩⟩)⟩
            have n6_ : Aside0 (Kd.V (Kd.int .i64) 3 ((w61.setCell ⟨gb196, 0, none⟩ (.slice Ao62 t191.length co62)).setCell ⟨gb196, 1, none⟩ (.int .i64 t194)) w.heap.size (fun k_ => ((P0_ k_ ∨ P1_ k_) ∨ w.heap.size ≤ k_) ∧ some k_ ≠ (u9 : Value).ownBlock ∧ k_ ≠ gb196) (.slice A190_0 ((rd_T68 x1_1 0).f0).length c190_0) ((rd_T68 x1_1 0).f0)) := ⟨by (with_reducible repeat (first | apply Kd.V_alloc | apply Kd.V_drewN | apply Kd.V_drew)); exact Kd.V_mono (Kd.V_far (p := ⟨gb196, 1, none⟩) (Kd.V_far (p := ⟨gb196, 0, none⟩) (Kd.V_mono HL190_0.out (fun k_ hk => (⟨hk, hk.2.2⟩ : _ ∧ k_ ≠ gb196))) (fun _ hk => hk.2) (.slice Ao62 t191.length co62)) (fun _ hk => hk.2) (.int .i64 t194)) (fun _ hk => ⟨hk.1.1, ⟨hk.1.2.1, hk.1.2.2⟩⟩)⟩
            have n7_ : Aside0 (Kd.V (Kd.int .i64) 3 ((w61.setCell ⟨gb196, 0, none⟩ (.slice Ao62 t191.length co62)).setCell ⟨gb196, 1, none⟩ (.int .i64 t194)) w.heap.size (fun k_ => ((P0_ k_ ∨ P1_ k_) ∨ w.heap.size ≤ k_) ∧ some k_ ≠ (u9 : Value).ownBlock ∧ k_ ≠ gb196) (.slice Ao62 t191.length co62) t191) := ⟨by (with_reducible repeat (first | apply Kd.V_alloc | apply Kd.V_drewN | apply Kd.V_drew)); exact Kd.V_mono (Kd.V_far (p := ⟨gb196, 1, none⟩) (Kd.V_far (p := ⟨gb196, 0, none⟩) (Kd.V_mono HO193.out (fun k_ hk => (⟨hk, hk.2.2⟩ : _ ∧ k_ ≠ gb196))) (fun _ hk => hk.2) (.slice Ao62 t191.length co62)) (fun _ hk => hk.2) (.int .i64 t194)) (fun _ hk => ⟨hk.1.1, ⟨hk.1.2.1, hk.1.2.2⟩⟩)⟩
            have n8_ : Aside0 (((w61.setCell ⟨gb196, 0, none⟩ (.slice Ao62 t191.length co62)).setCell ⟨gb196, 1, none⟩ (.int .i64 t194)).heap[gb196]? = some (.cells #[.slice Ao62 t191.length co62, .int .i64 t194] 68 (0, 0))) := ⟨by (with_reducible repeat (first | refine blk_drewN ?_ _ | refine blk_drew ?_ | refine blk_alloc ?_ _)); refine blk_put (cs := #[.slice Ao62 t191.length co62, .int .i64 0]) ?_ 1 _ rfl; (with_reducible repeat (first | refine blk_drewN ?_ _ | refine blk_drew ?_ | refine blk_alloc ?_ _)); refine blk_put (cs := #[.slice none 0 0, .int .i64 0]) ?_ 0 _ rfl; (with_reducible repeat (first | refine blk_drewN ?_ _ | refine blk_drew ?_ | refine blk_alloc ?_ _)); exact BK196.out⟩
            have n9_ : Aside0 (Below w.heap.size w ((w61.setCell ⟨gb196, 0, none⟩ (.slice Ao62 t191.length co62)).setCell ⟨gb196, 1, none⟩ (.int .i64 t194))) := ⟨by repeat (first | (with_reducible first | exact HB.out | apply below_alloc | apply pw_below_drewN | apply below_drew1 | refine below_set ?_ GE196.out) | exact HB.out)⟩
            (try clear HO_0)
            (try clear HO_1)
            (try clear HO_9)
            (try clear HL168_0)
            (try clear HL169_0)
            (try clear HL189_0)
            (try clear HL190_0)
            (try clear HO193)
            (try clear BK196)
            (try clear HB)
            generalize ((w61.setCell ⟨gb196, 0, none⟩ (.slice Ao62 t191.length co62)).setCell ⟨gb196, 1, none⟩ (.int .i64 t194)) = w65 at n0_ n1_ n2_ n3_ n4_ n5_ n6_ n7_ n8_ n9_ ⊢
            have HO_0 := n0_
            have HO_1 := n1_
            have HO_9 := n2_
            have HL168_0 := n3_
            have HL169_0 := n4_
            have HL189_0 := n5_
            have HL190_0 := n6_
            have HO193 := n7_
            have BK196 := n8_
            have HB := n9_
            clear n0_ n1_ n2_ n3_ n4_ n5_ n6_ n7_ n8_ n9_
            have n0_ := Aside0.mk (Kd.V_drew HO_0.out)
            have n1_ := Aside0.mk (Kd.V_drew HO_1.out)
            have n2_ := Aside0.mk (Kd.N_drew HO_9.out)
            have n3_ := Aside0.mk (Kd.V_drew HL168_0.out)
            have n4_ := Aside0.mk (Kd.V_drew HL169_0.out)
            have n5_ := Aside0.mk (Kd.V_drew HL189_0.out)
            have n6_ := Aside0.mk (Kd.V_drew HL190_0.out)
            have n7_ := Aside0.mk (Kd.V_drew HO193.out)
            have n8_ := Aside0.mk (blk_drew BK196.out)
            have n9_ := Aside0.mk (below_drew1 HB.out)
            clear HO_0
            clear HO_1
            clear HO_9
            clear HL168_0
            clear HL169_0
            clear HL189_0
            clear HL190_0
            clear HO193
            clear BK196
            clear HB
            have HO_0 := n0_
            have HO_1 := n1_
            have HO_9 := n2_
            have HL168_0 := n3_
            have HL169_0 := n4_
            have HL189_0 := n5_
            have HL190_0 := n6_
            have HO193 := n7_
            have BK196 := n8_
            have HB := n9_
            clear n0_ n1_ n2_ n3_ n4_ n5_ n6_ n7_ n8_ n9_
            have q67 : (1 : Int) ≤ ((x0_1.length : Int) : Int) := zod
            obtain ⟨i067, hi067, _, hsz67, _⟩ := info_parts info68
            have hroom67 : x0_1.length ≤ co54 := (Kd.V_reads' HO_0.out).2.1
            have hC67 : Kd.F k68 _ _ (some ad168) x0_1.length x0_1 := (Kd.V_at (base := w.heap.size) HO_0.out).2.2
            have hcut67 := cut_from (P := Try.prog) 33 68 .i64 Try.underlying33 hi067 2 hsz67 (some ad168) x0_1.length co54 1 (by omega) q67
            have hr67 := Kd.F_cut (m := (1 : Int).toNat) (c := co54) hC67 (by omega) hroom67
            obtain ⟨A67, hA67⟩ : ∃ A1, A1 = (if co54 = (1 : Int).toNat then (some ad168) else ((some ad168) : Option Addr).map (·.add ((1 : Int).toNat * 2))) := ⟨_, rfl⟩
            obtain ⟨c67, hc67⟩ : ∃ c1, c1 = co54 - (1 : Int).toNat := ⟨_, rfl⟩
            have hy67 : y210.length = x0_1.length - (1 : Int).toNat := (by rw [Ny210.out, List.length_drop] <;> omega)
            rw [show (x0_1).drop (1 : Int).toNat = y210 from Ny210.out.symm] at hr67
            replace hr67 : Kd.F k68 _ _ A67 y210.length y210 := (by rw [hA67]; exact hr67)
            rw [← hy67, ← hA67, ← hc67] at hcut67
            have HO214 := Aside0.mk (show Kd.V k68 68 _ w.heap.size _ (.slice A67 y210.length c67) y210 from Kd.V_mk (by rw [hy67, hc67]; exact Nat.sub_le_sub_right hroom67 _) hr67)
            have HC214 := Aside0.mk (show y210.length ≤ c67 from by rw [hy67, hc67]; exact Nat.sub_le_sub_right hroom67 _)
            clear hr67 hC67 hroom67 hi067 hsz67 hc67
            have KY67 := Aside0.mk hy67
            have KA67 := Aside0.mk hA67
            clear hy67 hA67
            replace q67 := eq_true q67
            have q68 : (1 : Int) ≤ ((x1_1.length : Int) : Int) := zod
            obtain ⟨i068, hi068, _, hsz68, _⟩ := info_parts info68
            have hroom68 : x1_1.length ≤ co55 := (Kd.V_reads' HO_1.out).2.1
            have hC68 : Kd.F k68 _ _ (some ad169) x1_1.length x1_1 := (Kd.V_at (base := w.heap.size) HO_1.out).2.2
            have hcut68 := cut_from (P := Try.prog) 33 68 .i64 Try.underlying33 hi068 2 hsz68 (some ad169) x1_1.length co55 1 (by omega) q68
            have hr68 := Kd.F_cut (m := (1 : Int).toNat) (c := co55) hC68 (by omega) hroom68
            obtain ⟨A68, hA68⟩ : ∃ A1, A1 = (if co55 = (1 : Int).toNat then (some ad169) else ((some ad169) : Option Addr).map (·.add ((1 : Int).toNat * 2))) := ⟨_, rfl⟩
            obtain ⟨c68, hc68⟩ : ∃ c1, c1 = co55 - (1 : Int).toNat := ⟨_, rfl⟩
            have hy68 : y215.length = x1_1.length - (1 : Int).toNat := (by rw [Ny215.out, List.length_drop] <;> omega)
            rw [show (x1_1).drop (1 : Int).toNat = y215 from Ny215.out.symm] at hr68
            replace hr68 : Kd.F k68 _ _ A68 y215.length y215 := (by rw [hA68]; exact hr68)
            rw [← hy68, ← hA68, ← hc68] at hcut68
            have HO219 := Aside0.mk (show Kd.V k68 68 _ w.heap.size _ (.slice A68 y215.length c68) y215 from Kd.V_mk (by rw [hy68, hc68]; exact Nat.sub_le_sub_right hroom68 _) hr68)
            have HC219 := Aside0.mk (show y215.length ≤ c68 from by rw [hy68, hc68]; exact Nat.sub_le_sub_right hroom68 _)
            clear hr68 hC68 hroom68 hi068 hsz68 hc68
            have KY68 := Aside0.mk hy68
            have KA68 := Aside0.mk hA68
            clear hy68 hA68
            replace q68 := eq_true q68
            refine start_ (n := 6) (S := fun w' => True) (ds := []) #[false, false, false, false, false, false] (by kernel_rfl) rfl rfl trivial (fun hHeld => ?_)
            generalize w65.drew = w66 at HO_0 HO_1 HO_9 HL168_0 HL169_0 HL189_0 HL190_0 HO193 BK196 HB HO214 HO219 hHeld ⊢
            refine pure_ (i := 0) (N := some 45) (v := ?_) (a' := ?_) #[true, false, false, false, false, false] rfl rfl (by kernel_rfl) (fun _ _ _ h => h) (Or.inl ⟨by rfl, ?_⟩) ?_ ?_
            rotate_left
            ·intro w'
             go_simp
             with_reducible rfl
            rotate_left
            ·simp only [Act.put, zp1, zp2, zp3, i64_w, i32_w]
             rfl
            refine pure_ (i := 1) (N := some 46) (v := ?_) (a' := ?_) #[true, true, false, false, false, false] rfl rfl (by kernel_rfl) (fun _ _ _ h => h) (Or.inl ⟨by rfl, ?_⟩) ?_ ?_
            rotate_left
            ·intro w'
             go_simp
             with_reducible rfl
            rotate_left
            ·simp only [Act.put, zp1, zp2, zp3, i64_w, i32_w]
             rfl
            refine pure_ (i := 2) (N := some 47) (v := ?_) (a' := ?_) #[true, true, true, false, false, false] rfl rfl (by kernel_rfl) (fun _ _ _ h => h) (Or.inl ⟨by rfl, ?_⟩) ?_ ?_
            rotate_left
            ·intro w'
             go_simp
             with_reducible rfl
            rotate_left
            ·simp only [Act.put, zp1, zp2, zp3, i64_w, i32_w]
             rfl
            refine pure_ (i := 3) (N := some 48) (v := ?_) (a' := ?_) #[true, true, true, true, false, false] rfl rfl (by kernel_rfl) (fun _ _ _ h => h) (Or.inl ⟨by rfl, ?_⟩) ?_ ?_
            rotate_left
            ·intro w'
             go_simp
             with_reducible rfl
            rotate_left
            ·simp only [Act.put, zp1, zp2, zp3, i64_w, i32_w]
             rfl
            refine pure_ (i := 4) (N := some 0) (v := ?_) (a' := ?_) #[true, true, true, true, true, false] rfl rfl (by kernel_rfl) (fun _ _ _ h => h) (Or.inl ⟨by rfl, ?_⟩) ?_ ?_
            rotate_left
            ·intro w'
             go_simp
             with_reducible rfl
            rotate_left
            ·simp only [Act.put, zp1, zp2, zp3, i64_w, i32_w]
             rfl
            refine pure_ (i := 5) (N := some 1) (v := ?_) (a' := ?_) #[true, true, true, true, true, true] rfl rfl (by kernel_rfl) (fun _ _ _ h => h) (Or.inl ⟨by rfl, ?_⟩) ?_ ?_
            rotate_left
            ·intro w'
             go_simp
             with_reducible rfl
            rotate_left
            ·simp only [Act.put, zp1, zp2, zp3, i64_w, i32_w]
             rfl
            refine done_ (by kernel_rfl) ?_
            try go_wp2
            go_roundg k1
            case measure => have := HK1.out; omega
            case rel => exact ⟨(y210), (y215), (x9_1), H', ⟨by have := HK1.out; omega⟩, ⟨by (with_reducible repeat (first | apply Kd.V_alloc | apply Kd.V_drewN | apply Kd.V_drew)); exact Kd.V_mono HO214.out (fun _ hk => ⟨hk.1, hk.2.1⟩)⟩, ⟨by (with_reducible repeat (first | apply Kd.V_alloc | apply Kd.V_drewN | apply Kd.V_drew)); exact Kd.V_mono HO219.out (fun _ hk => ⟨hk.1, hk.2.1⟩)⟩, ⟨by (with_reducible repeat (first | apply Kd.N_alloc | apply Kd.N_drewN | apply Kd.N_drew)); exact Kd.N_mono HO_9.out (fun _ hk => hk.1)⟩, ⟨by repeat (first | (with_reducible first | exact HB.out | apply below_alloc | apply pw_below_drewN | apply below_drew1 | refine below_set ?_ GE196.out) | exact HB.out)⟩⟩
           ·rw [if_neg c53] at H
            exact absurd H (by simp)
          ·rw [if_neg c52] at H
           exact absurd H (by simp)
      ·rw [if_neg c8] at H
       exact absurd H (by simp)
     ·rw [if_neg c7] at H
      exact absurd H (by simp)
    ·rw [if_neg c6] at H
     have c6b0 : decide (0 < (x1_1.length : Int)) = false := decide_eq_false c6
     have c6b1 : decide (0 < x1_1.length) = false := decide_eq_false (by omega)
     clear c6
     by_cases c69 : x9_1.length + x0_1.length < 4398046511104
     ·rw [if_pos c69] at H
      have LMc69 := Aside0.mk c69
      clear c69
      obtain ⟨y220, hy220⟩ : ∃ y_ : List (S68), y_ = (x9_1 ++ x0_1) := ⟨_, rfl⟩
      replace H : (if y220.length + x1_1.length < 4398046511104 then (some (y220 ++ x1_1)) else (none)) = some r := by first | (rw [hy220]; with_reducible exact H) | (have H2_ := (Option.bind_some _ _).symm.trans H; rw [hy220]; with_reducible exact H2_) | (have H2_ := (Option.bind_some _ _).symm.trans H; with_reducible exact H2_) | with_reducible exact H | (rw [hy220]; exact H) | exact H
      have Ny220 := Aside0.mk hy220
      clear hy220
      by_cases c70 : y220.length + x1_1.length < 4398046511104
      ·rw [if_pos c70] at H
       have LMc70 := Aside0.mk c70
       clear c70
       obtain ⟨y223, hy223⟩ : ∃ y_ : List (S68), y_ = (y220 ++ x1_1) := ⟨_, rfl⟩
       replace H : (some y223) = some r := by first | (rw [hy223]; with_reducible exact H) | (have H2_ := (Option.bind_some _ _).symm.trans H; rw [hy223]; with_reducible exact H2_) | (have H2_ := (Option.bind_some _ _).symm.trans H; with_reducible exact H2_) | with_reducible exact H | (rw [hy223]; exact H) | exact H
       have Ny223 := Aside0.mk hy223
       clear hy223
       obtain rfl := Option.some.inj H
       obtain ⟨Ao71, co71, eo71⟩ := Kd.V_slice HO_0.out
       subst eo71
       obtain ⟨Ao72, co72, eo72⟩ := Kd.V_slice HO_1.out
       subst eo72
       go_wp2_with (first | ((with_reducible refine gate_builtin (b := .append) (xs := #[.tmp 71, .tmp 72]) rfl ?_); (try (refine gate_guard (by rfl) ?_; dsimp only)); at_builtin; refine Kd.N_append_rows k68 (w0 := w) w.heap.size rfl (.tmp 71) (.tmp 72) 33 68 (.agg #[(.slice none 0 0), (.int .i64 0)]) 32 rfl Try.underlying33 info68 rfl (by decide) (by omega) u9 x9_1 x0_1 _ _ _ (fun k_ => ((P0_ k_ ∨ P1_ k_) ∨ w.heap.size ≤ k_)) (fun k_ => ((fun k_ => ((P0_ k_ ∨ P1_ k_) ∨ w.heap.size ≤ k_))) k_ ∧ some k_ ≠ (u9 : Value).ownBlock) rfl rfl ?aO ?aR (fun _ hk => hk) ?aF ?aB ?aS ?aL ?_; (case aR => exact (by skip; exact Kd.V_F (Kd.V_mono (ok' := (fun k_ => ((fun k_ => ((P0_ k_ ∨ P1_ k_) ∨ w.heap.size ≤ k_))) k_ ∧ some k_ ≠ (u9 : Value).ownBlock)) (HO_0.out) (fun k_ hk => ⟨hk.1, hk.2⟩)))); (case aB => exact zhb); (case aF => exact (fun k_ hk => (.inr (Nat.le_trans (below_size zhb) hk)))); (case aO => exact (by (with_reducible repeat (first | apply Kd.N_alloc | apply Kd.N_drewN | apply Kd.N_drew)); exact HO_9.out)); (case aS => exact (below_size zhb)); (case aL => have := LMc69.out; omega); intro v221 w73 ho hb hg hat; rw [← Ny220.out] at ho; have n0_ := Aside0.mk (Kd.V_afterv (ok := (fun k_ => ((P0_ k_ ∨ P1_ k_) ∨ w.heap.size ≤ k_))) (by (with_reducible repeat (first | apply Kd.V_alloc | apply Kd.V_drewN | apply Kd.V_drew)); exact HO_0.out) hg hat); have n1_ := Aside0.mk (Kd.V_afterv (ok := (fun k_ => ((P0_ k_ ∨ P1_ k_) ∨ w.heap.size ≤ k_))) (by (with_reducible repeat (first | apply Kd.V_alloc | apply Kd.V_drewN | apply Kd.V_drew)); exact HO_1.out) hg hat); have n2_ := Aside0.mk (hb); have n3_ := Aside0.mk (ho); clear HO_0; clear HO_1; clear HB; clear HO_9; have HO_0 := n0_; have HO_1 := n1_; have HB := n2_; have HO222 := n3_; clear n0_ n1_ n2_ n3_; clear ho hb hg hat) | ((with_reducible refine gate_builtin (b := .append) (xs := #[.tmp 73, .tmp 74]) rfl ?_); (try (refine gate_guard (by rfl) ?_; dsimp only)); at_builtin; refine Kd.N_append_rows k68 (w0 := w) w.heap.size rfl (.tmp 73) (.tmp 74) 33 68 (.agg #[(.slice none 0 0), (.int .i64 0)]) 32 rfl Try.underlying33 info68 rfl (by decide) (by omega) v221 y220 x1_1 _ _ _ (fun k_ => ((P0_ k_ ∨ P1_ k_) ∨ w.heap.size ≤ k_)) (fun k_ => ((fun k_ => ((P0_ k_ ∨ P1_ k_) ∨ w.heap.size ≤ k_))) k_ ∧ some k_ ≠ (v221 : Value).ownBlock) rfl rfl ?aO ?aR (fun _ hk => hk) ?aF ?aB ?aS ?aL ?_; (case aR => exact (by skip; exact Kd.V_F (Kd.V_mono (ok' := (fun k_ => ((fun k_ => ((P0_ k_ ∨ P1_ k_) ∨ w.heap.size ≤ k_))) k_ ∧ some k_ ≠ (v221 : Value).ownBlock)) (HO_1.out) (fun k_ hk => ⟨hk.1, hk.2⟩)))); (case aB => exact zhb); (case aF => exact (fun k_ hk => (.inr (Nat.le_trans (below_size zhb) hk)))); (case aO => exact (by (with_reducible repeat (first | apply Kd.N_alloc | apply Kd.N_drewN | apply Kd.N_drew)); exact HO222.out)); (case aS => exact (below_size zhb)); (case aL => have := LMc70.out; omega); intro v224 w74 ho hb hg hat; rw [← Ny223.out] at ho; have n0_ := Aside0.mk (Kd.V_afterv (ok := (fun k_ => ((P0_ k_ ∨ P1_ k_) ∨ w.heap.size ≤ k_))) (by (with_reducible repeat (first | apply Kd.V_alloc | apply Kd.V_drewN | apply Kd.V_drew)); exact HO_0.out) hg hat); have n1_ := Aside0.mk (Kd.V_afterv (ok := (fun k_ => ((P0_ k_ ∨ P1_ k_) ∨ w.heap.size ≤ k_))) (by (with_reducible repeat (first | apply Kd.V_alloc | apply Kd.V_drewN | apply Kd.V_drew)); exact HO_1.out) hg hat); have n2_ := Aside0.mk (hb); have n3_ := Aside0.mk (ho); clear HO_0; clear HO_1; clear HB; clear HO222; have HO_0 := n0_; have HO_1 := n1_; have HB := n2_; have HO225 := n3_; clear n0_ n1_ n2_ n3_; clear ho hb hg hat))
       go_ret
       exact ⟨_, by first | rfl | (simp [errW_none, errW_some] <;> rfl) | (simp [*, errW_none, errW_some] <;> rfl), by (with_reducible repeat (first | apply Kd.N_alloc | apply Kd.N_drewN | apply Kd.N_drew)); exact HO225.out, zhb⟩
      ·rw [if_neg c70] at H
       exact absurd H (by simp)
     ·rw [if_neg c69] at H
      exact absurd H (by simp)
   ·rw [if_neg c5] at H
    have c5b0 : decide (0 < (x0_1.length : Int)) = false := decide_eq_false c5
    have c5b1 : decide (0 < x0_1.length) = false := decide_eq_false (by omega)
    clear c5
    by_cases c75 : x9_1.length + x0_1.length < 4398046511104
    ·rw [if_pos c75] at H
     have LMc75 := Aside0.mk c75
     clear c75
     obtain ⟨y226, hy226⟩ : ∃ y_ : List (S68), y_ = (x9_1 ++ x0_1) := ⟨_, rfl⟩
     replace H : (if y226.length + x1_1.length < 4398046511104 then (some (y226 ++ x1_1)) else (none)) = some r := by first | (rw [hy226]; with_reducible exact H) | (have H2_ := (Option.bind_some _ _).symm.trans H; rw [hy226]; with_reducible exact H2_) | (have H2_ := (Option.bind_some _ _).symm.trans H; with_reducible exact H2_) | with_reducible exact H | (rw [hy226]; exact H) | exact H
     have Ny226 := Aside0.mk hy226
     clear hy226
     by_cases c76 : y226.length + x1_1.length < 4398046511104
     ·rw [if_pos c76] at H
      have LMc76 := Aside0.mk c76
      clear c76
      obtain ⟨y229, hy229⟩ : ∃ y_ : List (S68), y_ = (y226 ++ x1_1) := ⟨_, rfl⟩
      replace H : (some y229) = some r := by first | (rw [hy229]; with_reducible exact H) | (have H2_ := (Option.bind_some _ _).symm.trans H; rw [hy229]; with_reducible exact H2_) | (have H2_ := (Option.bind_some _ _).symm.trans H; with_reducible exact H2_) | with_reducible exact H | (rw [hy229]; exact H) | exact H
      have Ny229 := Aside0.mk hy229
      clear hy229
      obtain rfl := Option.some.inj H
      obtain ⟨Ao77, co77, eo77⟩ := Kd.V_slice HO_0.out
      subst eo77
      go_wp2_with (first | ((with_reducible refine gate_builtin (b := .append) (xs := #[.tmp 71, .tmp 72]) rfl ?_); (try (refine gate_guard (by rfl) ?_; dsimp only)); at_builtin; refine Kd.N_append_rows k68 (w0 := w) w.heap.size rfl (.tmp 71) (.tmp 72) 33 68 (.agg #[(.slice none 0 0), (.int .i64 0)]) 32 rfl Try.underlying33 info68 rfl (by decide) (by omega) u9 x9_1 x0_1 _ _ _ (fun k_ => ((P0_ k_ ∨ P1_ k_) ∨ w.heap.size ≤ k_)) (fun k_ => ((fun k_ => ((P0_ k_ ∨ P1_ k_) ∨ w.heap.size ≤ k_))) k_ ∧ some k_ ≠ (u9 : Value).ownBlock) rfl rfl ?aO ?aR (fun _ hk => hk) ?aF ?aB ?aS ?aL ?_; (case aR => exact (by skip; exact Kd.V_F (Kd.V_mono (ok' := (fun k_ => ((fun k_ => ((P0_ k_ ∨ P1_ k_) ∨ w.heap.size ≤ k_))) k_ ∧ some k_ ≠ (u9 : Value).ownBlock)) (HO_0.out) (fun k_ hk => ⟨hk.1, hk.2⟩)))); (case aB => exact zhb); (case aF => exact (fun k_ hk => (.inr (Nat.le_trans (below_size zhb) hk)))); (case aO => exact (by (with_reducible repeat (first | apply Kd.N_alloc | apply Kd.N_drewN | apply Kd.N_drew)); exact HO_9.out)); (case aS => exact (below_size zhb)); (case aL => have := LMc75.out; omega); intro v227 w78 ho hb hg hat; rw [← Ny226.out] at ho; have n0_ := Aside0.mk (Kd.V_afterv (ok := (fun k_ => ((P0_ k_ ∨ P1_ k_) ∨ w.heap.size ≤ k_))) (by (with_reducible repeat (first | apply Kd.V_alloc | apply Kd.V_drewN | apply Kd.V_drew)); exact HO_0.out) hg hat); have n1_ := Aside0.mk (Kd.V_afterv (ok := (fun k_ => ((P0_ k_ ∨ P1_ k_) ∨ w.heap.size ≤ k_))) (by (with_reducible repeat (first | apply Kd.V_alloc | apply Kd.V_drewN | apply Kd.V_drew)); exact HO_1.out) hg hat); have n2_ := Aside0.mk (hb); have n3_ := Aside0.mk (ho); clear HO_0; clear HO_1; clear HB; clear HO_9; have HO_0 := n0_; have HO_1 := n1_; have HB := n2_; have HO228 := n3_; clear n0_ n1_ n2_ n3_; clear ho hb hg hat; obtain ⟨Ao80, co80, eo80⟩ := Kd.V_slice HO_1.out; subst eo80) | ((with_reducible refine gate_builtin (b := .append) (xs := #[.tmp 73, .tmp 74]) rfl ?_); (try (refine gate_guard (by rfl) ?_; dsimp only)); at_builtin; refine Kd.N_append_rows k68 (w0 := w) w.heap.size rfl (.tmp 73) (.tmp 74) 33 68 (.agg #[(.slice none 0 0), (.int .i64 0)]) 32 rfl Try.underlying33 info68 rfl (by decide) (by omega) v227 y226 x1_1 _ _ _ (fun k_ => ((P0_ k_ ∨ P1_ k_) ∨ w.heap.size ≤ k_)) (fun k_ => ((fun k_ => ((P0_ k_ ∨ P1_ k_) ∨ w.heap.size ≤ k_))) k_ ∧ some k_ ≠ (v227 : Value).ownBlock) rfl rfl ?aO ?aR (fun _ hk => hk) ?aF ?aB ?aS ?aL ?_; (case aR => exact (by skip; exact Kd.V_F (Kd.V_mono (ok' := (fun k_ => ((fun k_ => ((P0_ k_ ∨ P1_ k_) ∨ w.heap.size ≤ k_))) k_ ∧ some k_ ≠ (v227 : Value).ownBlock)) (HO_1.out) (fun k_ hk => ⟨hk.1, hk.2⟩)))); (case aB => exact zhb); (case aF => exact (fun k_ hk => (.inr (Nat.le_trans (below_size zhb) hk)))); (case aO => exact (by (with_reducible repeat (first | apply Kd.N_alloc | apply Kd.N_drewN | apply Kd.N_drew)); exact HO228.out)); (case aS => exact (below_size zhb)); (case aL => have := LMc76.out; omega); intro v230 w79 ho hb hg hat; rw [← Ny229.out] at ho; have n0_ := Aside0.mk (Kd.V_afterv (ok := (fun k_ => ((P0_ k_ ∨ P1_ k_) ∨ w.heap.size ≤ k_))) (by (with_reducible repeat (first | apply Kd.V_alloc | apply Kd.V_drewN | apply Kd.V_drew)); exact HO_0.out) hg hat); have n1_ := Aside0.mk (Kd.V_afterv (ok := (fun k_ => ((P0_ k_ ∨ P1_ k_) ∨ w.heap.size ≤ k_))) (by (with_reducible repeat (first | apply Kd.V_alloc | apply Kd.V_drewN | apply Kd.V_drew)); exact HO_1.out) hg hat); have n2_ := Aside0.mk (hb); have n3_ := Aside0.mk (ho); clear HO_0; clear HO_1; clear HB; clear HO228; have HO_0 := n0_; have HO_1 := n1_; have HB := n2_; have HO231 := n3_; clear n0_ n1_ n2_ n3_; clear ho hb hg hat))
      go_ret
      exact ⟨_, by first | rfl | (simp [errW_none, errW_some] <;> rfl) | (simp [*, errW_none, errW_some] <;> rfl), by (with_reducible repeat (first | apply Kd.N_alloc | apply Kd.N_drewN | apply Kd.N_drew)); exact HO231.out, zhb⟩
     ·rw [if_neg c76] at H
      exact absurd H (by simp)
    ·rw [if_neg c75] at H
     exact absurd H (by simp)

end Go.Proofs.Ytpbmabfodfcfmaa.PFnZGet
