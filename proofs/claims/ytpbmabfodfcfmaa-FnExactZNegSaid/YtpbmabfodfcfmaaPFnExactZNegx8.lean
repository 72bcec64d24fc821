-- Written by wip/tools/pp.py, a program of this session over the kit's printer: not the kit's own print
import Derived.Test.YtpbmabfodfcfmaaPFnExactZNegx0
import Derived.Test.YtpbmabfodfcfmaaPFnExactZNegx1
import Derived.Test.YtpbmabfodfcfmaaPFnExactZNegx2
import Derived.Test.YtpbmabfodfcfmaaPFnExactZNegx4
import Derived.Test.YtpbmabfodfcfmaaPFnExactZNegx7
namespace Go.Proofs.Ytpbmabfodfcfmaa.PFnExactZNeg
open Go.RowKit Go.Proofs.YtpbmabfodfcfmaaW.PrintWords Go.Proofs.YtpbmabfodfcfmaaW.PrintLast Go.Proofs.YtpbmabfodfcfmaaW.PrintMore
attribute [local go_sem] max2_int min2_int max_two min_two max_three min_three max_four min_four   -- for this text's walks alone
set_option linter.unusedVariables false
set_option linter.unusedSimpArgs false

/-! ### laws_heldItemS: function 38 -/
def laws_heldItemS.l0 : Nat → List (S68) → Int → Int → Option (Int)
 | 0, _, _, _ => none
 | k + 1, x0, x1, x5 => if x5 < (x0.length : Int) then (if 0 ≤ x5 then ((laws_heldIntS.f k ((rd_T68 x0 x5).f0) x1).bind fun t197 => (if t197 < 0 then (some (-1)) else (if ((rd_T68 x0 x5).f1) = t197 then (laws_heldItemS.l0 k x0 (wrap64 (t197 + 1)) (wrap64 (x5 + 1))) else (some (-1))))) else (none)) else (some x1)
def laws_heldItemS.f (k : Nat) (l0 : List (S68)) (a1 : Int) : Option (Int) := laws_heldItemS.l0 k l0 a1 0
theorem laws_heldItemS.mono_l : ∀ k, (∀ y0 y1 y2, LeO (laws_heldItemS.l0 k y0 y1 y2) (laws_heldItemS.l0 (k + 1) y0 y1 y2))
 | 0 => fun _ _ _ r h => by simp [laws_heldItemS.l0] at h
 | k + 1 => by
  have ih0 := laws_heldItemS.mono_l k
  ·intro y0 y1 y2
   unfold laws_heldItemS.l0
   repeat' first
   | (with_reducible exact ih0 _ _ _)
   | (with_reducible exact laws_heldIntS.mono _ _ _)
   | (with_reducible exact LeO.refl _)
   | (with_reducible exact LeO.none _)
   | (with_reducible refine LeO.ite ?_ ?_)
   | (with_reducible refine LeO.bind ?_ (fun _ => ?_))
   | exact LeO.none _
   | refine LeO.ite ?_ ?_
   | refine LeO.bind ?_ (fun _ => ?_)
theorem laws_heldItemS.mono : ∀ a0 a1 k, LeO (laws_heldItemS.f k a0 a1) (laws_heldItemS.f (k + 1) a0 a1) := by
 intro a0 a1 k
 have ih0 := laws_heldItemS.mono_l k
 unfold laws_heldItemS.f
 repeat' first
   | (with_reducible exact ih0 _ _ _)
   | (with_reducible exact laws_heldIntS.mono _ _ _)
   | (with_reducible exact LeO.refl _)
   | (with_reducible exact LeO.none _)
   | (with_reducible refine LeO.ite ?_ ?_)
   | (with_reducible refine LeO.bind ?_ (fun _ => ?_))
   | exact LeO.none _
   | refine LeO.ite ?_ ?_
   | refine LeO.bind ?_ (fun _ => ?_)
set_option maxHeartbeats 8000000 in
set_option maxRecDepth 100000 in
theorem laws_heldItemS.calls (k : Nat) (A0 : Option Addr) (c0 : Nat) (l0 : List (S68)) (a1 : Int) (r : Int) (w : World) (hr0 : Kd.C k68 w A0 l0.length l0) (hc0 : l0.length ≤ c0) (h : laws_heldItemS.f k l0 a1 = some r) :
  Calls Try.prog 38 #[.slice A0 l0.length c0, .int .i64 a1] w fun e w' => e = .returned (.int .i64 r) ∧ Drawn0 w w' := by
 have HR0 := Aside0.mk hr0
 have HC0 := Aside0.mk hc0
 clear hr0 hc0
 have H : (laws_heldItemS.l0 k l0 a1 0) = some r := h
 clear h
 have H' := Aside0.mk H
 clear H
 go_enter Try.func38, Try.ntmps38
 go_wp2
 go_loopg [1, 5] k (fun kq v1 v5 w' => ∃ (x1_1 : Int) (x5_1 : Int), v1 = .int .i64 x1_1 ∧ v5 = .int .i64 x5_1 ∧ Aside0 (laws_heldItemS.l0 kq l0 x1_1 x5_1 = some r) ∧ Aside0 (kq ≤ k) ∧ Drawn0 w w')
 case atStart => exact ⟨(a1), (0), (by first | rfl | (simp; done) | (simp [*]; done)), (by first | rfl | (simp; done) | (simp [*]; done)), H', ⟨Nat.le_refl _⟩, zdw⟩
 case round =>
  clear H'
  try clear p2
  obtain ⟨x1_1, x5_1, rfl, rfl, HA, HK1, ⟨m1, rfl⟩⟩ := hrel
  cases gk with
  | zero => exact absurd HA.out (by simp [laws_heldItemS.l0])
  | succ k1 =>
   have H := HA.out
   clear HA
   simp only [laws_heldItemS.l0] at H
   by_cases c3 : x5_1 < (l0.length : Int)
   ·rw [if_pos c3] at H
    have c3b0 : decide (x5_1 < (l0.length : Int)) = true := decide_eq_true c3
    clear c3
    by_cases c4 : 0 ≤ x5_1
    ·rw [if_pos c4] at H
     have c4b0 : decide (0 ≤ x5_1) = true := decide_eq_true c4
     clear c4
     replace H := Option.bind_eq_some_iff.mp H
     obtain ⟨t197, A50, H⟩ := H
     replace H : (if t197 < 0 then (some (-1)) else (if ((rd_T68 l0 x5_1).f1) = t197 then (laws_heldItemS.l0 k1 l0 (wrap64 (t197 + 1)) (wrap64 (x5_1 + 1))) else (some (-1)))) = some r := H
     have A5 := Aside0.mk A50
     clear A50
     by_cases c6 : t197 < 0
     ·rw [if_pos c6] at H
      have c6b0 : decide (t197 < 0) = true := decide_eq_true c6
      clear c6
      obtain rfl := Option.some.inj H
      have p196 : 0 ≤ (x5_1 : Int) := zod
      have q196 : x5_1 < (l0.length : Int) := zod
      obtain ⟨ad196, A196_0, c196_0, e196, hx196_0, hx196_1, hl196_0, hi196_0⟩ := at_T68 HR0.out x5_1 p196 q196
      cases e196
      have HR196_0 := Aside0.mk hi196_0
      have HC196_0 := Aside0.mk hl196_0
      clear hi196_0 hl196_0
      replace p196 := eq_true p196
      replace q196 := eq_true q196
      go_wp2_with (first | ((with_reducible refine gate_callee (f := 80) rfl ?_); refine goesL_ (some 18) rfl rfl Try.func80 (by kernel_rfl) rfl #[.slice A196_0 ((rd_T68 l0 x5_1).f0).length c196_0, .int .i64 x1_1] rfl zar ?_; (with_reducible refine (laws_heldIntS.calls k1 _ _ ((rd_T68 l0 x5_1).f0) x1_1 t197 _ ?side1 ?side2 A5.out).mono ?_); (case side1 => repeat (first | exact HR196_0.out | (with_reducible refine Kd.C_alloc ?_ _) | (with_reducible refine Kd.C_drewN ?_ _) | (with_reducible refine Kd.C_drew ?_))); (case side2 => exact HC196_0.out); rintro e w' ⟨rfl, ⟨nd, rfl⟩⟩; refine ⟨_, rfl, ?_⟩))
      go_ret
      exact ⟨by first | rfl | (simp; done) | (simp [*]; done), zdw⟩
     ·rw [if_neg c6] at H
      have c6b0 : decide (t197 < 0) = false := decide_eq_false c6
      clear c6
      by_cases c7 : ((rd_T68 l0 x5_1).f1) = t197
      ·rw [if_pos c7] at H
       have c7b0 : (((rd_T68 l0 x5_1).f1) == t197) = true := beq_iff_eq.mpr c7
       have c7b1 : (((rd_T68 l0 x5_1).f1) != t197) = false := bne_eq_false_iff_eq.mpr c7
       clear c7
       have H' := Aside0.mk H
       clear H
       have p196 : 0 ≤ (x5_1 : Int) := zod
       have q196 : x5_1 < (l0.length : Int) := zod
       obtain ⟨ad196, A196_0, c196_0, e196, hx196_0, hx196_1, hl196_0, hi196_0⟩ := at_T68 HR0.out x5_1 p196 q196
       cases e196
       have HR196_0 := Aside0.mk hi196_0
       have HC196_0 := Aside0.mk hl196_0
       clear hi196_0 hl196_0
       replace p196 := eq_true p196
       replace q196 := eq_true q196
       go_wp2_with (first | ((with_reducible refine gate_callee (f := 80) rfl ?_); refine goesL_ (some 18) rfl rfl Try.func80 (by kernel_rfl) rfl #[.slice A196_0 ((rd_T68 l0 x5_1).f0).length c196_0, .int .i64 x1_1] rfl zar ?_; (with_reducible refine (laws_heldIntS.calls k1 _ _ ((rd_T68 l0 x5_1).f0) x1_1 t197 _ ?side1 ?side2 A5.out).mono ?_); (case side1 => repeat (first | exact HR196_0.out | (with_reducible refine Kd.C_alloc ?_ _) | (with_reducible refine Kd.C_drewN ?_ _) | (with_reducible refine Kd.C_drew ?_))); (case side2 => exact HC196_0.out); rintro e w' ⟨rfl, ⟨nd, rfl⟩⟩; refine ⟨_, rfl, ?_⟩; have p198 : 0 ≤ (x5_1 : Int) := zod; have q198 : x5_1 < (l0.length : Int) := zod; obtain ⟨ad198, A198_0, c198_0, e198, hx198_0, hx198_1, hl198_0, hi198_0⟩ := at_T68 HR0.out x5_1 p198 q198; obtain rfl : ad196 = ad198 := (by injection e198); have HR198_0 := Aside0.mk hi198_0; have HC198_0 := Aside0.mk hl198_0; clear hi198_0 hl198_0; replace p198 := eq_true p198; replace q198 := eq_true q198; have ea_ := Option.some.inj (hx196_0.symm.trans hx198_0); injection ea_ with ea_ en_ ec_; subst ea_; subst ec_; clear en_))
       go_roundg k1
       case measure => have := HK1.out; omega
       case rel => exact ⟨(wrap64 (t197 + 1)), (wrap64 (x5_1 + 1)), (by first | rfl | (simp; done) | (simp [*]; done)), (by first | rfl | (simp; done) | (simp [*]; done)), H', ⟨by have := HK1.out; omega⟩, zdw⟩
      ·rw [if_neg c7] at H
       have c7b0 : (((rd_T68 l0 x5_1).f1) == t197) = false := beq_eq_false_iff_ne.mpr c7
       have c7b1 : (((rd_T68 l0 x5_1).f1) != t197) = true := bne_iff_ne.mpr c7
       obtain rfl := Option.some.inj H
       have p196 : 0 ≤ (x5_1 : Int) := zod
       have q196 : x5_1 < (l0.length : Int) := zod
       obtain ⟨ad196, A196_0, c196_0, e196, hx196_0, hx196_1, hl196_0, hi196_0⟩ := at_T68 HR0.out x5_1 p196 q196
       cases e196
       have HR196_0 := Aside0.mk hi196_0
       have HC196_0 := Aside0.mk hl196_0
       clear hi196_0 hl196_0
       replace p196 := eq_true p196
       replace q196 := eq_true q196
       go_wp2_with (first | ((with_reducible refine gate_callee (f := 80) rfl ?_); refine goesL_ (some 18) rfl rfl Try.func80 (by kernel_rfl) rfl #[.slice A196_0 ((rd_T68 l0 x5_1).f0).length c196_0, .int .i64 x1_1] rfl zar ?_; (with_reducible refine (laws_heldIntS.calls k1 _ _ ((rd_T68 l0 x5_1).f0) x1_1 t197 _ ?side1 ?side2 A5.out).mono ?_); (case side1 => repeat (first | exact HR196_0.out | (with_reducible refine Kd.C_alloc ?_ _) | (with_reducible refine Kd.C_drewN ?_ _) | (with_reducible refine Kd.C_drew ?_))); (case side2 => exact HC196_0.out); rintro e w' ⟨rfl, ⟨nd, rfl⟩⟩; refine ⟨_, rfl, ?_⟩; have p198 : 0 ≤ (x5_1 : Int) := zod; have q198 : x5_1 < (l0.length : Int) := zod; obtain ⟨ad198, A198_0, c198_0, e198, hx198_0, hx198_1, hl198_0, hi198_0⟩ := at_T68 HR0.out x5_1 p198 q198; obtain rfl : ad196 = ad198 := (by injection e198); have HR198_0 := Aside0.mk hi198_0; have HC198_0 := Aside0.mk hl198_0; clear hi198_0 hl198_0; replace p198 := eq_true p198; replace q198 := eq_true q198; have ea_ := Option.some.inj (hx196_0.symm.trans hx198_0); injection ea_ with ea_ en_ ec_; subst ea_; subst ec_; clear en_))
       go_ret
       exact ⟨by first | rfl | (simp; done) | (simp [*]; done), zdw⟩
    ·rw [if_neg c4] at H
     exact absurd H (by simp)
   ·rw [if_neg c3] at H
    have c3b0 : decide (x5_1 < (l0.length : Int)) = false := decide_eq_false c3
    clear c3
    obtain rfl := Option.some.inj H
    go_wp2
    go_ret
    exact ⟨by first | rfl | (simp; done) | (simp [*]; done), zdw⟩

/-! ### laws_FnExactZNeg: function 7 (by hand) -/
def laws_FnExactZNeg.f (k : Nat) (l0 : List (S78)) : Option Bool :=
 (laws_szItemS.f k l0 1048576).bind fun s0 => (if s0 < 0 then (some true) else ((laws_toItemS.f k l0).bind fun t0 => ((spec_ZNeg.f k t0).bind fun z0 => ((laws_toItemS.f k l0).bind fun x0 => ((impl_ZNeg.f k x0).bind fun g0 => ((laws_eqItemS.f k g0 z0).bind fun e0 => (if e0 = true then ((laws_toItemS.f k l0).bind fun u0 => ((laws_eqItemS.f k x0 u0).bind fun f0 => (if f0 = true then ((laws_markItemS.f k x0 1).bind fun p8 => ((if p8.1 < 0 then (some false) else ((laws_eqItemS.f k g0 z0).bind fun e1 => (if e1 = true then ((laws_markItemS.f k g0 1).bind fun p11 => ((laws_heldItemS.f k p11.2 1).bind fun q0 => (if q0 < 0 then (some false) else (if q0 = p11.1 then ((laws_toItemS.f k l0).bind fun h0 => ((impl_ZNeg.f k h0).bind fun y0 => ((laws_eqItemS.f k y0 z0).bind fun e2 => (if e2 = true then ((laws_heldItemS.f k p11.2 1).bind fun q1 => (if q1 < 0 then (some false) else (if q1 = p11.1 then (some true) else (some false)))) else (some false))))) else (some false))))) else (some false)))))) else (some false)))) else (some false))))))))
theorem ex_new {W W' : World} {n0 : Nat} {v : Value} {l : List (S68)} (h : Kd.S k68 68 W' W.heap.size (fun _ => True) v l) (hn : n0 ≤ W.heap.size) : Kd.S k68 68 W' n0 (fun k => W.heap.size ≤ k ∧ k < W'.heap.size) v l :=
 Kd.S_lower (Kd.S_mono (Kd.S_bound h) (fun _ hk => ⟨hk.2.1, hk.2.2.1⟩)) hn
theorem ex_drawn {W W' : World} (h : Drawn0 W W') : Below W.heap.size W W' := by
 obtain ⟨n, rfl⟩ := h
 exact pw_below_drewN (Below.refl _ _) n
theorem ex_read {W : World} {A : Option Addr} {l : List (S68)} (h : Kd.C k68 W A l.length l) : Kd.F k68 W (fun k => k < W.heap.size) A l.length l := Kd.C_F k68_heap h
set_option maxHeartbeats 8000000 in
set_option maxRecDepth 100000 in
theorem laws_FnExactZNeg.calls (k : Nat) (A0 : Option Addr) (c0 : Nat) (l0 : List (S78)) (r : Bool) (w : World) (hr0 : Kd.C k78 w A0 l0.length l0) (hc0 : l0.length ≤ c0) (h : laws_FnExactZNeg.f k l0 = some r) (hr_ : r = true) :
  Calls Try.prog 7 #[.slice A0 l0.length c0] w fun e w' => e = .returned (.bool r) ∧ Below w.heap.size w w' := by
 subst hr_
 unfold laws_FnExactZNeg.f at h
 have HA0 := Aside0.mk (Kd.C_F k78_heap hr0)
 have HC0 := Aside0.mk hc0
 clear hr0 hc0
 have HB := Aside0.mk (Below.refl w.heap.size w)
 obtain ⟨s0, h_, h⟩ := Option.bind_eq_some_iff.mp h
 have A_1 := Aside0.mk h_
 clear h_
 by_cases cc0 : s0 < 0
 ·have c0b : decide (s0 < 0) = true := decide_eq_true cc0
  clear h cc0
  go_enter Try.func7, Try.ntmps7
  go_wp2_with fail
  refine (laws_szItemS.calls k _ _ l0 1048576 s0 _ (Kd.F_now HA0.out) HC0.out A_1.out).mono ?_
  rintro e y0 ⟨rfl, hd⟩
  have hb : Below w.heap.size w y0 := by first | exact hd | exact ex_drawn hd
  have HA0 := Aside0.mk (Kd.F_below HA0.out hb)
  have HB := Aside0.mk (below_step HB.out hb)
  clear hb hd
  go_wp2
  go_ret
  exact ⟨rfl, HB.out⟩
 rw [if_neg cc0] at h
 have c0b : decide (s0 < 0) = false := decide_eq_false cc0
 clear cc0
 obtain ⟨t0, h_, h⟩ := Option.bind_eq_some_iff.mp h
 have A_2 := Aside0.mk h_
 clear h_
 obtain ⟨z0, h_, h⟩ := Option.bind_eq_some_iff.mp h
 have A_3 := Aside0.mk h_
 clear h_
 obtain ⟨x0, h_, h⟩ := Option.bind_eq_some_iff.mp h
 have A_4 := Aside0.mk h_
 clear h_
 obtain ⟨g0, h_, h⟩ := Option.bind_eq_some_iff.mp h
 have A_5 := Aside0.mk h_
 clear h_
 obtain ⟨e0, h_, h⟩ := Option.bind_eq_some_iff.mp h
 have A_6 := Aside0.mk h_
 clear h_
 cases e0 with
 | false => rw [if_neg (by decide)] at h; cases h
 | true =>
 rw [if_pos rfl] at h
 obtain ⟨u0, h_, h⟩ := Option.bind_eq_some_iff.mp h
 have A_7 := Aside0.mk h_
 clear h_
 obtain ⟨f0, h_, h⟩ := Option.bind_eq_some_iff.mp h
 have A_8 := Aside0.mk h_
 clear h_
 cases f0 with
 | false => rw [if_neg (by decide)] at h; cases h
 | true =>
 rw [if_pos rfl] at h
 obtain ⟨⟨k0, x0_8⟩, h_, h⟩ := Option.bind_eq_some_iff.mp h
 have A_9 := Aside0.mk h_
 clear h_
 dsimp only at h
 by_cases cc9 : k0 < 0
 case pos => rw [if_pos cc9] at h; cases h
 rw [if_neg cc9] at h
 have c9b : decide (k0 < 0) = false := decide_eq_false cc9
 clear cc9
 obtain ⟨e1, h_, h⟩ := Option.bind_eq_some_iff.mp h
 have A_10 := Aside0.mk h_
 clear h_
 cases e1 with
 | false => rw [if_neg (by decide)] at h; cases h
 | true =>
 rw [if_pos rfl] at h
 obtain ⟨⟨m, g0_11⟩, h_, h⟩ := Option.bind_eq_some_iff.mp h
 have A_11 := Aside0.mk h_
 clear h_
 dsimp only at h
 obtain ⟨q0, h_, h⟩ := Option.bind_eq_some_iff.mp h
 have A_12 := Aside0.mk h_
 clear h_
 by_cases cc12 : q0 < 0
 case pos => rw [if_pos cc12] at h; cases h
 rw [if_neg cc12] at h
 have c12b : decide (q0 < 0) = false := decide_eq_false cc12
 clear cc12
 by_cases g12 : q0 = m
 case neg => rw [if_neg g12] at h; cases h
 rw [if_pos g12] at h
 have g12b : (q0 == m) = true := beq_iff_eq.mpr g12
 have g12c : (q0 != m) = false := bne_eq_false_iff_eq.mpr g12
 clear g12
 obtain ⟨h0, h_, h⟩ := Option.bind_eq_some_iff.mp h
 have A_13 := Aside0.mk h_
 clear h_
 obtain ⟨y0, h_, h⟩ := Option.bind_eq_some_iff.mp h
 have A_14 := Aside0.mk h_
 clear h_
 obtain ⟨e2, h_, h⟩ := Option.bind_eq_some_iff.mp h
 have A_15 := Aside0.mk h_
 clear h_
 cases e2 with
 | false => rw [if_neg (by decide)] at h; cases h
 | true =>
 rw [if_pos rfl] at h
 obtain ⟨q1, h_, h⟩ := Option.bind_eq_some_iff.mp h
 have A_16 := Aside0.mk h_
 clear h_
 by_cases cc16 : q1 < 0
 case pos => rw [if_pos cc16] at h; cases h
 rw [if_neg cc16] at h
 have c16b : decide (q1 < 0) = false := decide_eq_false cc16
 clear cc16
 by_cases g16 : q1 = m
 case neg => rw [if_neg g16] at h; cases h
 rw [if_pos g16] at h
 have g16b : (q1 == m) = true := beq_iff_eq.mpr g16
 have g16c : (q1 != m) = false := bne_eq_false_iff_eq.mpr g16
 clear g16
 clear h
 go_enter Try.func7, Try.ntmps7
 go_wp2_with fail
 refine (laws_szItemS.calls k _ _ l0 1048576 s0 _ (Kd.F_now HA0.out) HC0.out A_1.out).mono ?_
 rintro e w1 ⟨rfl, hd⟩
 have hb : Below w.heap.size w w1 := by first | exact hd | exact ex_drawn hd
 have HN0 := Aside0.mk hb.size
 have n0_ := Aside0.mk (Kd.F_below HA0.out hb)
 clear HA0
 have HA0 := n0_
 clear n0_
 have HB := Aside0.mk (below_step HB.out hb)
 clear hb hd
 go_wp2_with fail
 refine (laws_toItemS.calls k _ _ l0 t0 _ (Kd.F_now HA0.out) HC0.out A_2.out).mono ?_
 rintro e w2 ⟨v_t0, rfl, ho, hb⟩
 obtain ⟨a_t0, c_t0, rfl⟩ := Kd.S_slice ho
 have HN1 := Aside0.mk hb.size
 have n0_ := Aside0.mk (Kd.F_below HA0.out hb)
 clear HA0
 have HA0 := n0_
 clear n0_
 have HX_t0 := Aside0.mk (ex_read (Kd.S_reads' ho).2.2)
 have HP_t0 := Aside0.mk (Kd.S_reads' ho).2.1
 have HB := Aside0.mk (below_step HB.out hb)
 clear ho hb
 go_wp2_with fail
 refine (spec_ZNeg.calls k _ _ t0 z0 _ (Kd.F_now HX_t0.out) HP_t0.out A_3.out).mono ?_
 rintro e w3 ⟨v_z0, rfl, ho, hb⟩
 obtain ⟨a_z0, c_z0, rfl⟩ := Kd.S_slice ho
 have HN2 := Aside0.mk hb.size
 have n0_ := Aside0.mk (Kd.F_below HA0.out hb)
 have n1_ := Aside0.mk (Kd.F_below HX_t0.out hb)
 clear HA0
 clear HX_t0
 have HA0 := n0_
 have HX_t0 := n1_
 clear n0_ n1_
 have HX_z0 := Aside0.mk (ex_read (Kd.S_reads' ho).2.2)
 have HP_z0 := Aside0.mk (Kd.S_reads' ho).2.1
 have HB := Aside0.mk (below_step HB.out hb)
 clear ho hb
 clear HX_t0 HP_t0
 go_wp2_with fail
 refine (laws_toItemS.calls k _ _ l0 x0 _ (Kd.F_now HA0.out) HC0.out A_4.out).mono ?_
 rintro e w4 ⟨v_x0, rfl, ho, hb⟩
 obtain ⟨a_x0, c_x0, rfl⟩ := Kd.S_slice ho
 have HN3 := Aside0.mk hb.size
 have n0_ := Aside0.mk (Kd.F_below HA0.out hb)
 have n1_ := Aside0.mk (Kd.F_below HX_z0.out hb)
 clear HA0
 clear HX_z0
 have HA0 := n0_
 have HX_z0 := n1_
 clear n0_ n1_
 have HX_x0 := Aside0.mk (ex_new ho HB.out.size)
 have HB := Aside0.mk (below_step HB.out hb)
 clear ho hb
 go_wp2_with fail
 refine (impl_ZNeg.calls k _ _ x0 g0 _ (Kd.S_reads' HX_x0.out).2.2 (Kd.S_reads' HX_x0.out).2.1 A_5.out).mono ?_
 rintro e w5 ⟨v_g0, rfl, ho, hb⟩
 obtain ⟨a_g0, c_g0, rfl⟩ := Kd.S_slice ho
 have HN4 := Aside0.mk hb.size
 have n0_ := Aside0.mk (Kd.F_below HA0.out hb)
 have n1_ := Aside0.mk (Kd.S_below HX_x0.out hb)
 have n2_ := Aside0.mk (Kd.F_below HX_z0.out hb)
 clear HA0
 clear HX_x0
 clear HX_z0
 have HA0 := n0_
 have HX_x0 := n1_
 have HX_z0 := n2_
 clear n0_ n1_ n2_
 have HX_g0 := Aside0.mk (ex_new ho HB.out.size)
 have HB := Aside0.mk (below_step HB.out hb)
 clear ho hb
 go_wp2_with fail
 refine (laws_eqItemS.calls k _ _ g0 _ _ z0 true _ (Kd.S_reads' HX_g0.out).2.2 (Kd.S_reads' HX_g0.out).2.1 (Kd.F_now HX_z0.out) HP_z0.out A_6.out).mono ?_
 rintro e w6 ⟨rfl, hd⟩
 have hb : Below w5.heap.size w5 w6 := by first | exact hd | exact ex_drawn hd
 have HN5 := Aside0.mk hb.size
 have n0_ := Aside0.mk (Kd.F_below HA0.out hb)
 have n1_ := Aside0.mk (Kd.S_below HX_x0.out hb)
 have n2_ := Aside0.mk (Kd.S_below HX_g0.out hb)
 have n3_ := Aside0.mk (Kd.F_below HX_z0.out hb)
 clear HA0
 clear HX_x0
 clear HX_g0
 clear HX_z0
 have HA0 := n0_
 have HX_x0 := n1_
 have HX_g0 := n2_
 have HX_z0 := n3_
 clear n0_ n1_ n2_ n3_
 have HB := Aside0.mk (below_step HB.out hb)
 clear hb hd
 go_wp2_with fail
 refine (laws_toItemS.calls k _ _ l0 u0 _ (Kd.F_now HA0.out) HC0.out A_7.out).mono ?_
 rintro e w7 ⟨v_u0, rfl, ho, hb⟩
 obtain ⟨a_u0, c_u0, rfl⟩ := Kd.S_slice ho
 have HN6 := Aside0.mk hb.size
 have n0_ := Aside0.mk (Kd.F_below HA0.out hb)
 have n1_ := Aside0.mk (Kd.S_below HX_x0.out hb)
 have n2_ := Aside0.mk (Kd.S_below HX_g0.out hb)
 have n3_ := Aside0.mk (Kd.F_below HX_z0.out hb)
 clear HA0
 clear HX_x0
 clear HX_g0
 clear HX_z0
 have HA0 := n0_
 have HX_x0 := n1_
 have HX_g0 := n2_
 have HX_z0 := n3_
 clear n0_ n1_ n2_ n3_
 have HX_u0 := Aside0.mk (ex_read (Kd.S_reads' ho).2.2)
 have HP_u0 := Aside0.mk (Kd.S_reads' ho).2.1
 have HB := Aside0.mk (below_step HB.out hb)
 clear ho hb
 go_wp2_with fail
 refine (laws_eqItemS.calls k _ _ x0 _ _ u0 true _ (Kd.S_reads' HX_x0.out).2.2 (Kd.S_reads' HX_x0.out).2.1 (Kd.F_now HX_u0.out) HP_u0.out A_8.out).mono ?_
 rintro e w8 ⟨rfl, hd⟩
 have hb : Below w7.heap.size w7 w8 := by first | exact hd | exact ex_drawn hd
 have HN7 := Aside0.mk hb.size
 have n0_ := Aside0.mk (Kd.F_below HA0.out hb)
 have n1_ := Aside0.mk (Kd.S_below HX_x0.out hb)
 have n2_ := Aside0.mk (Kd.S_below HX_g0.out hb)
 have n3_ := Aside0.mk (Kd.F_below HX_z0.out hb)
 have n4_ := Aside0.mk (Kd.F_below HX_u0.out hb)
 clear HA0
 clear HX_x0
 clear HX_g0
 clear HX_z0
 clear HX_u0
 have HA0 := n0_
 have HX_x0 := n1_
 have HX_g0 := n2_
 have HX_z0 := n3_
 have HX_u0 := n4_
 clear n0_ n1_ n2_ n3_ n4_
 have HB := Aside0.mk (below_step HB.out hb)
 clear hb hd
 clear HX_u0 HP_u0
 go_wp2_with fail
 refine (laws_markItemS.calls k (fun k_ => w3.heap.size ≤ k_ ∧ k_ < w4.heap.size) _ x0 1 k0 x0_8 w _ HB.out HX_x0.out A_9.out).mono ?_
 rintro e w9 ⟨rfl, ho, hB, hk⟩
 have HN8 := Aside0.mk hk.1
 have n0_ := Aside0.mk (Kd.F_kept HA0.out hk (fun k_ hk_ hs_ => by have h1_ := hs_.1; have z0_ := HN0.out; have z1_ := HN1.out; have z2_ := HN2.out; have z3_ := HN3.out; have z4_ := HN4.out; have z5_ := HN5.out; have z6_ := HN6.out; have z7_ := HN7.out; omega))
 have n1_ := Aside0.mk (Kd.S_kept HX_g0.out hk (fun k_ hk_ hs_ => by have h1_ := hs_.1; have h2_ := hs_.2; have h3_ := hk_.1; have h4_ := hk_.2; have z0_ := HN0.out; have z1_ := HN1.out; have z2_ := HN2.out; have z3_ := HN3.out; have z4_ := HN4.out; have z5_ := HN5.out; have z6_ := HN6.out; have z7_ := HN7.out; omega))
 have n2_ := Aside0.mk (Kd.F_kept HX_z0.out hk (fun k_ hk_ hs_ => by have h1_ := hs_.1; have h2_ := hs_.2; have h3_ := hk_; have z0_ := HN0.out; have z1_ := HN1.out; have z2_ := HN2.out; have z3_ := HN3.out; have z4_ := HN4.out; have z5_ := HN5.out; have z6_ := HN6.out; have z7_ := HN7.out; omega))
 clear HA0
 clear HX_g0
 clear HX_z0
 have HA0 := n0_
 have HX_g0 := n1_
 have HX_z0 := n2_
 clear n0_ n1_ n2_
 clear HX_x0 HB
 have HX_x0 := Aside0.mk ho
 have HB := Aside0.mk hB
 clear ho hB hk
 have HE_x0 := Aside0.mk (show x0.length = x0_8.length from (Kd.S_reads' HX_x0.out).1)
 go_wp2_with fail
 refine (laws_eqItemS.calls k _ _ g0 _ _ z0 true _ (Kd.S_reads' HX_g0.out).2.2 (Kd.S_reads' HX_g0.out).2.1 (Kd.F_now HX_z0.out) HP_z0.out A_10.out).mono ?_
 rintro e w10 ⟨rfl, hd⟩
 have hb : Below w9.heap.size w9 w10 := by first | exact hd | exact ex_drawn hd
 have HN9 := Aside0.mk hb.size
 have n0_ := Aside0.mk (Kd.F_below HA0.out hb)
 have n1_ := Aside0.mk (Kd.S_below HX_x0.out hb)
 have n2_ := Aside0.mk (Kd.S_below HX_g0.out hb)
 have n3_ := Aside0.mk (Kd.F_below HX_z0.out hb)
 clear HA0
 clear HX_x0
 clear HX_g0
 clear HX_z0
 have HA0 := n0_
 have HX_x0 := n1_
 have HX_g0 := n2_
 have HX_z0 := n3_
 clear n0_ n1_ n2_ n3_
 have HB := Aside0.mk (below_step HB.out hb)
 clear hb hd
 go_wp2_with fail
 refine (laws_markItemS.calls k (fun k_ => w4.heap.size ≤ k_ ∧ k_ < w5.heap.size) _ g0 1 m g0_11 w _ HB.out HX_g0.out A_11.out).mono ?_
 rintro e w11 ⟨rfl, ho, hB, hk⟩
 have HN10 := Aside0.mk hk.1
 have n0_ := Aside0.mk (Kd.F_kept HA0.out hk (fun k_ hk_ hs_ => by have h1_ := hs_.1; have z0_ := HN0.out; have z1_ := HN1.out; have z2_ := HN2.out; have z3_ := HN3.out; have z4_ := HN4.out; have z5_ := HN5.out; have z6_ := HN6.out; have z7_ := HN7.out; have z8_ := HN8.out; have z9_ := HN9.out; omega))
 have n1_ := Aside0.mk (Kd.S_kept HX_x0.out hk (fun k_ hk_ hs_ => by have h1_ := hs_.1; have h2_ := hs_.2; have h3_ := hk_.1; have h4_ := hk_.2; have z0_ := HN0.out; have z1_ := HN1.out; have z2_ := HN2.out; have z3_ := HN3.out; have z4_ := HN4.out; have z5_ := HN5.out; have z6_ := HN6.out; have z7_ := HN7.out; have z8_ := HN8.out; have z9_ := HN9.out; omega))
 have n2_ := Aside0.mk (Kd.F_kept HX_z0.out hk (fun k_ hk_ hs_ => by have h1_ := hs_.1; have h2_ := hs_.2; have h3_ := hk_; have z0_ := HN0.out; have z1_ := HN1.out; have z2_ := HN2.out; have z3_ := HN3.out; have z4_ := HN4.out; have z5_ := HN5.out; have z6_ := HN6.out; have z7_ := HN7.out; have z8_ := HN8.out; have z9_ := HN9.out; omega))
 clear HA0
 clear HX_x0
 clear HX_z0
 have HA0 := n0_
 have HX_x0 := n1_
 have HX_z0 := n2_
 clear n0_ n1_ n2_
 clear HX_g0 HB
 have HX_g0 := Aside0.mk ho
 have HB := Aside0.mk hB
 clear ho hB hk
 have HE_g0 := Aside0.mk (show g0.length = g0_11.length from (Kd.S_reads' HX_g0.out).1)
 go_wp2_with fail
 refine calls_of_args (args' := #[.slice a_g0 g0_11.length c_g0, .int .i64 1]) (by rw [HE_g0.out]) ?_
 refine (laws_heldItemS.calls k _ _ g0_11 1 q0 _ (Kd.S_reads' HX_g0.out).2.2 (by have h_ := (Kd.S_reads' HX_g0.out).2.1; have e_ := HE_g0.out; omega) A_12.out).mono ?_
 rintro e w12 ⟨rfl, hd⟩
 have hb : Below w11.heap.size w11 w12 := by first | exact hd | exact ex_drawn hd
 have HN11 := Aside0.mk hb.size
 have n0_ := Aside0.mk (Kd.F_below HA0.out hb)
 have n1_ := Aside0.mk (Kd.S_below HX_x0.out hb)
 have n2_ := Aside0.mk (Kd.S_below HX_g0.out hb)
 have n3_ := Aside0.mk (Kd.F_below HX_z0.out hb)
 clear HA0
 clear HX_x0
 clear HX_g0
 clear HX_z0
 have HA0 := n0_
 have HX_x0 := n1_
 have HX_g0 := n2_
 have HX_z0 := n3_
 clear n0_ n1_ n2_ n3_
 have HB := Aside0.mk (below_step HB.out hb)
 clear hb hd
 go_wp2_with fail
 refine (laws_toItemS.calls k _ _ l0 h0 _ (Kd.F_now HA0.out) HC0.out A_13.out).mono ?_
 rintro e w13 ⟨v_h0, rfl, ho, hb⟩
 obtain ⟨a_h0, c_h0, rfl⟩ := Kd.S_slice ho
 have HN12 := Aside0.mk hb.size
 have n0_ := Aside0.mk (Kd.F_below HA0.out hb)
 have n1_ := Aside0.mk (Kd.S_below HX_x0.out hb)
 have n2_ := Aside0.mk (Kd.S_below HX_g0.out hb)
 have n3_ := Aside0.mk (Kd.F_below HX_z0.out hb)
 clear HA0
 clear HX_x0
 clear HX_g0
 clear HX_z0
 have HA0 := n0_
 have HX_x0 := n1_
 have HX_g0 := n2_
 have HX_z0 := n3_
 clear n0_ n1_ n2_ n3_
 have HX_h0 := Aside0.mk (ex_read (Kd.S_reads' ho).2.2)
 have HP_h0 := Aside0.mk (Kd.S_reads' ho).2.1
 have HB := Aside0.mk (below_step HB.out hb)
 clear ho hb
 go_wp2_with fail
 refine (impl_ZNeg.calls k _ _ h0 y0 _ (Kd.F_now HX_h0.out) HP_h0.out A_14.out).mono ?_
 rintro e w14 ⟨v_y0, rfl, ho, hb⟩
 obtain ⟨a_y0, c_y0, rfl⟩ := Kd.S_slice ho
 have HN13 := Aside0.mk hb.size
 have n0_ := Aside0.mk (Kd.F_below HA0.out hb)
 have n1_ := Aside0.mk (Kd.S_below HX_x0.out hb)
 have n2_ := Aside0.mk (Kd.S_below HX_g0.out hb)
 have n3_ := Aside0.mk (Kd.F_below HX_z0.out hb)
 have n4_ := Aside0.mk (Kd.F_below HX_h0.out hb)
 clear HA0
 clear HX_x0
 clear HX_g0
 clear HX_z0
 clear HX_h0
 have HA0 := n0_
 have HX_x0 := n1_
 have HX_g0 := n2_
 have HX_z0 := n3_
 have HX_h0 := n4_
 clear n0_ n1_ n2_ n3_ n4_
 have HX_y0 := Aside0.mk (ex_read (Kd.S_reads' ho).2.2)
 have HP_y0 := Aside0.mk (Kd.S_reads' ho).2.1
 have HB := Aside0.mk (below_step HB.out hb)
 clear ho hb
 clear HX_h0 HP_h0
 go_wp2_with fail
 refine (laws_eqItemS.calls k _ _ y0 _ _ z0 true _ (Kd.F_now HX_y0.out) HP_y0.out (Kd.F_now HX_z0.out) HP_z0.out A_15.out).mono ?_
 rintro e w15 ⟨rfl, hd⟩
 have hb : Below w14.heap.size w14 w15 := by first | exact hd | exact ex_drawn hd
 have HN14 := Aside0.mk hb.size
 have n0_ := Aside0.mk (Kd.F_below HA0.out hb)
 have n1_ := Aside0.mk (Kd.S_below HX_x0.out hb)
 have n2_ := Aside0.mk (Kd.S_below HX_g0.out hb)
 have n3_ := Aside0.mk (Kd.F_below HX_z0.out hb)
 have n4_ := Aside0.mk (Kd.F_below HX_y0.out hb)
 clear HA0
 clear HX_x0
 clear HX_g0
 clear HX_z0
 clear HX_y0
 have HA0 := n0_
 have HX_x0 := n1_
 have HX_g0 := n2_
 have HX_z0 := n3_
 have HX_y0 := n4_
 clear n0_ n1_ n2_ n3_ n4_
 have HB := Aside0.mk (below_step HB.out hb)
 clear hb hd
 go_wp2_with fail
 refine calls_of_args (args' := #[.slice a_g0 g0_11.length c_g0, .int .i64 1]) (by rw [HE_g0.out]) ?_
 refine (laws_heldItemS.calls k _ _ g0_11 1 q1 _ (Kd.S_reads' HX_g0.out).2.2 (by have h_ := (Kd.S_reads' HX_g0.out).2.1; have e_ := HE_g0.out; omega) A_16.out).mono ?_
 rintro e w16 ⟨rfl, hd⟩
 have hb : Below w15.heap.size w15 w16 := by first | exact hd | exact ex_drawn hd
 have HN15 := Aside0.mk hb.size
 have n0_ := Aside0.mk (Kd.F_below HA0.out hb)
 have n1_ := Aside0.mk (Kd.S_below HX_x0.out hb)
 have n2_ := Aside0.mk (Kd.S_below HX_g0.out hb)
 have n3_ := Aside0.mk (Kd.F_below HX_z0.out hb)
 have n4_ := Aside0.mk (Kd.F_below HX_y0.out hb)
 clear HA0
 clear HX_x0
 clear HX_g0
 clear HX_z0
 clear HX_y0
 have HA0 := n0_
 have HX_x0 := n1_
 have HX_g0 := n2_
 have HX_z0 := n3_
 have HX_y0 := n4_
 clear n0_ n1_ n2_ n3_ n4_
 have HB := Aside0.mk (below_step HB.out hb)
 clear hb hd
 go_wp2
 go_ret
 exact ⟨rfl, HB.out⟩

/-- THE ONE PURE STATEMENT of laws_FnExactZNeg: yours. -/
def laws_FnExactZNeg.Pure : Prop := ∀ (l0 : List (S78)), (l0.length ≤ maxLen ∧ ∀ y0 ∈ l0, (((y0.f0.length ≤ maxLen ∧ ∀ y1 ∈ y0.f0, (Lit.int .i64 y1).wf = true)) ∧ ((Lit.int .i64 y0.f1).wf = true))) → ∃ k, laws_FnExactZNeg.f k l0 = some true
theorem laws_FnExactZNeg.walk (P : laws_FnExactZNeg.Pure) (A0 : Option Addr) (c0 : Nat) (l0 : List (S78)) (w : World) (hr0 : Kd.C k78 w A0 l0.length l0) (hc0 : l0.length ≤ c0) (ok0 : (l0.length ≤ maxLen ∧ ∀ y0 ∈ l0, (((y0.f0.length ≤ maxLen ∧ ∀ y1 ∈ y0.f0, (Lit.int .i64 y1).wf = true)) ∧ ((Lit.int .i64 y0.f1).wf = true)))) :
  Calls Try.prog 7 #[.slice A0 l0.length c0] w fun e w' => e = .returned (.bool true) ∧ Below w.heap.size w w' := by
 obtain ⟨k, h⟩ := P l0 ok0
 refine (laws_FnExactZNeg.calls k A0 c0 l0 true w hr0 hc0 h rfl).mono ?_
 rintro e w' ⟨rfl, hd⟩
 exact ⟨rfl, hd⟩

end Go.Proofs.Ytpbmabfodfcfmaa.PFnExactZNeg
