-- Written by wip/tools/pp.py, a program of this session over the kit's printer: not the kit's own print
import Derived.Test.YtaifnkapbffmaaaPFnExactZAddx0
import Derived.Test.YtaifnkapbffmaaaPFnExactZAddx10
namespace Go.Proofs.Ytaifnkapbffmaaa.PFnExactZAdd
open Go.RowKit Go.Proofs.YtaifnkapbffmaaaW.PrintWords Go.Proofs.YtaifnkapbffmaaaW.PrintLast Go.Proofs.YtaifnkapbffmaaaW.PrintMore
attribute [local go_sem] max2_int min2_int max_two min_two max_three min_three max_four min_four   -- for this text's walks alone
set_option linter.unusedVariables false
set_option linter.unusedSimpArgs false

/-! ### laws_markItemS: function 16 (by hand) -/
def laws_markItemS.l0 : Nat → List (S54) → Int → Int → Option (Int × List (S54))
 | 0, _, _, _ => none
 | k + 1, x0, x1, x5 => if x5 < (x0.length : Int) then (if 0 ≤ x5 then ((laws_markIntS.f k ((rd_T54 x0 x5).f0) x1).bind fun t => (laws_markItemS.l0 k (x0.set (x5 : Int).toNat (⟨t.2, t.1⟩ : S54)) (wrap64 (t.1 + 1)) (wrap64 (x5 + 1)))) else (none)) else (some (x1, x0))
def laws_markItemS.f (k : Nat) (l0 : List (S54)) (a1 : Int) : Option (Int × List (S54)) := laws_markItemS.l0 k l0 a1 0
theorem laws_markItemS.mono_l : ∀ k, (∀ y0 y1 y2, LeO (laws_markItemS.l0 k y0 y1 y2) (laws_markItemS.l0 (k + 1) y0 y1 y2))
 | 0 => fun _ _ _ r h => by simp [laws_markItemS.l0] at h
 | k + 1 => by
  have ih0 := laws_markItemS.mono_l k
  ·intro y0 y1 y2
   unfold laws_markItemS.l0
   repeat' first
   | (with_reducible exact ih0 _ _ _)
   | (with_reducible exact laws_markIntS.mono _ _ _)
   | (with_reducible exact LeO.refl _)
   | (with_reducible exact LeO.none _)
   | (with_reducible refine LeO.ite ?_ ?_)
   | (with_reducible refine LeO.bind ?_ (fun _ => ?_))
   | exact LeO.none _
   | refine LeO.ite ?_ ?_
   | refine LeO.bind ?_ (fun _ => ?_)
theorem laws_markItemS.mono : ∀ a0 a1 k, LeO (laws_markItemS.f k a0 a1) (laws_markItemS.f (k + 1) a0 a1) := by
 intro a0 a1 k
 exact laws_markItemS.mono_l k _ _ _
/-- Element i of a row is lent to what writes its inner row, and its number is stored; then it is put back. -/
theorem laws_markItemS.lend {w0 W : World} {ok : Nat → Prop} {g cap : Nat} {xs : List S54} {i : Int} (h : Kd.S k54 54 W w0.heap.size ok (.slice (some ⟨g, 0, none⟩) xs.length cap) xs) (h0 : 0 ≤ i) (h1 : i < xs.length) :
  ∃ (oki : Nat → Prop) (v : Value), (Kd.int .i64).R 3 W w0.heap.size oki v (rd_T54 xs i).f0 ∧ (∀ k, oki k → ok k ∧ k ≠ g) ∧ W.cell? ⟨g, i.toNat * 2, none⟩ = some v ∧ W.cell? ⟨g, i.toNat * 2 + 1, none⟩ = some (.int .i64 (rd_T54 xs i).f1) ∧
   (∀ j, W.frozen? ⟨g, i.toNat * 2 + j, none⟩ = false) ∧ g < W.heap.size ∧ w0.heap.size ≤ g ∧
   ∀ (W1 : World) (l : List Int) (t : Int), Kept W W1 oki → (Kd.int .i64).R 3 W1 w0.heap.size oki v l → (W1.heap[g]? = W.heap[g]?) ∧
    Kd.S k54 54 (W1.setCell ⟨g, i.toNat * 2 + 1, none⟩ (.int .i64 t)) w0.heap.size ok (.slice (some ⟨g, 0, none⟩) xs.length cap) (xs.set i.toNat ⟨l, t⟩) ∧ W1.grownBy (W1.setCell ⟨g, i.toNat * 2 + 1, none⟩ (.int .i64 t)) (some g) := by
 obtain ⟨oki, c, hcl, hM, hcc, hfr, hoki, hH⟩ := Kd.S_elem h z54 i h0 h1
 obtain ⟨v, rfl, hR⟩ := k54_openM hM
 have hgl : g < W.heap.size := Kd.S_lt h g rfl
 refine ⟨oki, v, hR, hoki, hcc 0 _ rfl, hcc 1 _ rfl, hfr, hgl, Kd.S_base h g rfl, fun W1 l t hk hl => ?_⟩
 have hH1 : Kd.H k54 54 W1 w0.heap.size (fun k => ok k ∧ ¬ False) (.slice (some ⟨g, 0, none⟩) xs.length cap) xs i oki [v, .int .i64 (rd_T54 xs i).f1] :=
  Kd.H_mono (Kd.H_step hH (fun k _ hn hlt => hk.2 k hlt hn)) (fun k hk => ⟨hk, fun h => h⟩)
 have hs := Kd.S_seg (okg := fun _ => False) (okp := oki) hH1 h0 h1 (seg := [.int .i64 t]) (j := 1) (show 1 + 1 ≤ 2 from Nat.le_refl _) (x' := ⟨l, t⟩) (k54_mkM _ _ _ (⟨l, t⟩ : S54) hl) (fun _ hk => .inl hk) (fun _ hk => hk.elim)
 exact ⟨hk.2 g hgl (fun hg => (hoki g hg).2 rfl), hs⟩
set_option maxHeartbeats 8000000 in
set_option maxRecDepth 100000 in
theorem laws_markItemS.calls (k : Nat) (P0_ : Nat → Prop) (u9000_ : Value) (l0 : List (S54)) (a1 : Int) (r1 : Int) (r2 : List (S54)) (w0 w : World) (hB : Below w0.heap.size w0 w) (ho0 : Kd.S k54 54 w w0.heap.size P0_ u9000_ l0) (h : laws_markItemS.f k l0 a1 = some (r1, r2)) :
  Calls Try.prog 16 #[u9000_, .int .i64 a1] w fun e w' => e = .returned (.int .i64 r1) ∧ Kd.S k54 54 w' w0.heap.size P0_ u9000_ r2 ∧ Below w0.heap.size w0 w' ∧ Kept w w' (fun k_ => P0_ k_) := by
 have HO0 := Aside0.mk ho0
 have HK := Aside0.mk (Kept.refl w (fun k_ => P0_ k_))
 have HW0 := Aside0.mk hB.size
 have HB := Aside0.mk hB
 clear hB ho0
 have H : (laws_markItemS.l0 k l0 a1 0) = some (r1, r2) := h
 clear h
 have H' := Aside0.mk H
 clear H
 go_enter Try.func16, Try.ntmps16
 go_wp2
 go_loopg [1, 5] k (fun kq v1 v5 w' => ∃ (x0_1 : List S54) (x1_1 : Int) (x5_1 : Int), v1 = .int .i64 x1_1 ∧ v5 = .int .i64 x5_1 ∧ Aside0 (laws_markItemS.l0 kq x0_1 x1_1 x5_1 = some (r1, r2)) ∧ Aside0 (kq ≤ k) ∧ Aside0 (Kd.S k54 54 w' w0.heap.size P0_ u9000_ x0_1) ∧ Aside0 (Kept w w' (fun k_ => P0_ k_)) ∧ Aside0 (Below w0.heap.size w0 w'))
 case atStart => exact ⟨(l0), (a1), (0), (by first | rfl | (simp; done) | (simp [*]; done)), (by first | rfl | (simp; done) | (simp [*]; done)), H', ⟨Nat.le_refl _⟩, ⟨by (with_reducible repeat (first | apply Kd.S_alloc | apply Kd.S_drewN | apply Kd.S_drew)); exact HO0.out⟩, ⟨zhq⟩, ⟨zhb⟩⟩
 case round =>
  clear H'
  try clear p2
  obtain ⟨x0_1, x1_1, x5_1, rfl, rfl, HA, HK1, HO_0, HK, HB⟩ := hrel
  cases gk with
  | zero => exact absurd HA.out (by simp [laws_markItemS.l0])
  | succ k1 =>
   have H := HA.out
   clear HA
   simp only [laws_markItemS.l0] at H
   by_cases c3 : x5_1 < (x0_1.length : Int)
   ·rw [if_pos c3] at H
    have c3b0 : decide (x5_1 < (x0_1.length : Int)) = true := decide_eq_true c3
    by_cases c4 : 0 ≤ x5_1
    ·rw [if_pos c4] at H
     have c4b0 : decide (0 ≤ x5_1) = true := decide_eq_true c4
     replace H := Option.bind_eq_some_iff.mp H
     obtain ⟨⟨t1, t2⟩, A50, H⟩ := H
     replace H : laws_markItemS.l0 k1 (x0_1.set (x5_1 : Int).toNat (⟨t2, t1⟩ : S54)) (wrap64 (t1 + 1)) (wrap64 (x5_1 + 1)) = some (r1, r2) := H
     have A5 := Aside0.mk A50
     clear A50
     have H' := Aside0.mk H
     clear H
     obtain ⟨go5, co5, eo5, _, _, _⟩ := Kd.S_form HO_0.out (by omega)
     subst eo5
     obtain ⟨oki, vi, hRi, hoki, hc0, hc1, hfz, hgl, hgb, hback⟩ := laws_markItemS.lend HO_0.out c4 c3
     have hfz1 := hfz 1
     clear hfz
     have OKI := Aside0.mk hoki
     have RI := Aside0.mk hRi
     have GL := Aside0.mk hgl
     have GB := Aside0.mk hgb
     have BACK := Aside0.mk hback
     clear hoki hRi hgl hgb hback
     have q5 : (x5_1 < ((x0_1.length : Int) : Int)) = True := eq_true c3
     have p5 : (0 ≤ (x5_1 : Int)) = True := eq_true c4
     clear c3 c4
     go_wp2_with (first
      | ((with_reducible refine gate_callee (f := 56) rfl ?_); refine goesL_ (some 18) rfl rfl Try.func56 (by kernel_rfl) rfl #[vi, .int .i64 x1_1] rfl zar ?_; (with_reducible refine (laws_markIntS.calls k1 oki vi ((rd_T54 x0_1 x5_1).f0) x1_1 t1 t2 w0 _ ?side1 ?side2 A5.out).mono ?_); (case side1 => exact HB.out); (case side2 => exact RI.out); rintro e w8 ⟨rfl, hr, hb, hk⟩; refine ⟨_, rfl, ?_⟩; obtain ⟨hgo, hS, hgr⟩ := BACK.out w8 t2 t1 hk (Kd.R_mono (Kd.R_tight rfl hr) (fun k_ hk_ => (RI.out.1 k_ hk_.symm))); have c1 : w8.cell? ⟨go5, (x5_1 : Int).toNat * 2 + 1, none⟩ = some (.int .i64 (rd_T54 x0_1 x5_1).f1) := (by have hc1_ := hc1; simp only [World.cell?] at hc1_ ⊢; rw [hgo]; exact hc1_); have f1 : w8.frozen? ⟨go5, (x5_1 : Int).toNat * 2 + 1, none⟩ = false := (by have hf_ := hfz1; simp only [World.frozen?] at hf_ ⊢; rw [hgo]; exact hf_); have HS := Aside0.mk hS; have HGR := Aside0.mk hgr; have HB2 := Aside0.mk hb; have HK2 := Aside0.mk (Kept.then_ HK.out hk (fun k_ hs_ => .inl (OKI.out k_ hs_).1)); clear hgo hS hgr hb hk hr hc0 hc1 hfz1))
     go_roundg k1
     case measure => have := HK1.out; omega
     case rel => exact ⟨_, (wrap64 (t1 + 1)), (wrap64 (x5_1 + 1)), (by first | rfl | (simp; done) | (simp [*]; done)), (by first | rfl | (simp; done) | (simp [*]; done)), H', ⟨by have := HK1.out; omega⟩, ⟨HS.out⟩, ⟨Kept.of_grown HGR.out HK2.out (fun k_ e_ => .inl ((Kd.S_R HO_0.out).1 k_ e_))⟩, ⟨below_set HB2.out GB.out⟩⟩
    ·rw [if_neg c4] at H
     exact absurd H (by simp)
   ·rw [if_neg c3] at H
    have c3b0 : decide (x5_1 < (x0_1.length : Int)) = false := decide_eq_false c3
    clear c3
    simp only [Option.some.injEq, Prod.mk.injEq] at H
    obtain ⟨rfl, rfl⟩ := H
    obtain ⟨Ao9, co9, eo9⟩ := Kd.S_slice HO_0.out
    subst eo9
    go_wp2
    go_ret
    exact ⟨by first | rfl | (simp [errW_none, errW_some] <;> rfl) | (simp [*, errW_none, errW_some] <;> rfl), by (with_reducible repeat (first | apply Kd.S_alloc | apply Kd.S_drewN | apply Kd.S_drew)); exact HO_0.out, zhb, zhq⟩

/-! ### laws_heldIntS: function 57 -/
def laws_heldIntS.l0 : Nat → List Int → Int → Int → Option (Int)
 | 0, _, _, _ => none
 | k + 1, x0, x1, x5 => if x5 < (x0.length : Int) then (if 0 ≤ x5 then (if (rd x0 x5) = x1 then (laws_heldIntS.l0 k x0 (wrap64 (x1 + 1)) (wrap64 (x5 + 1))) else (some (-1))) else (none)) else (some x1)
def laws_heldIntS.f (k : Nat) (l0 : List Int) (a1 : Int) : Option (Int) := laws_heldIntS.l0 k l0 a1 0
theorem laws_heldIntS.mono_l : ∀ k, (∀ y0 y1 y2, LeO (laws_heldIntS.l0 k y0 y1 y2) (laws_heldIntS.l0 (k + 1) y0 y1 y2))
 | 0 => fun _ _ _ r h => by simp [laws_heldIntS.l0] at h
 | k + 1 => by
  have ih0 := laws_heldIntS.mono_l k
  ·intro y0 y1 y2
   unfold laws_heldIntS.l0
   repeat' first
   | (with_reducible exact ih0 _ _ _)
   | (with_reducible exact LeO.refl _)
   | (with_reducible exact LeO.none _)
   | (with_reducible refine LeO.ite ?_ ?_)
   | (with_reducible refine LeO.bind ?_ (fun _ => ?_))
   | exact LeO.none _
   | refine LeO.ite ?_ ?_
   | refine LeO.bind ?_ (fun _ => ?_)
theorem laws_heldIntS.mono : ∀ a0 a1 k, LeO (laws_heldIntS.f k a0 a1) (laws_heldIntS.f (k + 1) a0 a1) := by
 intro a0 a1 k
 have ih0 := laws_heldIntS.mono_l k
 unfold laws_heldIntS.f
 repeat' first
   | (with_reducible exact ih0 _ _ _)
   | (with_reducible exact LeO.refl _)
   | (with_reducible exact LeO.none _)
   | (with_reducible refine LeO.ite ?_ ?_)
   | (with_reducible refine LeO.bind ?_ (fun _ => ?_))
   | exact LeO.none _
   | refine LeO.ite ?_ ?_
   | refine LeO.bind ?_ (fun _ => ?_)
set_option maxHeartbeats 8000000 in
set_option maxRecDepth 100000 in
theorem laws_heldIntS.calls (k : Nat) (A0 : Option Addr) (c0 : Nat) (l0 : List Int) (a1 : Int) (r : Int) (w : World) (hr0 : Kd.C (Kd.int .i64) w A0 l0.length l0) (hc0 : l0.length ≤ c0) (h : laws_heldIntS.f k l0 a1 = some r) :
  Calls Try.prog 57 #[.slice A0 l0.length c0, .int .i64 a1] w fun e w' => e = .returned (.int .i64 r) ∧ Drawn0 w w' := by
 have HR0 := Aside0.mk hr0
 have HC0 := Aside0.mk hc0
 clear hr0 hc0
 have H : (laws_heldIntS.l0 k l0 a1 0) = some r := h
 clear h
 have H' := Aside0.mk H
 clear H
 go_enter Try.func57, Try.ntmps57
 go_wp2
 go_loopg [1, 5] k (fun kq v1 v5 w' => ∃ (x1_1 : Int) (x5_1 : Int), v1 = .int .i64 x1_1 ∧ v5 = .int .i64 x5_1 ∧ Aside0 (laws_heldIntS.l0 kq l0 x1_1 x5_1 = some r) ∧ Aside0 (kq ≤ k) ∧ Drawn0 w w')
 case atStart => exact ⟨(a1), (0), (by first | rfl | (simp; done) | (simp [*]; done)), (by first | rfl | (simp; done) | (simp [*]; done)), H', ⟨Nat.le_refl _⟩, zdw⟩
 case round =>
  clear H'
  try clear p2
  obtain ⟨x1_1, x5_1, rfl, rfl, HA, HK1, ⟨m1, rfl⟩⟩ := hrel
  cases gk with
  | zero => exact absurd HA.out (by simp [laws_heldIntS.l0])
  | succ k1 =>
   have H := HA.out
   clear HA
   simp only [laws_heldIntS.l0] at H
   by_cases c3 : x5_1 < (l0.length : Int)
   ·rw [if_pos c3] at H
    have c3b0 : decide (x5_1 < (l0.length : Int)) = true := decide_eq_true c3
    clear c3
    by_cases c4 : 0 ≤ x5_1
    ·rw [if_pos c4] at H
     have c4b0 : decide (0 ≤ x5_1) = true := decide_eq_true c4
     clear c4
     by_cases c5 : (rd l0 x5_1) = x1_1
     ·rw [if_pos c5] at H
      have c5b0 : ((rd l0 x5_1) == x1_1) = true := beq_iff_eq.mpr c5
      have c5b1 : ((rd l0 x5_1) != x1_1) = false := bne_eq_false_iff_eq.mpr c5
      clear c5
      have H' := Aside0.mk H
      clear H
      have p294 : 0 ≤ (x5_1 : Int) := zod
      have q294 : x5_1 < (l0.length : Int) := zod
      obtain ⟨ad294, e294, hx294_0⟩ := Kd.at_int HR0.out x5_1 p294 q294
      cases e294
      replace p294 := eq_true p294
      replace q294 := eq_true q294
      go_wp2
      go_roundg k1
      case measure => have := HK1.out; omega
      case rel => exact ⟨(wrap64 (x1_1 + 1)), (wrap64 (x5_1 + 1)), (by first | rfl | (simp; done) | (simp [*]; done)), (by first | rfl | (simp; done) | (simp [*]; done)), H', ⟨by have := HK1.out; omega⟩, zdw⟩
     ·rw [if_neg c5] at H
      have c5b0 : ((rd l0 x5_1) == x1_1) = false := beq_eq_false_iff_ne.mpr c5
      have c5b1 : ((rd l0 x5_1) != x1_1) = true := bne_iff_ne.mpr c5
      obtain rfl := Option.some.inj H
      have p294 : 0 ≤ (x5_1 : Int) := zod
      have q294 : x5_1 < (l0.length : Int) := zod
      obtain ⟨ad294, e294, hx294_0⟩ := Kd.at_int HR0.out x5_1 p294 q294
      cases e294
      replace p294 := eq_true p294
      replace q294 := eq_true q294
      go_wp2
      go_ret
      exact ⟨by first | rfl | (simp; done) | (simp [*]; done), zdw⟩
    ·rw [if_neg c4] at H
     exact absurd H (by simp)
   ·rw [if_neg c3] at H
    have c3b0 : decide (x5_1 < (l0.length : Int)) = false := decide_eq_false c3
    clear c3
    obtain rfl := Option.some.inj H
    go_wp2
    go_ret
    exact ⟨by first | rfl | (simp; done) | (simp [*]; done), zdw⟩

/-! ### laws_heldItemS: function 17 -/
def laws_heldItemS.l0 : Nat → List (S54) → Int → Int → Option (Int)
 | 0, _, _, _ => none
 | k + 1, x0, x1, x5 => if x5 < (x0.length : Int) then (if 0 ≤ x5 then ((laws_heldIntS.f k ((rd_T54 x0 x5).f0) x1).bind fun t296 => (if t296 < 0 then (some (-1)) else (if ((rd_T54 x0 x5).f1) = t296 then (laws_heldItemS.l0 k x0 (wrap64 (t296 + 1)) (wrap64 (x5 + 1))) else (some (-1))))) else (none)) else (some x1)
def laws_heldItemS.f (k : Nat) (l0 : List (S54)) (a1 : Int) : Option (Int) := laws_heldItemS.l0 k l0 a1 0
theorem laws_heldItemS.mono_l : ∀ k, (∀ y0 y1 y2, LeO (laws_heldItemS.l0 k y0 y1 y2) (laws_heldItemS.l0 (k + 1) y0 y1 y2))
 | 0 => fun _ _ _ r h => by simp [laws_heldItemS.l0] at h
 | k + 1 => by
  have ih0 := laws_heldItemS.mono_l k
  ·intro y0 y1 y2
   unfold laws_heldItemS.l0
   repeat' first
   | (with_reducible exact ih0 _ _ _)
   | (with_reducible exact laws_heldIntS.mono _ _ _)
   | (with_reducible exact LeO.refl _)
   | (with_reducible exact LeO.none _)
   | (with_reducible refine LeO.ite ?_ ?_)
   | (with_reducible refine LeO.bind ?_ (fun _ => ?_))
   | exact LeO.none _
   | refine LeO.ite ?_ ?_
   | refine LeO.bind ?_ (fun _ => ?_)
theorem laws_heldItemS.mono : ∀ a0 a1 k, LeO (laws_heldItemS.f k a0 a1) (laws_heldItemS.f (k + 1) a0 a1) := by
 intro a0 a1 k
 have ih0 := laws_heldItemS.mono_l k
 unfold laws_heldItemS.f
 repeat' first
   | (with_reducible exact ih0 _ _ _)
   | (with_reducible exact laws_heldIntS.mono _ _ _)
   | (with_reducible exact LeO.refl _)
   | (with_reducible exact LeO.none _)
   | (with_reducible refine LeO.ite ?_ ?_)
   | (with_reducible refine LeO.bind ?_ (fun _ => ?_))
   | exact LeO.none _
   | refine LeO.ite ?_ ?_
   | refine LeO.bind ?_ (fun _ => ?_)
set_option maxHeartbeats 8000000 in
set_option maxRecDepth 100000 in
theorem laws_heldItemS.calls (k : Nat) (A0 : Option Addr) (c0 : Nat) (l0 : List (S54)) (a1 : Int) (r : Int) (w : World) (hr0 : Kd.C k54 w A0 l0.length l0) (hc0 : l0.length ≤ c0) (h : laws_heldItemS.f k l0 a1 = some r) :
  Calls Try.prog 17 #[.slice A0 l0.length c0, .int .i64 a1] w fun e w' => e = .returned (.int .i64 r) ∧ Drawn0 w w' := by
 have HR0 := Aside0.mk hr0
 have HC0 := Aside0.mk hc0
 clear hr0 hc0
 have H : (laws_heldItemS.l0 k l0 a1 0) = some r := h
 clear h
 have H' := Aside0.mk H
 clear H
 go_enter Try.func17, Try.ntmps17
 go_wp2
 go_loopg [1, 5] k (fun kq v1 v5 w' => ∃ (x1_1 : Int) (x5_1 : Int), v1 = .int .i64 x1_1 ∧ v5 = .int .i64 x5_1 ∧ Aside0 (laws_heldItemS.l0 kq l0 x1_1 x5_1 = some r) ∧ Aside0 (kq ≤ k) ∧ Drawn0 w w')
 case atStart => exact ⟨(a1), (0), (by first | rfl | (simp; done) | (simp [*]; done)), (by first | rfl | (simp; done) | (simp [*]; done)), H', ⟨Nat.le_refl _⟩, zdw⟩
 case round =>
  clear H'
  try clear c1
  try clear p2
  obtain ⟨x1_1, x5_1, rfl, rfl, HA, HK1, ⟨m1, rfl⟩⟩ := hrel
  cases gk with
  | zero => exact absurd HA.out (by simp [laws_heldItemS.l0])
  | succ k1 =>
   have H := HA.out
   clear HA
   simp only [laws_heldItemS.l0] at H
   by_cases c3 : x5_1 < (l0.length : Int)
   ·rw [if_pos c3] at H
    have c3b0 : decide (x5_1 < (l0.length : Int)) = true := decide_eq_true c3
    clear c3
    by_cases c4 : 0 ≤ x5_1
    ·rw [if_pos c4] at H
     have c4b0 : decide (0 ≤ x5_1) = true := decide_eq_true c4
     clear c4
     replace H := Option.bind_eq_some_iff.mp H
     obtain ⟨t296, A50, H⟩ := H
     replace H : (if t296 < 0 then (some (-1)) else (if ((rd_T54 l0 x5_1).f1) = t296 then (laws_heldItemS.l0 k1 l0 (wrap64 (t296 + 1)) (wrap64 (x5_1 + 1))) else (some (-1)))) = some r := H
     have A5 := Aside0.mk A50
     clear A50
     by_cases c6 : t296 < 0
     ·rw [if_pos c6] at H
      have c6b0 : decide (t296 < 0) = true := decide_eq_true c6
      clear c6
      obtain rfl := Option.some.inj H
      have p295 : 0 ≤ (x5_1 : Int) := zod
      have q295 : x5_1 < (l0.length : Int) := zod
      obtain ⟨ad295, A295_0, c295_0, e295, hx295_0, hx295_1, hl295_0, hi295_0⟩ := at_T54 HR0.out x5_1 p295 q295
      cases e295
      have HR295_0 := Aside0.mk hi295_0
      have HC295_0 := Aside0.mk hl295_0
      clear hi295_0 hl295_0
      replace p295 := eq_true p295
      replace q295 := eq_true q295
      go_wp2_with (first | ((with_reducible refine gate_callee (f := 57) rfl ?_); refine goesL_ (some 18) rfl rfl Try.func57 (by kernel_rfl) rfl #[.slice A295_0 ((rd_T54 l0 x5_1).f0).length c295_0, .int .i64 x1_1] rfl zar ?_; (with_reducible refine (laws_heldIntS.calls k1 _ _ ((rd_T54 l0 x5_1).f0) x1_1 t296 _ ?side1 ?side2 A5.out).mono ?_); (case side1 => repeat (first | exact HR295_0.out | (with_reducible refine Kd.C_alloc ?_ _) | (with_reducible refine Kd.C_drewN ?_ _) | (with_reducible refine Kd.C_drew ?_))); (case side2 => exact HC295_0.out); rintro e w' ⟨rfl, ⟨nd, rfl⟩⟩; refine ⟨_, rfl, ?_⟩))
      go_ret
      exact ⟨by first | rfl | (simp; done) | (simp [*]; done), zdw⟩
     ·rw [if_neg c6] at H
      have c6b0 : decide (t296 < 0) = false := decide_eq_false c6
      clear c6
      by_cases c7 : ((rd_T54 l0 x5_1).f1) = t296
      ·rw [if_pos c7] at H
       have c7b0 : (((rd_T54 l0 x5_1).f1) == t296) = true := beq_iff_eq.mpr c7
       have c7b1 : (((rd_T54 l0 x5_1).f1) != t296) = false := bne_eq_false_iff_eq.mpr c7
       clear c7
       have H' := Aside0.mk H
       clear H
       have p295 : 0 ≤ (x5_1 : Int) := zod
       have q295 : x5_1 < (l0.length : Int) := zod
       obtain ⟨ad295, A295_0, c295_0, e295, hx295_0, hx295_1, hl295_0, hi295_0⟩ := at_T54 HR0.out x5_1 p295 q295
       cases e295
       have HR295_0 := Aside0.mk hi295_0
       have HC295_0 := Aside0.mk hl295_0
       clear hi295_0 hl295_0
       replace p295 := eq_true p295
       replace q295 := eq_true q295
       go_wp2_with (first | ((with_reducible refine gate_callee (f := 57) rfl ?_); refine goesL_ (some 18) rfl rfl Try.func57 (by kernel_rfl) rfl #[.slice A295_0 ((rd_T54 l0 x5_1).f0).length c295_0, .int .i64 x1_1] rfl zar ?_; (with_reducible refine (laws_heldIntS.calls k1 _ _ ((rd_T54 l0 x5_1).f0) x1_1 t296 _ ?side1 ?side2 A5.out).mono ?_); (case side1 => repeat (first | exact HR295_0.out | (with_reducible refine Kd.C_alloc ?_ _) | (with_reducible refine Kd.C_drewN ?_ _) | (with_reducible refine Kd.C_drew ?_))); (case side2 => exact HC295_0.out); rintro e w' ⟨rfl, ⟨nd, rfl⟩⟩; refine ⟨_, rfl, ?_⟩; have p297 : 0 ≤ (x5_1 : Int) := zod; have q297 : x5_1 < (l0.length : Int) := zod; obtain ⟨ad297, A297_0, c297_0, e297, hx297_0, hx297_1, hl297_0, hi297_0⟩ := at_T54 HR0.out x5_1 p297 q297; obtain rfl : ad295 = ad297 := (by injection e297); have HR297_0 := Aside0.mk hi297_0; have HC297_0 := Aside0.mk hl297_0; clear hi297_0 hl297_0; replace p297 := eq_true p297; replace q297 := eq_true q297; have ea_ := Option.some.inj (hx295_0.symm.trans hx297_0); injection ea_ with ea_ en_ ec_; subst ea_; subst ec_; clear en_))
       go_roundg k1
       case measure => have := HK1.out; omega
       case rel => exact ⟨(wrap64 (t296 + 1)), (wrap64 (x5_1 + 1)), (by first | rfl | (simp; done) | (simp [*]; done)), (by first | rfl | (simp; done) | (simp [*]; done)), H', ⟨by have := HK1.out; omega⟩, zdw⟩
      ·rw [if_neg c7] at H
       have c7b0 : (((rd_T54 l0 x5_1).f1) == t296) = false := beq_eq_false_iff_ne.mpr c7
       have c7b1 : (((rd_T54 l0 x5_1).f1) != t296) = true := bne_iff_ne.mpr c7
       obtain rfl := Option.some.inj H
       have p295 : 0 ≤ (x5_1 : Int) := zod
       have q295 : x5_1 < (l0.length : Int) := zod
       obtain ⟨ad295, A295_0, c295_0, e295, hx295_0, hx295_1, hl295_0, hi295_0⟩ := at_T54 HR0.out x5_1 p295 q295
       cases e295
       have HR295_0 := Aside0.mk hi295_0
       have HC295_0 := Aside0.mk hl295_0
       clear hi295_0 hl295_0
       replace p295 := eq_true p295
       replace q295 := eq_true q295
       go_wp2_with (first | ((with_reducible refine gate_callee (f := 57) rfl ?_); refine goesL_ (some 18) rfl rfl Try.func57 (by kernel_rfl) rfl #[.slice A295_0 ((rd_T54 l0 x5_1).f0).length c295_0, .int .i64 x1_1] rfl zar ?_; (with_reducible refine (laws_heldIntS.calls k1 _ _ ((rd_T54 l0 x5_1).f0) x1_1 t296 _ ?side1 ?side2 A5.out).mono ?_); (case side1 => repeat (first | exact HR295_0.out | (with_reducible refine Kd.C_alloc ?_ _) | (with_reducible refine Kd.C_drewN ?_ _) | (with_reducible refine Kd.C_drew ?_))); (case side2 => exact HC295_0.out); rintro e w' ⟨rfl, ⟨nd, rfl⟩⟩; refine ⟨_, rfl, ?_⟩; have p297 : 0 ≤ (x5_1 : Int) := zod; have q297 : x5_1 < (l0.length : Int) := zod; obtain ⟨ad297, A297_0, c297_0, e297, hx297_0, hx297_1, hl297_0, hi297_0⟩ := at_T54 HR0.out x5_1 p297 q297; obtain rfl : ad295 = ad297 := (by injection e297); have HR297_0 := Aside0.mk hi297_0; have HC297_0 := Aside0.mk hl297_0; clear hi297_0 hl297_0; replace p297 := eq_true p297; replace q297 := eq_true q297; have ea_ := Option.some.inj (hx295_0.symm.trans hx297_0); injection ea_ with ea_ en_ ec_; subst ea_; subst ec_; clear en_))
       go_ret
       exact ⟨by first | rfl | (simp; done) | (simp [*]; done), zdw⟩
    ·rw [if_neg c4] at H
     exact absurd H (by simp)
   ·rw [if_neg c3] at H
    have c3b0 : decide (x5_1 < (l0.length : Int)) = false := decide_eq_false c3
    clear c3
    obtain rfl := Option.some.inj H
    go_wp2
    go_ret
    exact ⟨by first | rfl | (simp; done) | (simp [*]; done), zdw⟩

end Go.Proofs.Ytaifnkapbffmaaa.PFnExactZAdd
