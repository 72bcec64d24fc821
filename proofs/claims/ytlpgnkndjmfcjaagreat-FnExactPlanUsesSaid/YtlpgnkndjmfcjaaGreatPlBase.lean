/- How a struct is loaded whole and boxed, its cells told as a list that is not laid open, and how many parts a plan holds. It holds of every program. What the law's measure of a plan is, in Lean, and which plans have fields that lie in their types. The law's measure szPlan returns what its telling in Lean says, for each plan whose cells lie in the world and whose left is from 0 to 2^20. What the copies and comparisons of a plan's tests, cells and keys return, told over their printed contracts. What the copy of a plan is, in Lean, and how a new plan is allocated and its cells stored. -/
import Derived.Test.YtlpgnkndjmfcjaaGreatPFnExactPlanManyx2
import Derived.Deep.MidRow
import Derived.Lib.Hide
import Derived.StillTailTactics
namespace Go.Proofs.YtlpgnkndjmfcjaaGreat.PFnExactPlanMany
open Go.RowKit Go.Proofs.YtlpgnkndjmfcjaaGreatW.PrintWords Go.Proofs.YtlpgnkndjmfcjaaGreatW.PrintLast Go.Proofs.YtlpgnkndjmfcjaaGreatW.PrintMore
attribute [local go_sem] max2_int min2_int max_two min_two max_three min_three max_four min_four   -- for this text's walks alone
set_option linter.unusedVariables false
set_option linter.unusedSimpArgs false
/-! ## Plans: what is said of them in Lean, with no program in sight -/
namespace Pl
mutual
/-- how many parts a plan of the law's holds -/
def sz30 : S30 → Nat
  | ⟨_, _, _, _, _, _, _, _, _, ks⟩ => 1 + szs30 ks
def szs30 : List (S30) → Nat
  | [] => 0
  | x :: xs => sz30 x + szs30 xs
end
mutual
def sz39 : S39 → Nat
  | ⟨_, _, _, _, _, _, _, _, _, ks⟩ => 1 + szs39 ks
def szs39 : List (S39) → Nat
  | [] => 0
  | x :: xs => sz39 x + szs39 xs
end
theorem szs30_get {xs : List (S30)} {i : Nat} (h : i < xs.length) : sz30 (xs[i]) ≤ szs30 xs := by
  induction xs generalizing i with
  | nil => simp at h
  | cons x xs ih =>
    cases i with
    | zero => simp [szs30]
    | succ i => have := ih (i := i) (by simpa using h); simp only [List.getElem_cons_succ, szs30]; omega
theorem szs39_get {xs : List (S39)} {i : Nat} (h : i < xs.length) : sz39 (xs[i]) ≤ szs39 xs := by
  induction xs generalizing i with
  | nil => simp at h
  | cons x xs ih =>
    cases i with
    | zero => simp [szs39]
    | succ i => have := ih (i := i) (by simpa using h); simp only [List.getElem_cons_succ, szs39]; omega
theorem sz30_kids (x : S30) : sz30 x = 1 + szs30 x.f9 := by cases x; rfl
theorem sz39_kids (x : S39) : sz39 x = 1 + szs39 x.f9 := by cases x; rfl
end Pl
/-! ## The machine's side -/
namespace Pl
theorem Addr_add_add (a : Addr) (i j : Nat) : (a.add i).add j = a.add (i + j) := by
  unfold Addr.add
  repeat' split
  all_goals first | rfl | omega | (simp_all; done) | (simp_all; omega)
section
variable {P : Program} {ops : Array Oper} {rest : List Oper} {o : Oper} {a : Act} {Q : Exit → Act → World → Prop}
/-- A struct is loaded whole, its cells told as a list that is not laid open. -/
theorem load_ {W : World} (ty : TypeId) (x : Operand) (ho : o.op = .load ty x) (hgd : o.guard = none) (ad : Addr) (hx : a.eval x = .pointer (some ad)) (cs : List Value) (fs : Array Field) (hu : P.underlying ty = some (.struct fs)) (hi : (P.info? ty).map (·.size) = some cs.length)
    (hc : ∀ j v, cs[j]? = some v → W.cell? (ad.add j) = some v) (h : wpList P ops Q rest (a.put o.dst (.agg cs.toArray)) W) : wpList P ops Q (o :: rest) a W := by
  refine wpList_plain hgd fun K hK => ?_
  have hl : (loadCells ad cs.length).run P W = .ok cs.toArray W := run_loadCells_list (P := P) W ad cs hc
  have hr : (loadVar ty ad).run P W = .ok (.agg cs.toArray) W := by
    cases hq : P.info? ty with
    | none => simp [hq] at hi
    | some i =>
      have hs : i.size = cs.length := by simpa [hq] using hi
      have hagg : (isAgg ty).run P W = .ok true W := by
        unfold isAgg
        rw [Sem.run_bind, run_underlying hu W]
        simp
      simp [loadVar, Sem.run_bind, hagg, sizeOf, typeInfo, hq, hs, hl]
  unfold Oper.wp execOp
  simp only [ho, hx, Instr.loadAt, Instr.sureAddr, Sem.run_bind, Sem.run_pure, Result.andThen_ok, hr]
  exact hK _ _ h
/-- A struct that came in by value is boxed. -/
theorem box_ {W : World} (ty : TypeId) (x : Operand) (ho : o.op = .box ty x) (hgd : o.guard = none) (cs : Array Value) (hx : a.eval x = .agg cs)
    (h : ∀ g, g = W.heap.size → ∀ w1, w1.heap[g]? = some (.cells cs ty (0, 0)) → Below W.heap.size W w1 → wpList P ops Q rest (a.put o.dst (.pointer (some ⟨g, 0, none⟩))) w1) : wpList P ops Q (o :: rest) a W := by
  refine Kd.event_run hgd ?_ (h _ rfl _ (blk_new W _) (below_alloc (Below.refl _ _) _))
  unfold execOp
  simp only [ho, hx]
  go_simp
  try rfl
end
/-- An element of a row that is read: its cells as a list. -/
theorem elem_ {α : Type} {d : Kd α} {W : World} {A : Option Addr} {xs : List α} (h : Kd.C d W A xs.length xs) (i : Nat) (hi : i < xs.length) : ∃ ad c, A = some ad ∧ c.length = d.sz ∧ d.K W xs[i] c ∧ ∀ j v, c[j]? = some v → W.cell? ((ad.add (i * d.sz)).add j) = some v := by
  obtain ⟨ad, c, e, hl, hK, hc⟩ := Kd.C_get h xs[i] (i : Int) (by omega) (by omega)
  refine ⟨ad, c, e, hl, ?_, fun j v hj => ?_⟩
  · simpa [List.getD_eq_getElem?_getD, hi] using hK
  · rw [Addr_add_add]; exact hc j v hj
end Pl
namespace Pl
mutual
/-- szPlan -/
def szF : S30 → Int → Int
  | ⟨_, _, _, cells, _, _, keys, _, _, ks⟩, left =>
    if left - (cells.length : Int) < 0 then -1 else
    if left - (cells.length : Int) - (keys.length : Int) < 0 then -1 else
    if left - (cells.length : Int) - (keys.length : Int) - (ks.length : Int) < 0 then -1 else
    szGo ks (left - (cells.length : Int) - (keys.length : Int) - (ks.length : Int))
def szGo : List (S30) → Int → Int
  | [], left => left
  | x :: xs, left => if szF x left < 0 then -1 else szGo xs (szF x left)
end
mutual
theorem szF_le : ∀ (x : S30) (left : Int), 0 ≤ left → -1 ≤ szF x left ∧ szF x left ≤ left
  | ⟨_, _, _, cells, _, _, keys, _, _, ks⟩, left, h => by
    simp only [szF]
    split
    · omega
    split
    · omega
    split
    · omega
    have := szGo_le ks (left - (cells.length : Int) - (keys.length : Int) - (ks.length : Int)) (by omega)
    omega
theorem szGo_le : ∀ (xs : List (S30)) (left : Int), 0 ≤ left → -1 ≤ szGo xs left ∧ szGo xs left ≤ left
  | [], left, h => by simp only [szGo]; omega
  | x :: xs, left, h => by
    have h1 := szF_le x left h
    simp only [szGo]
    split
    · omega
    have := szGo_le xs (szF x left) (by omega)
    omega
end
def szSo (xs : List (S30)) (left : Int) : Int := if left - (xs.length : Int) < 0 then -1 else szGo xs (left - (xs.length : Int))
theorem szF_eq (x : S30) (left : Int) : szF x left = if left - (x.f3.length : Int) < 0 then -1 else if left - (x.f3.length : Int) - (x.f6.length : Int) < 0 then -1 else szSo x.f9 (left - (x.f3.length : Int) - (x.f6.length : Int)) := by
  cases x; rfl
/-- A plan's numbers and lists are what can be read. -/
abbrev OkP := Ok30
end Pl
namespace Pl
def cutL (a : Int) (n : Nat) : Int := if a - (n : Int) < 0 then -1 else a - (n : Int)
theorem cutL_le (a : Int) (n : Nat) (h : 0 ≤ a) : cutL a n ≤ a := by unfold cutL; split <;> omega
theorem szF_eq2 (x : S30) (left : Int) (h : 0 ≤ left) : szF x left = if cutL left x.f3.length < 0 then -1 else if cutL (cutL left x.f3.length) x.f6.length < 0 then -1 else szSo x.f9 (cutL (cutL left x.f3.length) x.f6.length) := by
  rw [szF_eq]
  unfold cutL
  by_cases h1 : left - (x.f3.length : Int) < 0
  · simp [h1]
  by_cases h2 : left - (x.f3.length : Int) - (x.f6.length : Int) < 0
  · simp [h1, h2]
  · simp [h1, h2]
theorem szSo_ge (xs : List (S30)) (left : Int) : szSo xs left < 0 → szSo xs left = -1 := by
  intro h
  unfold szSo at h ⊢
  split
  · rfl
  next hc =>
    rw [if_neg hc] at h
    have := szGo_le xs (left - (xs.length : Int)) (by omega)
    omega
end Pl
namespace Pl
theorem szLeaf (a : Int) (n : Nat) (h0 : 0 ≤ a) (h1 : a ≤ 1048576) (hn : n ≤ maxLen) : wrap64 (a - (n : Int)) = a - (n : Int) := by unfold maxLen at hn; unfold wrap64; omega
theorem szCellS_c (A : Option Addr) (c : Nat) (l : List (S23)) (a : Int) (w : World) (hr : Kd.C k23 w A l.length l) (hc : l.length ≤ c) (h0 : 0 ≤ a) (h1 : a ≤ 1048576) (hn : l.length ≤ maxLen) :
    Calls Tryz.prog 15 #[.slice A l.length c, .int .i64 a] w fun e w' => e = .returned (.int .i64 (cutL a l.length)) ∧ Below w.heap.size w w' :=
  (laws_szCellS.calls A c l a _ w hr hc (by unfold laws_szCellS.f cutL; rw [szLeaf a _ h0 h1 hn]; split <;> rfl)).mono fun _ _ ⟨h, hd⟩ => ⟨h, hd.below⟩
theorem szIntS_c (A : Option Addr) (c : Nat) (l : List Int) (a : Int) (w : World) (hr : Kd.C (Kd.int .i64) w A l.length l) (hc : l.length ≤ c) (h0 : 0 ≤ a) (h1 : a ≤ 1048576) (hn : l.length ≤ maxLen) :
    Calls Tryz.prog 16 #[.slice A l.length c, .int .i64 a] w fun e w' => e = .returned (.int .i64 (cutL a l.length)) ∧ Below w.heap.size w w' :=
  (laws_szIntS.calls A c l a _ w hr hc (by unfold laws_szIntS.f cutL; rw [szLeaf a _ h0 h1 hn]; split <;> rfl)).mono fun _ _ ⟨h, hd⟩ => ⟨h, hd.below⟩
/-- What szPlanS does, of plans of at most so many parts. -/
def SzS (N : Nat) : Prop := ∀ (xs : List (S30)) (A : Option Addr) (c : Nat) (left : Int) (w : World), szs30 xs ≤ N → Kd.C k30 w A xs.length xs → xs.length ≤ c → xs.length ≤ maxLen → (∀ y ∈ xs, OkP y) → 0 ≤ left → left ≤ 1048576 →
  Calls Tryz.prog 17 #[.slice A xs.length c, .int .i64 left] w fun e w' => e = .returned (.int .i64 (szSo xs left)) ∧ Below w.heap.size w w'
def SzP (N : Nat) : Prop := ∀ (x : S30) (cs : Array Value) (left : Int) (w : World), sz30 x ≤ N → k30.K w x cs.toList → OkP x → 0 ≤ left → left ≤ 1048576 →
  Calls Tryz.prog 6 #[.agg cs, .int .i64 left] w fun e w' => e = .returned (.int .i64 (szF x left)) ∧ Below w.heap.size w w'
set_option maxHeartbeats 4000000 in
set_option maxRecDepth 100000 in
theorem szPlan_step (N : Nat) (hS : SzS N) : SzP (N + 1) := by
  intro x cs left w hn hK hok h0 h1
  have hkids : szs30 x.f9 ≤ N := by have := sz30_kids x; omega
  obtain ⟨A12, c12, A15, c15, A18, c18, hcs, l12, g12, l15, g15, l18, g18⟩ := k30_open hK
  have E12 := Aside0.mk (show cs[12]? = some (.slice A12 x.f3.length c12) by rw [← Array.getElem?_toList, hcs]; rfl)
  have E15 := Aside0.mk (show cs[15]? = some (.slice A15 x.f6.length c15) by rw [← Array.getElem?_toList, hcs]; rfl)
  have E18 := Aside0.mk (show cs[18]? = some (.slice A18 x.f9.length c18) by rw [← Array.getElem?_toList, hcs]; rfl)
  clear hcs hK hn
  have ok := hok.out
  have o3 : x.f3.length ≤ maxLen := ok.2.2.2.1.1
  have o6 : x.f6.length ≤ maxLen := ok.2.2.2.2.2.2.1.1
  have o9 : x.f9.length ≤ maxLen ∧ ∀ y ∈ x.f9, OkP y := ok.2.2.2.2.2.2.2.2.2
  clear ok hok
  have HS := Aside0.mk (fun A c l w hr hc h0 h1 => hS x.f9 A c l w hkids hr hc o9.1 o9.2 h0 h1)
  have C1 := Aside0.mk (fun w hr => szCellS_c A12 c12 x.f3 left w hr l12 h0 h1 o3)
  have C2 := Aside0.mk (fun w hr h0 h1 => szIntS_c A15 c15 x.f6 (cutL left x.f3.length) w hr l15 h0 h1 o6)
  have G12 := Aside0.mk g12
  have G15 := Aside0.mk g15
  have G18 := Aside0.mk g18
  have L18 := Aside0.mk l18
  have SZ := Aside0.mk (szF_eq2 x left h0)
  have b1 := cutL_le left x.f3.length h0
  have B2 := Aside0.mk (cutL_le (cutL left x.f3.length) x.f6.length)
  have B3 := Aside0.mk (szSo_ge x.f9 (cutL (cutL left x.f3.length) x.f6.length))
  clear hS l12 l15 g12 g15 g18 l18 o3 o6 o9
  go_enter Tryz.func6, Tryz.ntmps6
  go_wp2_with (first
    | ((with_reducible refine gate_dst (N := 2) rfl ?_); refine box_ 30 (.tmp 0) rfl rfl cs rfl ?_; intro g hg w1 hbx hB; have HB := Aside0.mk hB; have q12 := (blk_cell hbx 12).trans E12.out; have q15 := (blk_cell hbx 15).trans E15.out; have q18 := (blk_cell hbx 18).trans E18.out; clear hbx hB hg)
    | (go_at_call 15; refine (C1.out _ (Kd.C_below G12.out HB.out)).mono ?_; rintro e w2 ⟨rfl, hB2⟩; have p15 := zhs hB2 q15; have p18 := zhs hB2 q18; have HB2 := Aside0.mk (below_step HB.out hB2); clear hB2 q12 q15 q18)
    | (go_at_call 16; refine (C2.out _ (Kd.C_below G15.out HB2.out) (by omega) (by omega)).mono ?_; rintro e w3 ⟨rfl, hB3⟩; have r18 := zhs hB3 p18; have HB3 := Aside0.mk (below_step HB2.out hB3); have b2 := B2.out (by omega); clear hB3 p15 p18)
    | (go_at_call 17; refine (HS.out _ _ _ _ (Kd.C_below G18.out HB3.out) L18.out (by omega) (by omega)).mono ?_; rintro e w4 ⟨rfl, hB4⟩; have HB4 := Aside0.mk (below_step HB3.out hB4); clear hB4 r18))
  all_goals go_ret
  · exact ⟨by rw [SZ.out, if_pos (by omega)]; rfl, HB2.out⟩
  · exact ⟨by rw [SZ.out, if_neg (by omega), if_pos (by omega)]; rfl, HB3.out⟩
  · exact ⟨by rw [SZ.out, if_neg (by omega), if_neg (by omega), B3.out (by omega)]; rfl, HB4.out⟩
  · exact ⟨by rw [SZ.out, if_neg (by omega), if_neg (by omega)]; rfl, HB4.out⟩
/-- What is left when the plans behind place i are still to come. -/
theorem szGo_drop (xs : List (S30)) (i : Nat) (h : i < xs.length) (left : Int) : szGo (xs.drop i) left = if szF xs[i] left < 0 then -1 else szGo (xs.drop (i + 1)) (szF xs[i] left) := by
  rw [List.drop_eq_getElem_cons h]; rfl
theorem szGo_end (xs : List (S30)) (i : Nat) (h : xs.length ≤ i) (left : Int) : szGo (xs.drop i) left = left := by
  rw [List.drop_eq_nil_of_le h]; rfl
set_option maxHeartbeats 4000000 in
set_option maxRecDepth 100000 in
theorem szPlanS_step (N : Nat) (hP : ∀ M, M ≤ N → SzP M) : SzS N := by
  intro xs A c left w hn hr hc hm hok h0 h1
  have hm' := hm
  unfold maxLen at hm'
  have HC := Aside0.mk hr
  have HN := Aside0.mk hn
  have OK := Aside0.mk hok
  have HP := Aside0.mk hP
  clear hP hn hr hok hm
  by_cases hl : left - (xs.length : Int) < 0
  · go_enter Tryz.func17, Tryz.ntmps17
    go_wp2
    go_ret
    exact ⟨by unfold szSo; rw [if_pos (by omega)]; rfl, Below.refl _ _⟩
  go_enter Tryz.func17, Tryz.ntmps17
  go_wp2
  go_loopw [1, 5] (fun v1 v5 wr => ∃ (a : Int) (i : Nat), v1 = .int .i64 a ∧ v5 = .int .i64 i ∧ i ≤ xs.length ∧ 0 ≤ a ∧ a ≤ 1048576 ∧ Aside0 (szSo xs left = szGo (xs.drop i) a) ∧ Aside0 (Below w.heap.size w wr)) (fun _ v5 _ => xs.length - (intOf v5).toNat)
  case atStart => exact ⟨_, 0, rfl, rfl, Nat.zero_le _, by omega, by omega, ⟨by unfold szSo; rw [if_neg (by omega), List.drop_zero]⟩, ⟨Below.refl _ _⟩⟩
  case round =>
    obtain ⟨a, i, rfl, rfl, hi, ha0, ha1, HA, HB⟩ := hrel
    by_cases hlt : i < xs.length
    · obtain ⟨ad, c0, rfl, hcl, hK, hcell⟩ := elem_ (Kd.C_below HC.out HB.out) i hlt
      have hsz := szs30_get hlt
      have CA := Aside0.mk (fun (w' : World) (hK' : k30.K w' xs[i] c0.toArray.toList) => HP.out (sz30 xs[i]) (by have := HN.out; omega) xs[i] c0.toArray a w' (Nat.le_refl _) hK' (OK.out _ (List.getElem_mem hlt)) ha0 ha1)
      have HK := Aside0.mk (show k30.K wr xs[i] c0.toArray.toList from hK)
      have HE := Aside0.mk hcell
      have HL := Aside0.mk hcl
      have GD := Aside0.mk (HA.out.trans (szGo_drop xs i hlt a))
      have b1 := szF_le xs[i] a ha0
      obtain ⟨r, hr⟩ : ∃ r, r = szF xs[i] a := ⟨_, rfl⟩
      rw [← hr] at CA GD b1
      clear hsz hK hcell hcl HA hr
      go_wp2_with (first
        | ((with_reducible refine gate_dst (N := 21) rfl ?_); refine load_ 30 (.tmp 20) rfl rfl (ad.add (i * 19)) ?hx c0 _ Tryz.underlying30 ?hi HE.out ?_; (case hx => first | rfl | (go_simp; done) | (go_simp; rfl)); (case hi => rw [HL.out]; kernel_rfl))
        | (go_at_call 6; refine (CA.out _ HK.out).mono ?_; rintro e w2 ⟨rfl, hB2⟩; have HB2 := Aside0.mk (below_step HB.out hB2); clear hB2))
      · go_ret
        exact ⟨by rw [GD.out, if_pos (by omega)]; rfl, HB2.out⟩
      · go_roundw
        case rel => exact ⟨r, i + 1, rfl, by go_num, by omega, by omega, by omega, ⟨by rw [GD.out, if_neg (by omega)]⟩, HB2⟩
        case measure => simp [intOf]; omega
    · have GE := Aside0.mk (HA.out.trans (szGo_end xs i (by omega) a))
      go_wp2
      go_ret
      exact ⟨by rw [GE.out]; rfl, HB.out⟩
theorem szP_all (N : Nat) : SzP N := by
  induction N using Nat.strongRecOn with
  | _ N ih =>
    cases N with
    | zero => intro x cs left w hn; have := sz30_kids x; omega
    | succ N => exact szPlan_step N (szPlanS_step N (fun M hM => ih M (by omega)))
/-- **laws.szPlan**: at every plan that can be read. -/
theorem szPlan_c (x : S30) (cs : Array Value) (left : Int) (w : World) (hK : k30.K w x cs.toList) (hok : OkP x) (h0 : 0 ≤ left) (h1 : left ≤ 1048576) :
    Calls Tryz.prog 6 #[.agg cs, .int .i64 left] w fun e w' => e = .returned (.int .i64 (szF x left)) ∧ Below w.heap.size w w' := szP_all _ x cs left w (Nat.le_refl _) hK hok h0 h1
end Pl
/-! ## Leaf functions: what they come to -/
namespace Pl
theorem ev_pos {α : Type} {c : Prop} [Decidable c] {f g : Nat → Option α} {r : α} (h : c) (e : Ev f r) : Ev (fun k => if c then f k else g k) r :=
  Ev.congr (fun _ => if_pos h) e
theorem ev_neg {α : Type} {c : Prop} [Decidable c] {f g : Nat → Option α} {r : α} (h : ¬ c) (e : Ev g r) : Ev (fun k => if c then f k else g k) r :=
  Ev.congr (fun _ => if_neg h) e
theorem ev_now {α : Type} {a r : α} (h : a = r) : Ev (fun _ => some a) r := h ▸ Ev.now a
theorem ev_some {α β : Type} {f : Nat → α → Option β} {a : α} {r : β} (k : Ev (fun n => f n a) r) : Ev (fun n => (some a).bind (f n)) r :=
  Ev.congr (fun _ => rfl) k
theorem ev_eq {α β : Type} {o : Option α} {f : Nat → α → Option β} {a : α} {r : β} (h : o = some a) (k : Ev (fun n => f n a) r) : Ev (fun n => o.bind (f n)) r := by
  subst h; exact ev_some k
/-- A loop that counts up: from i on it comes to F i. -/
theorem ev_down {α : Type} (L : Nat → Nat → Option α) (F : Nat → α) (n : Nat) (last : Ev (fun k => L k n) (F n))
    (step : ∀ i, i < n → Ev (fun k => L k (i + 1)) (F (i + 1)) → Ev (fun k => L k i) (F i)) : ∀ i, i ≤ n → Ev (fun k => L k i) (F i) := by
  have go : ∀ d i, i + d = n → Ev (fun k => L k i) (F i) := by
    intro d
    induction d with
    | zero => intro i h; obtain rfl : i = n := by omega
              exact last
    | succ d ih => intro i h; exact step i (by omega) (ih (i + 1) (by omega))
  exact fun i h => go (n - i) i (by omega)

theorem w64 {x : Int} (h0 : -9223372036854775808 ≤ x) (h1 : x ≤ 9223372036854775807) : wrap64 x = x := by unfold wrap64; omega
theorem w64n {n : Nat} (h : n < 9223372036854775807) : wrap64 ((n : Int) + 1) = ((n + 1 : Nat) : Int) := by rw [w64 (by omega) (by omega)]; omega
theorem rd_nat (l : List Int) (i : Nat) : rd l (i : Int) = l.getD i 0 := rfl
theorem drop_rd (l : List Int) (i : Nat) (h : i < l.length) : l.drop i = rd l (i : Int) :: l.drop (i + 1) := by
  rw [List.drop_eq_getElem_cons h, rd_nat, List.getD_eq_getElem?_getD, List.getElem?_eq_getElem h]; rfl
theorem drop_end {α : Type} (l : List α) (i : Nat) (h : l.length ≤ i) : l.drop i = [] := List.drop_eq_nil_of_le h
theorem toIntS_ev (l : List Int) (hl : l.length ≤ 35184372088832) : Ev (fun k => laws_toIntS.f k l) l := by
  have h := ev_down (fun k i => laws_toIntS.l0 k l (l.take i ++ List.replicate (l.length - i) 0) (i : Int)) (fun _ => l) l.length ?_ ?_ 0 (by omega)
  · unfold laws_toIntS.f
    refine ev_pos (by omega) (ev_pos (by omega) ?_)
    simpa using h
  · refine Ev.step (fun k => laws_toIntS.l0.eq_2 ..) (ev_neg (by omega) (ev_now (by simp)))
  · intro i hi ih
    refine Ev.step (fun k => laws_toIntS.l0.eq_2 ..) (ev_pos (by omega) (ev_pos (by omega) (ev_pos (by simp; omega) ?_)))
    rw [w64n (by omega)]
    have : (l.take i ++ List.replicate (l.length - i) 0).set (i : Int).toNat (rd l (i : Int)) = l.take (i + 1) ++ List.replicate (l.length - (i + 1)) 0 := by
      obtain ⟨d, hd⟩ : ∃ d, l.length - i = d + 1 := ⟨l.length - i - 1, by omega⟩
      have h2 : l.length - (i + 1) = d := by omega
      rw [hd, h2, List.replicate_succ, Int.toNat_natCast, List.set_append_right _ _ (by simp; omega), List.length_take, Nat.min_eq_left (by omega), Nat.sub_self, List.set_cons_zero,
        List.take_succ_eq_append_getElem hi, rd_nat, List.getD_eq_getElem?_getD, List.getElem?_eq_getElem hi, List.append_assoc]
      rfl
    rw [this]
    exact ih
theorem eqIntS_ev (a b : List Int) (ha : a.length < 4611686018427387904) : Ev (fun k => laws_eqIntS.f k a b) (decide (a = b)) := by
  unfold laws_eqIntS.f
  by_cases hl : a.length = b.length
  · refine ev_pos (by omega) ?_
    have h := ev_down (fun k i => laws_eqIntS.l0 k a b (i : Int)) (fun i => decide (a.drop i = b.drop i)) a.length ?_ ?_ 0 (by omega)
    · simpa using h
    · refine Ev.step (fun k => laws_eqIntS.l0.eq_2 ..) (ev_neg (by omega) (ev_now ?_))
      rw [drop_end a _ (Nat.le_refl _), drop_end b _ (by omega)]; simp
    · intro i hi ih
      refine Ev.step (fun k => laws_eqIntS.l0.eq_2 ..) (ev_pos (by omega) (ev_pos (by omega) (ev_pos (by omega) ?_)))
      rw [drop_rd a i hi, drop_rd b i (by omega)]
      by_cases h1 : rd a i = rd b i
      · refine ev_pos h1 ?_
        rw [w64n (by omega)]
        simpa [h1] using ih
      · exact ev_neg h1 (ev_now (by simp [h1]))
  · exact ev_neg (by omega) (ev_now (by symm; rw [decide_eq_false_iff_not]; intro h; exact hl (by rw [h])))
theorem equal_ev (a b : List Int) (ha : a.length < 4611686018427387904) : Ev (fun k => slices_Equal_int_int.f k a b) (decide (a = b)) := by
  unfold slices_Equal_int_int.f
  by_cases hl : a.length = b.length
  · refine ev_pos (by omega) ?_
    have h := ev_down (fun k i => slices_Equal_int_int.l0 k a b (a.length : Int) (i : Int)) (fun i => decide (a.drop i = b.drop i)) a.length ?_ ?_ 0 (by omega)
    · simpa using h
    · refine Ev.step (fun k => slices_Equal_int_int.l0.eq_2 ..) (ev_neg (by omega) (ev_now ?_))
      rw [drop_end a _ (Nat.le_refl _), drop_end b _ (by omega)]; simp
    · intro i hi ih
      refine Ev.step (fun k => slices_Equal_int_int.l0.eq_2 ..) (ev_pos (by omega) (ev_pos (by omega) (ev_pos (by omega) (ev_pos (by omega) ?_))))
      rw [drop_rd a i hi, drop_rd b i (by omega)]
      by_cases h1 : rd a i = rd b i
      · refine ev_pos h1 ?_
        rw [w64n (by omega)]
        simpa [h1] using ih
      · exact ev_neg h1 (ev_now (by simp [h1]))
  · exact ev_neg (by omega) (ev_now (by symm; rw [decide_eq_false_iff_not]; intro h; exact hl (by rw [h])))
/-- l1Order -/
def ordL : List Int → List Int → Int → Int
  | [], _, d => d
  | _ :: _, [], d => d
  | a :: x, b :: y, d => if a < b then -1 else if b < a then 1 else ordL x y d

theorem ordL_zero : ∀ a b : List Int, ordL a b ((a.length : Int) - b.length) = 0 ↔ a = b := by
  have go : ∀ (a b : List Int) (d : Int), d = (a.length : Int) - b.length → (ordL a b d = 0 ↔ a = b) := by
    intro a
    induction a with
    | nil => intro b d hd; cases b <;> simp [ordL] at hd ⊢ <;> omega
    | cons x a ih =>
      intro b d hd
      cases b with
      | nil => simp [ordL] at hd ⊢; omega
      | cons y b =>
        have := ih b d (by simp at hd; omega)
        simp only [ordL]
        by_cases h1 : x < y
        · rw [if_pos h1]; simp; omega
        · rw [if_neg h1]
          by_cases h2 : y < x
          · rw [if_pos h2]; simp; omega
          · rw [if_neg h2, this]
            obtain rfl : x = y := by omega
            simp
  exact fun a b => go a b _ rfl
def cvC (x : S23) : S33 := ⟨x.f0, x.f1, x.f2, x.f3⟩
def cvT (x : S25) : S35 := ⟨x.f0, x.f1, cvC x.f2, cvC x.f3⟩
theorem ext_cell {x y : S33} (h0 : x.f0 = y.f0) (h1 : x.f1 = y.f1) (h2 : x.f2 = y.f2) (h3 : x.f3 = y.f3) : x = y := by cases x; cases y; simp_all
theorem ext_test {x y : S35} (h0 : x.f0 = y.f0) (h1 : x.f1 = y.f1) (h2 : x.f2 = y.f2) (h3 : x.f3 = y.f3) : x = y := by cases x; cases y; simp_all
instance decCell : DecidableEq S33 := fun x y => decidable_of_iff (x.f0 = y.f0 ∧ x.f1 = y.f1 ∧ x.f2 = y.f2 ∧ x.f3 = y.f3) ⟨fun h => ext_cell h.1 h.2.1 h.2.2.1 h.2.2.2, fun h => by rw [h]; exact ⟨rfl, rfl, rfl, rfl⟩⟩
instance decTest : DecidableEq S35 := fun x y => decidable_of_iff (x.f0 = y.f0 ∧ x.f1 = y.f1 ∧ x.f2 = y.f2 ∧ x.f3 = y.f3) ⟨fun h => ext_test h.1 h.2.1 h.2.2.1 h.2.2.2, fun h => by rw [h]; exact ⟨rfl, rfl, rfl, rfl⟩⟩
theorem rd33 (l : List S33) (i : Nat) (h : i < l.length) : rd_T33 l (i : Int) = l[i] := by
  show l.getD _ _ = _
  rw [Int.toNat_natCast, List.getD_eq_getElem?_getD, List.getElem?_eq_getElem h]; rfl
theorem rd23 (l : List S23) (i : Nat) (h : i < l.length) : rd_T23 l (i : Int) = l[i] := by
  show l.getD _ _ = _
  rw [Int.toNat_natCast, List.getD_eq_getElem?_getD, List.getElem?_eq_getElem h]; rfl
theorem drop_at {α : Type} (l : List α) (i : Nat) (h : i < l.length) : l.drop i = l[i] :: l.drop (i + 1) := List.drop_eq_getElem_cons h
theorem dec_cons_ {α : Type} [DecidableEq α] {x y : α} {s u : List α} (h : x = y) : decide (x :: s = y :: u) = decide (s = u) := by subst h; rw [decide_eq_decide]; simp
theorem dec_cons_ne_ {α : Type} [DecidableEq α] {x y : α} {s u : List α} (h : ¬ x = y) : decide (x :: s = y :: u) = false := by rw [decide_eq_false_iff_not]; intro e; injection e with e1 e2; exact h e1
theorem toCellS_ev (l : List S23) (hl : l.length ≤ 1048576) : Ev (fun k => laws_toCellS.f k l) (l.map cvC) := by
  have h := ev_down (fun k i => laws_toCellS.l0 k l ((l.take i).map cvC ++ List.replicate (l.length - i) z33) (i : Int)) (fun _ => l.map cvC) l.length ?_ ?_ 0 (by omega)
  · unfold laws_toCellS.f
    refine ev_pos (by omega) (ev_pos (by omega) ?_)
    simpa using h
  · refine Ev.step (fun k => laws_toCellS.l0.eq_2 ..) (ev_neg (by omega) (ev_now (by simp)))
  · intro i hi ih
    refine Ev.step (fun k => laws_toCellS.l0.eq_2 ..) (ev_pos (by omega) (ev_pos (by omega) ?_))
    rw [rd23 l i hi]
    refine ev_eq (a := (l[i].f0, l[i].f1, l[i].f2, l[i].f3)) rfl (ev_pos (by simp; omega) ?_)
    rw [w64n (by omega)]
    have : ((l.take i).map cvC ++ List.replicate (l.length - i) z33).set (i : Int).toNat (⟨l[i].f0, l[i].f1, l[i].f2, l[i].f3⟩ : S33) = (l.take (i + 1)).map cvC ++ List.replicate (l.length - (i + 1)) z33 := by
      obtain ⟨d, hd⟩ : ∃ d, l.length - i = d + 1 := ⟨l.length - i - 1, by omega⟩
      have h2 : l.length - (i + 1) = d := by omega
      rw [hd, h2, List.replicate_succ, Int.toNat_natCast, List.set_append_right _ _ (by simp; omega), List.length_map, List.length_take, Nat.min_eq_left (by omega), Nat.sub_self, List.set_cons_zero,
        List.take_succ_eq_append_getElem hi, List.map_append, List.append_assoc]
      rfl
    rw [this]
    exact ih
theorem eqCell_ev (x y : S33) : laws_eqCell.f x.f0 x.f1 x.f2 x.f3 y.f0 y.f1 y.f2 y.f3 = some (decide (x = y)) := by
  unfold laws_eqCell.f
  by_cases h0 : x.f0 = y.f0
  · by_cases h1 : x.f1 = y.f1
    · by_cases h2 : x.f2 = y.f2
      · by_cases h3 : x.f3 = y.f3
        · rw [if_pos h0, if_pos h1, if_pos h2, if_pos h3, decide_eq_true (ext_cell h0 h1 h2 h3)]
        · rw [if_pos h0, if_pos h1, if_pos h2, if_neg h3, decide_eq_false (fun e => h3 (by rw [e]))]
      · rw [if_pos h0, if_pos h1, if_neg h2, decide_eq_false (fun e => h2 (by rw [e]))]
    · rw [if_pos h0, if_neg h1, decide_eq_false (fun e => h1 (by rw [e]))]
  · rw [if_neg h0, decide_eq_false (fun e => h0 (by rw [e]))]
theorem eqTest_ev (x y : S35) : laws_eqTest.f x.f0 x.f1 x.f2.f0 x.f2.f1 x.f2.f2 x.f2.f3 x.f3.f0 x.f3.f1 x.f3.f2 x.f3.f3 y.f0 y.f1 y.f2.f0 y.f2.f1 y.f2.f2 y.f2.f3 y.f3.f0 y.f3.f1 y.f3.f2 y.f3.f3 = some (decide (x = y)) := by
  unfold laws_eqTest.f
  rw [eqCell_ev, eqCell_ev]
  by_cases h0 : x.f0 = y.f0
  · by_cases h1 : x.f1 = y.f1
    · by_cases h2 : x.f2 = y.f2
      · by_cases h3 : x.f3 = y.f3
        · rw [decide_eq_true (ext_test h0 h1 h2 h3)]; simp [h0, h1, h2, h3]
        · rw [decide_eq_false (fun e : x = y => h3 (by rw [e]))]; simp [h0, h1, h2, h3]
      · rw [decide_eq_false (fun e : x = y => h2 (by rw [e]))]; simp [h0, h1, h2]
    · rw [decide_eq_false (fun e : x = y => h1 (by rw [e]))]; simp [h0, h1]
  · rw [decide_eq_false (fun e : x = y => h0 (by rw [e]))]; simp [h0]
theorem eqCellS_ev (a b : List S33) (ha : a.length ≤ 1048576) : Ev (fun k => laws_eqCellS.f k a b) (decide (a = b)) := by
  unfold laws_eqCellS.f
  by_cases hl : a.length = b.length
  · refine ev_pos (by omega) ?_
    have h := ev_down (fun k i => laws_eqCellS.l0 k a b (i : Int)) (fun i => decide (a.drop i = b.drop i)) a.length ?_ ?_ 0 (by omega)
    · simpa using h
    · refine Ev.step (fun k => laws_eqCellS.l0.eq_2 ..) (ev_neg (by omega) (ev_now ?_))
      rw [drop_end a _ (Nat.le_refl _), drop_end b _ (by omega)]; simp
    · intro i hi ih
      refine Ev.step (fun k => laws_eqCellS.l0.eq_2 ..) (ev_pos (by omega) (ev_pos (by omega) (ev_pos (by omega) ?_)))
      rw [rd33 a i hi, rd33 b i (by omega)]
      refine ev_eq (eqCell_ev _ _) ?_
      rw [drop_at a i hi, drop_at b i (by omega)]
      by_cases h1 : a[i] = b[i]
      · refine ev_pos (decide_eq_true h1) ?_
        rw [w64n (by omega), dec_cons_ h1]
        exact ih
      · exact ev_neg (by rw [decide_eq_true_iff]; exact h1) (ev_now (dec_cons_ne_ h1).symm)
  · exact ev_neg (by omega) (ev_now (by symm; rw [decide_eq_false_iff_not]; intro h; exact hl (by rw [h])))
theorem cell_test (x y : S33) : ((!(x.f0 == y.f0) || (!(x.f1 == y.f1) || (!(x.f2 == y.f2) || !(x.f3 == y.f3)))) = true) ↔ ¬ x = y := by
  constructor
  · intro h e; subst e; simp at h
  · intro h
    by_cases h0 : x.f0 = y.f0
    · by_cases h1 : x.f1 = y.f1
      · by_cases h2 : x.f2 = y.f2
        · by_cases h3 : x.f3 = y.f3
          · exact absurd (ext_cell h0 h1 h2 h3) h
          · simp [h3]
        · simp [h2]
      · simp [h1]
    · simp [h0]
theorem equalC_ev (a b : List S33) (ha : a.length ≤ 1048576) : Ev (fun k => slices_Equal_impl_Cell_impl_Cell.f k a b) (decide (a = b)) := by
  unfold slices_Equal_impl_Cell_impl_Cell.f
  by_cases hl : a.length = b.length
  · refine ev_pos (by omega) ?_
    have h := ev_down (fun k i => slices_Equal_impl_Cell_impl_Cell.l0 k a b (a.length : Int) (i : Int)) (fun i => decide (a.drop i = b.drop i)) a.length ?_ ?_ 0 (by omega)
    · simpa using h
    · refine Ev.step (fun k => slices_Equal_impl_Cell_impl_Cell.l0.eq_2 ..) (ev_neg (by omega) (ev_now ?_))
      rw [drop_end a _ (Nat.le_refl _), drop_end b _ (by omega)]; simp
    · intro i hi ih
      refine Ev.step (fun k => slices_Equal_impl_Cell_impl_Cell.l0.eq_2 ..) (ev_pos (by omega) (ev_pos (by omega) (ev_pos (by omega) (ev_pos (by omega) ?_))))
      rw [rd33 a i hi, rd33 b i (by omega)]
      rw [drop_at a i hi, drop_at b i (by omega)]
      by_cases h1 : a[i] = b[i]
      · refine ev_neg (fun h => (cell_test _ _).1 h h1) ?_
        rw [w64n (by omega), dec_cons_ h1]
        exact ih
      · exact ev_pos ((cell_test _ _).2 h1) (ev_now (dec_cons_ne_ h1).symm)
  · exact ev_neg (by omega) (ev_now (by symm; rw [decide_eq_false_iff_not]; intro h; exact hl (by rw [h])))
/-! contracts -/
def testCells (x : S35) : List Value := [.int .i64 x.f0, .bool x.f1, .int .i64 x.f2.f0, .int .i64 x.f2.f1, .int .i64 x.f2.f2, .int .i64 x.f2.f3, .int .i64 x.f3.f0, .int .i64 x.f3.f1, .int .i64 x.f3.f2, .int .i64 x.f3.f3]
def testCells' (x : S25) : List Value := [.int .i64 x.f0, .bool x.f1, .int .i64 x.f2.f0, .int .i64 x.f2.f1, .int .i64 x.f2.f2, .int .i64 x.f2.f3, .int .i64 x.f3.f0, .int .i64 x.f3.f1, .int .i64 x.f3.f2, .int .i64 x.f3.f3]
theorem toTest_c (x : S25) (w : World) : Calls Tryz.prog 20 #[.agg (testCells' x).toArray] w fun e w' => e = .returned (.agg (testCells (cvT x)).toArray) ∧ Below w.heap.size w w' :=
  laws_toTest.calls x.f0 x.f1 x.f2.f0 x.f2.f1 x.f2.f2 x.f2.f3 x.f3.f0 x.f3.f1 x.f3.f2 x.f3.f3 _ _ _ _ _ _ _ _ _ _ w rfl
theorem toIntS_c (A : Option Addr) (c : Nat) (l : List Int) (w : World) (hl : l.length ≤ 1048576) (hr : Kd.C (Kd.int .i64) w A l.length l) (hc : l.length ≤ c) :
    Calls Tryz.prog 22 #[.slice A l.length c] w fun e w' => ∃ v, e = .returned v ∧ Kd.R (Kd.int .i64) 3 w' w.heap.size (fun _ => True) v l ∧ Below w.heap.size w w' := by
  obtain ⟨k, hk⟩ := (toIntS_ev l (by omega)).rounds
  exact laws_toIntS.calls k A c l l w hr hc hk
theorem toCellS_c (A : Option Addr) (c : Nat) (l : List S23) (w : World) (hl : l.length ≤ 1048576) (hr : Kd.C k23 w A l.length l) (hc : l.length ≤ c) :
    Calls Tryz.prog 21 #[.slice A l.length c] w fun e w' => ∃ v, e = .returned v ∧ Kd.R k33 33 w' w.heap.size (fun _ => True) v (l.map cvC) ∧ Below w.heap.size w w' := by
  obtain ⟨k, hk⟩ := (toCellS_ev l (by omega)).rounds
  exact laws_toCellS.calls k A c l _ w hr hc hk
theorem eqTest_c (x y : S35) (w : World) : Calls Tryz.prog 26 #[.agg (testCells x).toArray, .agg (testCells y).toArray] w fun e w' => e = .returned (.bool (decide (x = y))) ∧ Below w.heap.size w w' :=
  laws_eqTest.calls x.f0 x.f1 x.f2.f0 x.f2.f1 x.f2.f2 x.f2.f3 x.f3.f0 x.f3.f1 x.f3.f2 x.f3.f3 y.f0 y.f1 y.f2.f0 y.f2.f1 y.f2.f2 y.f2.f3 y.f3.f0 y.f3.f1 y.f3.f2 y.f3.f3 _ w (eqTest_ev x y)
theorem eqIntS_c (A : Option Addr) (c : Nat) (l : List Int) (B : Option Addr) (d : Nat) (m : List Int) (w : World) (hl : l.length ≤ 1048576) (hr : Kd.C (Kd.int .i64) w A l.length l) (hc : l.length ≤ c) (hr' : Kd.C (Kd.int .i64) w B m.length m) (hc' : m.length ≤ d) :
    Calls Tryz.prog 28 #[.slice A l.length c, .slice B m.length d] w fun e w' => e = .returned (.bool (decide (l = m))) ∧ Below w.heap.size w w' := by
  obtain ⟨k, hk⟩ := (eqIntS_ev l m (by omega)).rounds
  exact (laws_eqIntS.calls k A c l B d m _ w hr hc hr' hc' hk).mono fun _ _ ⟨h, hd⟩ => ⟨h, hd.below⟩
theorem eqCellS_c (A : Option Addr) (c : Nat) (l : List S33) (B : Option Addr) (d : Nat) (m : List S33) (w : World) (hl : l.length ≤ 1048576) (hr : Kd.C k33 w A l.length l) (hc : l.length ≤ c) (hr' : Kd.C k33 w B m.length m) (hc' : m.length ≤ d) :
    Calls Tryz.prog 27 #[.slice A l.length c, .slice B m.length d] w fun e w' => e = .returned (.bool (decide (l = m))) ∧ Below w.heap.size w w' := by
  obtain ⟨k, hk⟩ := (eqCellS_ev l m (by omega)).rounds
  exact laws_eqCellS.calls k A c l B d m _ w hr hc hr' hc' hk
theorem equalI_c (A : Option Addr) (c : Nat) (l : List Int) (B : Option Addr) (d : Nat) (m : List Int) (w : World) (hl : l.length ≤ 1048576) (hr : Kd.C (Kd.int .i64) w A l.length l) (hc : l.length ≤ c) (hr' : Kd.C (Kd.int .i64) w B m.length m) (hc' : m.length ≤ d) :
    Calls Tryz.prog 65 #[.slice A l.length c, .slice B m.length d] w fun e w' => e = .returned (.bool (decide (l = m))) ∧ Below w.heap.size w w' := by
  obtain ⟨k, hk⟩ := (equal_ev l m (by omega)).rounds
  exact (slices_Equal_int_int.calls k A c l B d m _ w hr hc hr' hc' hk).mono fun _ _ ⟨h, hd⟩ => ⟨h, hd.below⟩
theorem equalC_c (A : Option Addr) (c : Nat) (l : List S33) (B : Option Addr) (d : Nat) (m : List S33) (w : World) (hl : l.length ≤ 1048576) (hr : Kd.C k33 w A l.length l) (hc : l.length ≤ c) (hr' : Kd.C k33 w B m.length m) (hc' : m.length ≤ d) :
    Calls Tryz.prog 64 #[.slice A l.length c, .slice B m.length d] w fun e w' => e = .returned (.bool (decide (l = m))) ∧ Below w.heap.size w w' := by
  obtain ⟨k, hk⟩ := (equalC_ev l m (by omega)).rounds
  exact (slices_Equal_impl_Cell_impl_Cell.calls k A c l B d m _ w hr hc hr' hc' hk).mono fun _ _ ⟨h, hd⟩ => ⟨h, hd.below⟩
end Pl
namespace Pl
section
variable {P : Program} {ops : Array Oper} {rest : List Oper} {o : Oper} {a : Act} {Q : Exit → Act → World → Prop}
/-- A variable of a struct's type is laid. -/
theorem alloc_ {W : World} (ty : TypeId) (ho : o.op = .alloc ty) (hgd : o.guard = none) (z : List Value) (n b : Nat) (hi : (P.info? ty).map (fun i => (i.zero, i.size, i.bytes)) = some (some (.agg z.toArray), n, b))
    (h : ∀ g, g = W.heap.size → ∀ w1, w1.heap[g]? = some (.cells z.toArray ty (0, 0)) → Below W.heap.size W w1 → wpList P ops Q rest (a.put o.dst (.pointer (some ⟨g, 0, none⟩))) w1) : wpList P ops Q (o :: rest) a W := by
  refine Kd.event_run hgd ?_ (h _ rfl _ (blk_new W _) (below_alloc (Below.refl _ _) _))
  obtain ⟨i, hi1, hi2⟩ := Option.map_eq_some_iff.1 hi
  simp only [Prod.mk.injEq] at hi2
  obtain ⟨hz, -, -⟩ := hi2
  unfold execOp
  simp only [ho]
  simp [Instr.alloc, zeroValue, typeInfo, hi1, hz, go_sem]
/-- A store into a block of one's own: what the block is behind it. -/
theorem store_ {W : World} (t : TypeId) (p x : Operand) (ho : o.op = .store t p x) (hd : o.dst = none) (hgd : o.guard = none) (g o' : Nat) (hp : a.eval p = .pointer (some ⟨g, o', none⟩)) (u : Value) (hx : a.eval x = u) (seg : List Value) (hu : u.cells.toList = seg)
    (ht : (P.info? t).map (·.size) = some seg.length) (h1 : ∀ q ∈ seg, q.oneCell' = true) (cur : List Value) (e : TypeId) (hh : W.heap[g]? = some (.cells cur.toArray e (0, 0))) (hfit : o' + seg.length ≤ cur.length)
    (h : ∀ w1, w1.heap[g]? = some (.cells (cur.take o' ++ seg ++ cur.drop (o' + seg.length)).toArray e (0, 0)) → W.grownBy w1 (some g) → wpList P ops Q rest a w1) : wpList P ops Q (o :: rest) a W := by
  have hrun := run_store_run (P := P) t u seg hh hu ht (by simpa using hfit) h1
  obtain ⟨cur', h3, h4, h5⟩ := setCells_row seg o' W cur.toArray hh (by simpa using hfit)
  obtain ⟨s1, s2, s3, s4⟩ := setCells_same g seg o' W
  refine wpList_plain hgd fun K hK => ?_
  unfold Oper.wp execOp
  simp only [ho, hp, hx, Sem.run_bind, Sem.run_pure, Result.andThen_ok, hrun]
  show K (a.put o.dst undef) _
  rw [hd]
  refine hK a _ (h _ ?_ ⟨s1, s2, s3, by rw [s4]; exact Nat.le_refl _, fun k _ hk => setCells_far _ _ k (fun he => hk (by rw [he]))⟩)
  rw [h3]
  congr 2
  apply Array.toList_inj.1
  rw [h5]
end
mutual
def conv : S30 → S39
  | ⟨a, b, t, cells, c, d, keys, e, f, ks⟩ => ⟨a, b, cvT t, cells.map cvC, c, d, keys, e, f, convs ks⟩
def convs : List S30 → List S39
  | [] => []
  | x :: xs => conv x :: convs xs
end
theorem convs_map (xs : List S30) : convs xs = xs.map conv := by
  induction xs with
  | nil => rfl
  | cons x xs ih => rw [convs, ih]; rfl
theorem conv_eq (x : S30) : conv x = ⟨x.f0, x.f1, cvT x.f2, x.f3.map cvC, x.f4, x.f5, x.f6, x.f7, x.f8, convs x.f9⟩ := by cases x; rfl
end Pl
namespace Pl
/-- Nothing in it is longer than the law lets by. -/
inductive Small30 : S30 → Prop
  | mk (x : S30) (h3 : x.f3.length ≤ 1048576) (h6 : x.f6.length ≤ 1048576) (h9 : x.f9.length ≤ 1048576) (hs : ∀ y, y ∈ x.f9 → Small30 y) : Small30 x
theorem Small30.out {x : S30} (h : Small30 x) : x.f3.length ≤ 1048576 ∧ x.f6.length ≤ 1048576 ∧ x.f9.length ≤ 1048576 ∧ ∀ y ∈ x.f9, Small30 y := by
  cases h with
  | mk _ h3 h6 h9 hs => exact ⟨h3, h6, h9, hs⟩
end Pl

end Go.Proofs.YtlpgnkndjmfcjaaGreat.PFnExactPlanMany
