/- The law's measure szPlan returns what its telling in Lean says, for each plan whose cells lie in the world and whose left is from 0 to 2^20. -/
import Derived.Test.YtlpgnkndjmfcjaaPlSzDef
namespace Go.Proofs.Ytlpgnkndjmfcjaa.PFnExactPlanSame
open Go.RowKit Go.Proofs.YtlpgnkndjmfcjaaW.PrintWords Go.Proofs.YtlpgnkndjmfcjaaW.PrintLast Go.Proofs.YtlpgnkndjmfcjaaW.PrintMore
attribute [local go_sem] max2_int min2_int max_two min_two max_three min_three max_four min_four   -- for this text's walks alone
set_option linter.unusedVariables false
set_option linter.unusedSimpArgs false
namespace Pl
theorem szLeaf (a : Int) (n : Nat) (h0 : 0 ≤ a) (h1 : a ≤ 1048576) (hn : n ≤ maxLen) : wrap64 (a - (n : Int)) = a - (n : Int) := by unfold maxLen at hn; unfold wrap64; omega
theorem szCellS_c (A : Option Addr) (c : Nat) (l : List (S23)) (a : Int) (w : World) (hr : Kd.C k23 w A l.length l) (hc : l.length ≤ c) (h0 : 0 ≤ a) (h1 : a ≤ 1048576) (hn : l.length ≤ maxLen) :
    Calls Try.prog 17 #[.slice A l.length c, .int .i64 a] w fun e w' => e = .returned (.int .i64 (cutL a l.length)) ∧ Below w.heap.size w w' :=
  (laws_szCellS.calls A c l a _ w hr hc (by unfold laws_szCellS.f cutL; rw [szLeaf a _ h0 h1 hn]; split <;> rfl)).mono fun _ _ ⟨h, hd⟩ => ⟨h, hd.below⟩
theorem szIntS_c (A : Option Addr) (c : Nat) (l : List Int) (a : Int) (w : World) (hr : Kd.C (Kd.int .i64) w A l.length l) (hc : l.length ≤ c) (h0 : 0 ≤ a) (h1 : a ≤ 1048576) (hn : l.length ≤ maxLen) :
    Calls Try.prog 18 #[.slice A l.length c, .int .i64 a] w fun e w' => e = .returned (.int .i64 (cutL a l.length)) ∧ Below w.heap.size w w' :=
  (laws_szIntS.calls A c l a _ w hr hc (by unfold laws_szIntS.f cutL; rw [szLeaf a _ h0 h1 hn]; split <;> rfl)).mono fun _ _ ⟨h, hd⟩ => ⟨h, hd.below⟩
/-- What szPlanS does, of plans of at most so many parts. -/
def SzS (N : Nat) : Prop := ∀ (xs : List (S30)) (A : Option Addr) (c : Nat) (left : Int) (w : World), szs30 xs ≤ N → Kd.C k30 w A xs.length xs → xs.length ≤ c → xs.length ≤ maxLen → (∀ y ∈ xs, OkP y) → 0 ≤ left → left ≤ 1048576 →
  Calls Try.prog 19 #[.slice A xs.length c, .int .i64 left] w fun e w' => e = .returned (.int .i64 (szSo xs left)) ∧ Below w.heap.size w w'
def SzP (N : Nat) : Prop := ∀ (x : S30) (cs : Array Value) (left : Int) (w : World), sz30 x ≤ N → k30.K w x cs.toList → OkP x → 0 ≤ left → left ≤ 1048576 →
  Calls Try.prog 6 #[.agg cs, .int .i64 left] w fun e w' => e = .returned (.int .i64 (szF x left)) ∧ Below w.heap.size w w'
set_option maxHeartbeats 4000000 in
set_option maxRecDepth 100000 in
theorem szPlan_step (N : Nat) (hS : SzS N) : SzP (N + 1) := by
  intro x cs left w hn hK hok h0 h1
  have hkids : szs30 x.f9 ≤ N := by have := sz30_kids x; omega
  obtain ⟨A12, c12, A15, c15, A18, c18, hcs, l12, g12, l15, g15, l18, g18⟩ := k30_open hK
  have E12 := Aside0.mk (show cs[12]? = some (.slice A12 x.f3.length c12) by rw [← Array.getElem?_toList, hcs]; rfl)
  have E15 := Aside0.mk (show cs[15]? = some (.slice A15 x.f6.length c15) by rw [← Array.getElem?_toList, hcs]; rfl)
  have E18 := Aside0.mk (show cs[18]? = some (.slice A18 x.f9.length c18) by rw [← Array.getElem?_toList, hcs]; rfl)
  clear hcs hK hn
  have ok := hok.out
  have o3 : x.f3.length ≤ maxLen := ok.2.2.2.1.1
  have o6 : x.f6.length ≤ maxLen := ok.2.2.2.2.2.2.1.1
  have o9 : x.f9.length ≤ maxLen ∧ ∀ y ∈ x.f9, OkP y := ok.2.2.2.2.2.2.2.2.2
  clear ok hok
  have HS := Aside0.mk (fun A c l w hr hc h0 h1 => hS x.f9 A c l w hkids hr hc o9.1 o9.2 h0 h1)
  have C1 := Aside0.mk (fun w hr => szCellS_c A12 c12 x.f3 left w hr l12 h0 h1 o3)
  have C2 := Aside0.mk (fun w hr h0 h1 => szIntS_c A15 c15 x.f6 (cutL left x.f3.length) w hr l15 h0 h1 o6)
  have G12 := Aside0.mk g12
  have G15 := Aside0.mk g15
  have G18 := Aside0.mk g18
  have L18 := Aside0.mk l18
  have SZ := Aside0.mk (szF_eq2 x left h0)
  have b1 := cutL_le left x.f3.length h0
  have B2 := Aside0.mk (cutL_le (cutL left x.f3.length) x.f6.length)
  have B3 := Aside0.mk (szSo_ge x.f9 (cutL (cutL left x.f3.length) x.f6.length))
  clear hS l12 l15 g12 g15 g18 l18 o3 o6 o9
  go_enter Try.func6, Try.ntmps6
  go_wp2_with (first
    | ((with_reducible refine gate_dst (N := 2) rfl ?_); refine box_ 30 (.tmp 0) rfl rfl cs rfl ?_; intro g hg w1 hbx hB; have HB := Aside0.mk hB; have q12 := (blk_cell hbx 12).trans E12.out; have q15 := (blk_cell hbx 15).trans E15.out; have q18 := (blk_cell hbx 18).trans E18.out; clear hbx hB hg)
    | (go_at_call 17; refine (C1.out _ (Kd.C_below G12.out HB.out)).mono ?_; rintro e w2 ⟨rfl, hB2⟩; have p15 := zhs hB2 q15; have p18 := zhs hB2 q18; have HB2 := Aside0.mk (below_step HB.out hB2); clear hB2 q12 q15 q18)
    | (go_at_call 18; refine (C2.out _ (Kd.C_below G15.out HB2.out) (by omega) (by omega)).mono ?_; rintro e w3 ⟨rfl, hB3⟩; have r18 := zhs hB3 p18; have HB3 := Aside0.mk (below_step HB2.out hB3); have b2 := B2.out (by omega); clear hB3 p15 p18)
    | (go_at_call 19; refine (HS.out _ _ _ _ (Kd.C_below G18.out HB3.out) L18.out (by omega) (by omega)).mono ?_; rintro e w4 ⟨rfl, hB4⟩; have HB4 := Aside0.mk (below_step HB3.out hB4); clear hB4 r18))
  all_goals go_ret
  · exact ⟨by rw [SZ.out, if_pos (by omega)]; rfl, HB2.out⟩
  · exact ⟨by rw [SZ.out, if_neg (by omega), if_pos (by omega)]; rfl, HB3.out⟩
  · exact ⟨by rw [SZ.out, if_neg (by omega), if_neg (by omega), B3.out (by omega)]; rfl, HB4.out⟩
  · exact ⟨by rw [SZ.out, if_neg (by omega), if_neg (by omega)]; rfl, HB4.out⟩
/-- What is left when the plans behind place i are still to come. -/
theorem szGo_drop (xs : List (S30)) (i : Nat) (h : i < xs.length) (left : Int) : szGo (xs.drop i) left = if szF xs[i] left < 0 then -1 else szGo (xs.drop (i + 1)) (szF xs[i] left) := by
  rw [List.drop_eq_getElem_cons h]; rfl
theorem szGo_end (xs : List (S30)) (i : Nat) (h : xs.length ≤ i) (left : Int) : szGo (xs.drop i) left = left := by
  rw [List.drop_eq_nil_of_le h]; rfl
set_option maxHeartbeats 4000000 in
set_option maxRecDepth 100000 in
theorem szPlanS_step (N : Nat) (hP : ∀ M, M ≤ N → SzP M) : SzS N := by
  intro xs A c left w hn hr hc hm hok h0 h1
  have hm' := hm
  unfold maxLen at hm'
  have HC := Aside0.mk hr
  have HN := Aside0.mk hn
  have OK := Aside0.mk hok
  have HP := Aside0.mk hP
  clear hP hn hr hok hm
  by_cases hl : left - (xs.length : Int) < 0
  · go_enter Try.func19, Try.ntmps19
    go_wp2
    go_ret
    exact ⟨by unfold szSo; rw [if_pos (by omega)]; rfl, Below.refl _ _⟩
  go_enter Try.func19, Try.ntmps19
  go_wp2
  go_loopw [1, 5] (fun v1 v5 wr => ∃ (a : Int) (i : Nat), v1 = .int .i64 a ∧ v5 = .int .i64 i ∧ i ≤ xs.length ∧ 0 ≤ a ∧ a ≤ 1048576 ∧ Aside0 (szSo xs left = szGo (xs.drop i) a) ∧ Aside0 (Below w.heap.size w wr)) (fun _ v5 _ => xs.length - (intOf v5).toNat)
  case atStart => exact ⟨_, 0, rfl, rfl, Nat.zero_le _, by omega, by omega, ⟨by unfold szSo; rw [if_neg (by omega), List.drop_zero]⟩, ⟨Below.refl _ _⟩⟩
  case round =>
    obtain ⟨a, i, rfl, rfl, hi, ha0, ha1, HA, HB⟩ := hrel
    by_cases hlt : i < xs.length
    · obtain ⟨ad, c0, rfl, hcl, hK, hcell⟩ := elem_ (Kd.C_below HC.out HB.out) i hlt
      have hsz := szs30_get hlt
      have CA := Aside0.mk (fun (w' : World) (hK' : k30.K w' xs[i] c0.toArray.toList) => HP.out (sz30 xs[i]) (by have := HN.out; omega) xs[i] c0.toArray a w' (Nat.le_refl _) hK' (OK.out _ (List.getElem_mem hlt)) ha0 ha1)
      have HK := Aside0.mk (show k30.K wr xs[i] c0.toArray.toList from hK)
      have HE := Aside0.mk hcell
      have HL := Aside0.mk hcl
      have GD := Aside0.mk (HA.out.trans (szGo_drop xs i hlt a))
      have b1 := szF_le xs[i] a ha0
      obtain ⟨r, hr⟩ : ∃ r, r = szF xs[i] a := ⟨_, rfl⟩
      rw [← hr] at CA GD b1
      clear hsz hK hcell hcl HA hr
      go_wp2_with (first
        | ((with_reducible refine gate_dst (N := 21) rfl ?_); refine load_ 30 (.tmp 20) rfl rfl (ad.add (i * 19)) ?hx c0 _ Try.underlying30 ?hi HE.out ?_; (case hx => first | rfl | (go_simp; done) | (go_simp; rfl)); (case hi => rw [HL.out]; kernel_rfl))
        | (go_at_call 6; refine (CA.out _ HK.out).mono ?_; rintro e w2 ⟨rfl, hB2⟩; have HB2 := Aside0.mk (below_step HB.out hB2); clear hB2))
      · go_ret
        exact ⟨by rw [GD.out, if_pos (by omega)]; rfl, HB2.out⟩
      · go_roundw
        case rel => exact ⟨r, i + 1, rfl, by go_num, by omega, by omega, by omega, ⟨by rw [GD.out, if_neg (by omega)]⟩, HB2⟩
        case measure => simp [intOf]; omega
    · have GE := Aside0.mk (HA.out.trans (szGo_end xs i (by omega) a))
      go_wp2
      go_ret
      exact ⟨by rw [GE.out]; rfl, HB.out⟩
theorem szP_all (N : Nat) : SzP N := by
  induction N using Nat.strongRecOn with
  | _ N ih =>
    cases N with
    | zero => intro x cs left w hn; have := sz30_kids x; omega
    | succ N => exact szPlan_step N (szPlanS_step N (fun M hM => ih M (by omega)))
/-- **laws.szPlan**: at every plan that can be read. -/
theorem szPlan_c (x : S30) (cs : Array Value) (left : Int) (w : World) (hK : k30.K w x cs.toList) (hok : OkP x) (h0 : 0 ≤ left) (h1 : left ≤ 1048576) :
    Calls Try.prog 6 #[.agg cs, .int .i64 left] w fun e w' => e = .returned (.int .i64 (szF x left)) ∧ Below w.heap.size w w' := szP_all _ x cs left w (Nat.le_refl _) hK hok h0 h1
end Pl

end Go.Proofs.Ytlpgnkndjmfcjaa.PFnExactPlanSame
