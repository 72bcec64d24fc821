/- The copy toPlan returns the copy of its plan, for each plan of at most 2^20 parts. -/
import Derived.Test.YtlpgnkndjmfcjaaPlTo2
namespace Go.Proofs.Ytlpgnkndjmfcjaa.PFnExactPlanSame
open Go.RowKit Go.Proofs.YtlpgnkndjmfcjaaW.PrintWords Go.Proofs.YtlpgnkndjmfcjaaW.PrintLast Go.Proofs.YtlpgnkndjmfcjaaW.PrintMore
attribute [local go_sem] max2_int min2_int max_two min_two max_three min_three max_four min_four   -- for this text's walks alone
set_option linter.unusedVariables false
set_option linter.unusedSimpArgs false
namespace Pl
theorem convs_step (xs : List S30) (i : Nat) (h : i < xs.length) : ((xs.take i).map conv ++ List.replicate (xs.length - i) z39).set i (conv xs[i]) = (xs.take (i + 1)).map conv ++ List.replicate (xs.length - (i + 1)) z39 := by
  obtain ⟨d, hd⟩ : ∃ d, xs.length - i = d + 1 := ⟨xs.length - i - 1, by omega⟩
  have h2 : xs.length - (i + 1) = d := by omega
  rw [hd, h2, List.replicate_succ, List.set_append_right _ _ (by simp; omega), List.length_map, List.length_take, Nat.min_eq_left (by omega), Nat.sub_self, List.set_cons_zero,
    List.take_succ_eq_append_getElem h, List.map_append, List.append_assoc]
  rfl
set_option maxHeartbeats 8000000 in
set_option maxRecDepth 100000 in
theorem toPlanS_step (N : Nat) (hP : ∀ M, M ≤ N → ToP M) : ToS N := by
  intro xs A c w hn hr hc hm hok
  have HC := Aside0.mk hr
  have HN := Aside0.mk hn
  have OK := Aside0.mk hok
  have HP := Aside0.mk hP
  have HM := Aside0.mk hm
  clear hP hn hr hok hc
  go_enter Try.func23, Try.ntmps23
  go_wp2_with (first
    | ((with_reducible refine gate_dst (N := 7) rfl ?_); refine Kd.R_make k39 _ 39 rfl (N := 7) rfl 37 _ _ rfl (xs.length : Int) rfl rfl Try.underlying37 (.agg #[.int .i64 0, .int .i64 0, .int .i64 0, .bool false, .int .i64 0, .int .i64 0, .int .i64 0, .int .i64 0, .int .i64 0, .int .i64 0, .int .i64 0, .int .i64 0, .slice none 0 0, .int .i64 0, .int .i64 0, .slice none 0 0, .int .i64 0, .int .i64 0, .slice none 0 0]) 200 info39 rfl (by decide) (by omega) z39 (ok := fun _ => True) (okp := fun _ => True) (k39_mkM _ _ _ z39 (Kd.R_nil _ _ _ _ _) (Kd.R_nil _ _ _ _ _) (Kd.R_nil _ _ _ _ _)) (fun _ hk => hk) trivial (by omega) (by have := HM.out; omega) (Below.refl _ _) (Nat.le_refl _) ?_; intro v w4 ho hb hg hnew; have HO := Aside0.mk ho; have HB := Aside0.mk hb; clear hg hnew ho hb))
  go_loopw [4] (fun v4 wr => ∃ (i : Nat), v4 = .int .i64 i ∧ i ≤ xs.length ∧ Aside0 (Kd.R k39 39 wr w.heap.size (fun _ => True) v ((xs.take i).map conv ++ List.replicate (xs.length - i) z39)) ∧ Aside0 (Below w.heap.size w wr)) (fun v4 _ => xs.length - (intOf v4).toNat)
  case atStart => exact ⟨0, rfl, Nat.zero_le _, ⟨by simpa using HO.out⟩, HB⟩
  case round =>
    clear HO HB
    obtain ⟨i, rfl, hi, HO, HB⟩ := hrel
    by_cases hlt : i < xs.length
    · obtain ⟨ad, c0, rfl, hcl, hK, hcell⟩ := elem_ (Kd.C_below HC.out HB.out) i hlt
      have hsz := szs30_get hlt
      have CA := Aside0.mk (fun (w' : World) (hK' : k30.K w' xs[i] c0.toArray.toList) => HP.out (sz30 xs[i]) (by have := HN.out; omega) xs[i] c0.toArray w' (Nat.le_refl _) hK' (OK.out _ (List.getElem_mem hlt)))
      have HK := Aside0.mk (show k30.K wr xs[i] c0.toArray.toList from hK)
      have HE := Aside0.mk hcell
      have HL := Aside0.mk hcl
      obtain ⟨g, cap, rfl, hbg, hgl, -⟩ := Kd.R_form HO.out (by simp; omega)
      have hlen : ((xs.take i).map conv ++ List.replicate (xs.length - i) z39).length = xs.length := by simp; omega
      have HLT := Aside0.mk hlt
      have HGL := Aside0.mk hgl
      have HO1 := Aside0.mk (show Kd.R k39 39 wr w.heap.size (fun _ => True) (.slice (some ⟨g, 0, none⟩) xs.length cap) ((xs.take i).map conv ++ List.replicate (xs.length - i) z39) by have := HO.out; rw [hlen] at this; exact this)
      rw [hlen]
      clear hsz hK hcell hcl hbg hgl HO hlen
      go_wp2_with (first
        | ((with_reducible refine gate_dst (N := 19) rfl ?_); refine load_ 30 (.tmp 18) rfl rfl (ad.add (i * 19)) ?hx c0 _ Try.underlying30 ?hi HE.out ?_; (case hx => first | rfl | (go_simp; done) | (go_simp; rfl)); (case hi => rw [HL.out]; kernel_rfl))
        | (go_at_call 8; refine (CA.out _ HK.out).mono ?_; rintro e w2 ⟨cs', rfl, hM, hB2⟩; have HB2 := Aside0.mk (below_step HB.out hB2); have HO2 := Aside0.mk (Kd.R_below HO1.out hB2); have MM := Aside0.mk (k39.M_lower HB.out.size (k39.M_mono (ok' := fun k => k ≠ g) (fun k hk => by have := hk.2.1; have := HGL.out; omega) (k39.M_bound hM))); clear hB2 hM)
        | ((with_reducible refine gate_ (.store 39 (.tmp 21) (.tmp 20)) rfl ?_); refine Hid.out ?_))
      refine Lib.hid ?_
      obtain ⟨ce, hcl, hMe, hcc, hfr⟩ := Kd.R_elem HO2.out z39 (i : Int) (by omega) (by have := HLT.out; omega)
      have hl2 := k39.K_len (k39.K_of_M MM.out)
      have hce : ce.take 0 ++ cs' ++ ce.drop (0 + cs'.length) = cs' := by
        rw [List.take_zero, List.nil_append, List.drop_of_length_le (by rw [hcl, hl2]; omega), List.append_nil]
      refine Kd.R_store k39 (w0 := w) w.heap.size rfl rfl 39 (.tmp 21) (.tmp 20) rfl 39 (g := g) (n := xs.length) (cap := cap) (o' := i * 19) (i : Int) 0 _ (conv xs[i]) (.agg cs'.toArray) cs' ce (fun _ => True) (fun k => k ≠ g) ?haddr ?hoff ?hx (by rfl) ?ht ?h1 HO2.out (by omega) (by have := HLT.out; omega) hcl hcc ?hj (by rw [hce]; exact MM.out) (fun k hk => ⟨trivial, hk⟩) HB2.out ?_
      case haddr => first | rfl | (go_simp; done) | (go_simp; rfl)
      case hoff => rfl
      case hx => first | rfl | (go_simp; done) | (go_simp; rfl)
      case ht => rw [hl2]; kernel_rfl
      case h1 => exact fun q hq => k39.K_one (k39.K_of_M MM.out) q hq
      case hj => rw [hl2]; exact Nat.le_refl _
      intro w5 ho5 hb5 hg5
      have HO5 := Aside0.mk (show Kd.R k39 39 w5 w.heap.size (fun _ => True) (.slice (some ⟨g, 0, none⟩) xs.length cap) ((xs.take (i + 1)).map conv ++ List.replicate (xs.length - (i + 1)) z39) by rw [← convs_step xs i HLT.out]; exact ho5)
      have HB5 := Aside0.mk hb5
      clear ho5 hb5 hg5 hce hl2 hcc hfr hMe hcl HO2 HB2 MM HO1
      go_wp2
      go_roundw
      case rel => exact ⟨i + 1, by go_num, by omega, HO5, HB5⟩
      case measure => simp [intOf]; omega
    · have he : i = xs.length := by omega
      subst he
      have HE := Aside0.mk (show Kd.R k39 39 wr w.heap.size (fun _ => True) v (convs xs) by have := HO.out; simpa [convs_map] using this)
      clear HO
      go_wp2
      go_ret
      exact ⟨_, rfl, HE.out, HB.out⟩
theorem toP_all (N : Nat) : ToP N := by
  induction N using Nat.strongRecOn with
  | _ N ih =>
    cases N with
    | zero => intro x cs w hn; have := sz30_kids x; omega
    | succ N => exact toPlan_step N (toPlanS_step N (fun M hM => ih M (by omega)))
/-- **laws.toPlan**: the plan in new memory. -/
theorem toPlan_c (x : S30) (cs : Array Value) (w : World) (hK : k30.K w x cs.toList) (hok : Small30 x) :
    Calls Try.prog 8 #[.agg cs] w fun e w' => ∃ cs' : List Value, e = .returned (.agg cs'.toArray) ∧ k39.K w' (conv x) cs' ∧ Below w.heap.size w w' :=
  (toP_all _ x cs w (Nat.le_refl _) hK hok).mono fun _ _ ⟨cs', h, hM, hB⟩ => ⟨cs', h, k39.K_of_M hM, hB⟩
end Pl

end Go.Proofs.Ytlpgnkndjmfcjaa.PFnExactPlanSame
