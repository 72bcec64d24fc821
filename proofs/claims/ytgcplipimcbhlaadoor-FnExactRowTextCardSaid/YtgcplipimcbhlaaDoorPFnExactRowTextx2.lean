-- Written by wip/tools/pp.py, a program of this session over the kit's printer: not the kit's own print
import Derived.Test.YtgcplipimcbhlaaDoorPFnExactRowTextx0
import Derived.Test.YtgcplipimcbhlaaDoorPFnExactRowTextx1
namespace Go.Proofs.YtgcplipimcbhlaaDoor.PFnExactRowText
open Go.RowKit Go.Proofs.YtgcplipimcbhlaaDoorW.PrintWords Go.Proofs.YtgcplipimcbhlaaDoorW.PrintLast Go.Proofs.YtgcplipimcbhlaaDoorW.PrintMore
attribute [local go_sem] max2_int min2_int max_two min_two max_three min_three max_four min_four   -- for this text's walks alone
set_option linter.unusedVariables false
set_option linter.unusedSimpArgs false

/-! ### laws_FnExactRowText: function 4 (by hand) -/
def laws_FnExactRowText.f (k:Nat) (l0:List Int):Option Bool :=
 (if (l0.length:Int) > 1048576 then some true else (laws_toIntS.f k l0).bind fun t0=>((spec_RowText.f k t0).bind fun w0=>((laws_toIntS.f k l0).bind fun x0=>((impl_RowText.f x0).bind fun g0=>((if w0=g0 then (laws_toIntS.f k l0).bind fun u0=>((laws_eqIntS.f k x0 u0).bind fun e0=>((if e0=true then some true else some false))) else some false))))))
theorem tr_drawn {W W':World} (h:Drawn0 W W'):Below W.heap.size W W':=by
 obtain ⟨n,rfl⟩:=h
 exact pw_below_drewN (Below.refl _ _) n
set_option maxHeartbeats 8000000 in
set_option maxRecDepth 100000 in
theorem laws_FnExactRowText.calls (k : Nat) (A0 : Option Addr) (c0 : Nat) (l0 : List Int) (r : Bool) (w : World) (hr0 : Kd.C (Kd.int .i64) w A0 l0.length l0) (hc0 : l0.length ≤ c0) (h : laws_FnExactRowText.f k l0 = some r) (hr_ : r = true) (hT : Lib.TabIs Tryd.prog w "internal/strconv.uint64pow10" .u64 Lib.pow10Tab) :
  Calls Tryd.prog 4 #[.slice A0 l0.length c0] w fun e w'=>e=.returned (.bool r)∧Below w.heap.size w w':=by
 subst hr_
 unfold laws_FnExactRowText.f at h
 have HR0:=Aside0.mk hr0
 have HP0:=Aside0.mk hc0
 clear hr0 hc0
 have HT0:=Aside0.mk hT
 clear hT
 go_enter Tryd.func4,Tryd.ntmps4
 by_cases cc1:(l0.length:Int) > 1048576
 case pos =>
  rw [if_pos cc1] at h
  have cc1f0:decide (1048576 < (l0.length:Int))=true:=decide_eq_true (by omega)
  have cc1f1:decide (1048576 < l0.length)=true:=decide_eq_true (by omega)
  (try clear cc1)
  clear h
  go_wp2
  go_ret
  exact ⟨by first|rfl|simp,Below.refl _ _⟩
 rw [if_neg cc1] at h
 have cc1f0:decide (1048576 < (l0.length:Int))=false:=decide_eq_false (by omega)
 have cc1f1:decide (1048576 < l0.length)=false:=decide_eq_false (by omega)
 (try clear cc1)
 replace h:=Option.bind_eq_some_iff.mp h
 obtain ⟨t0,h_,h⟩:=h
 have A_2:=Aside0.mk h_
 have HH:=Aside0.mk h
 clear h_ h
 go_wp2_with fail
 refine (laws_toIntS.calls k _ _ l0 t0 _ HR0.out HP0.out A_2.out).mono ?_
 rintro e w2 ⟨v_t0,rfl,o_t0,hb⟩
 have HB2:=Aside0.mk (show Below w.heap.size w w2 by first|exact hb|exact tr_drawn hb)
 clear hb
 obtain ⟨a_t0,c_t0,rfl⟩:=Kd.R_slice o_t0
 have HX_t0:=Aside0.mk (Kd.R_reads' o_t0).2.2
 have HP_t0:=Aside0.mk (Kd.R_reads' o_t0).2.1
 clear o_t0
 have h:=HH.out
 clear HH
 replace h:=Option.bind_eq_some_iff.mp h
 obtain ⟨w0,h_,h⟩:=h
 have A_3:=Aside0.mk h_
 have HH:=Aside0.mk h
 clear h_ h
 go_wp2_with fail
 refine (spec_RowText.calls k _ _ t0 w0 _ HX_t0.out HP_t0.out A_3.out).mono ?_
 rintro e w3 ⟨rfl,hb⟩
 have HB3:=Aside0.mk (show Below w2.heap.size w2 w3 by first|exact hb|exact tr_drawn hb)
 clear hb
 have h:=HH.out
 clear HH
 replace h:=Option.bind_eq_some_iff.mp h
 obtain ⟨x0,h_,h⟩:=h
 have A_4:=Aside0.mk h_
 have HH:=Aside0.mk h
 clear h_ h
 go_wp2_with fail
 refine (laws_toIntS.calls k _ _ l0 x0 _ (Kd.C_below HR0.out (below_step HB2.out HB3.out)) HP0.out A_4.out).mono ?_
 rintro e w4 ⟨v_x0,rfl,o_x0,hb⟩
 have HB4:=Aside0.mk (show Below w3.heap.size w3 w4 by first|exact hb|exact tr_drawn hb)
 clear hb
 obtain ⟨a_x0,c_x0,rfl⟩:=Kd.R_slice o_x0
 have HX_x0:=Aside0.mk (Kd.R_reads' o_x0).2.2
 have HP_x0:=Aside0.mk (Kd.R_reads' o_x0).2.1
 clear o_x0
 have h:=HH.out
 clear HH
 replace h:=Option.bind_eq_some_iff.mp h
 obtain ⟨g0,h_,h⟩:=h
 have A_5:=Aside0.mk h_
 have HH:=Aside0.mk h
 clear h_ h
 go_wp2_with fail
 refine (impl_RowText.calls _ _ x0 g0 _ HX_x0.out HP_x0.out A_5.out (tab_on HT0.out (below_step (below_step HB2.out HB3.out) HB4.out))).mono ?_
 rintro e w5 ⟨rfl,hb⟩
 have HB5:=Aside0.mk (show Below w4.heap.size w4 w5 by first|exact hb|exact tr_drawn hb)
 clear hb
 have h:=HH.out
 clear HH
 by_cases cc6:w0=g0
 case neg =>
  rw [if_neg cc6] at h
  cases h
 rw [if_pos cc6] at h
 subst cc6
 (try clear cc6)
 replace h:=Option.bind_eq_some_iff.mp h
 obtain ⟨u0,h_,h⟩:=h
 have A_7:=Aside0.mk h_
 have HH:=Aside0.mk h
 clear h_ h
 go_wp2_with fail
 refine (laws_toIntS.calls k _ _ l0 u0 _ (Kd.C_below HR0.out (below_step (below_step (below_step HB2.out HB3.out) HB4.out) HB5.out)) HP0.out A_7.out).mono ?_
 rintro e w7 ⟨v_u0,rfl,o_u0,hb⟩
 have HB7:=Aside0.mk (show Below w5.heap.size w5 w7 by first|exact hb|exact tr_drawn hb)
 clear hb
 obtain ⟨a_u0,c_u0,rfl⟩:=Kd.R_slice o_u0
 have HX_u0:=Aside0.mk (Kd.R_reads' o_u0).2.2
 have HP_u0:=Aside0.mk (Kd.R_reads' o_u0).2.1
 clear o_u0
 have h:=HH.out
 clear HH
 replace h:=Option.bind_eq_some_iff.mp h
 obtain ⟨e0,h_,h⟩:=h
 have A_8:=Aside0.mk h_
 have HH:=Aside0.mk h
 clear h_ h
 go_wp2_with fail
 refine (laws_eqIntS.calls k _ _ x0 _ _ u0 e0 _ (Kd.C_below HX_x0.out (below_step HB5.out HB7.out)) HP_x0.out HX_u0.out HP_u0.out A_8.out).mono ?_
 rintro e w8 ⟨rfl,hb⟩
 have HB8:=Aside0.mk (show Below w7.heap.size w7 w8 by first|exact hb|exact tr_drawn hb)
 clear hb
 have h:=HH.out
 clear HH
 cases e0 with
 | false =>
  rw [if_neg (by decide)] at h
  cases h
 | true =>
 rw [if_pos rfl] at h
 clear h
 go_wp2
 go_ret
 exact ⟨by first|rfl|simp,(below_step (below_step (below_step (below_step (below_step HB2.out HB3.out) HB4.out) HB5.out) HB7.out) HB8.out)⟩

/-- THE ONE PURE STATEMENT of laws_FnExactRowText: yours. -/
def laws_FnExactRowText.Pure:Prop:=∀ (l0:List Int),(l0.length≤maxLen∧∀ y0 ∈ l0,(Lit.int .i64 y0).wf=true)→∃ k,laws_FnExactRowText.f k l0=some true
theorem laws_FnExactRowText.walk (P : laws_FnExactRowText.Pure) (A0 : Option Addr) (c0 : Nat) (l0 : List Int) (w : World) (hr0 : Kd.C (Kd.int .i64) w A0 l0.length l0) (hc0 : l0.length ≤ c0) (ok0 : (l0.length ≤ maxLen ∧ ∀ y0 ∈ l0, (Lit.int .i64 y0).wf = true)) (hT : Lib.TabIs Tryd.prog w "internal/strconv.uint64pow10" .u64 Lib.pow10Tab) :
  Calls Tryd.prog 4 #[.slice A0 l0.length c0] w fun e w'=>e=.returned (.bool true)∧Below w.heap.size w w':=by
 obtain ⟨k,h⟩:=P l0 ok0
 refine (laws_FnExactRowText.calls k A0 c0 l0 true w hr0 hc0 h rfl hT).mono ?_
 rintro e w' ⟨rfl,hd⟩
 exact ⟨rfl,hd⟩

end Go.Proofs.YtgcplipimcbhlaaDoor.PFnExactRowText
