-- Written by wip/tools/pp.py, a program of this session over the kit's printer: not the kit's own print
import Derived.Test.YtgcplipimcbhlaaGreatDoorPFnZReadx0
import Derived.Test.YtgcplipimcbhlaaGreatDoorPFnZReadx3
import Derived.Test.YtgcplipimcbhlaaGreatDoorPFnZReadx4
import Derived.Test.YtgcplipimcbhlaaGreatDoorPFnZReadx5
import Derived.Test.YtgcplipimcbhlaaGreatDoorPFnZReadx7
import Derived.Test.YtgcplipimcbhlaaGreatDoorPFnZReadx8
import Derived.Test.YtgcplipimcbhlaaGreatDoorPFnZReadx9
import Derived.Test.YtgcplipimcbhlaaGreatDoorPFnZReadx12
namespace Go.Proofs.YtgcplipimcbhlaaGreatDoor.PFnZRead
open Go.RowKit Go.Proofs.YtgcplipimcbhlaaGreatDoorW.PrintWords Go.Proofs.YtgcplipimcbhlaaGreatDoorW.PrintLast Go.Proofs.YtgcplipimcbhlaaGreatDoorW.PrintMore
attribute [local go_sem] max2_int min2_int max_two min_two max_three min_three max_four min_four   -- for this text's walks alone
set_option linter.unusedVariables false
set_option linter.unusedSimpArgs false

/-! ### laws_FnZRead: function 3 (by hand) -/
def laws_FnZRead.f (k:Nat) (l0:List Int) (l1:List Int):Option Bool :=
 (if (l0.length:Int) > 1048576 then some true else (if (l1.length:Int) > 1048576 then some true else (spec_DrawZText.f k l0).bind fun a=>((spec_DrawZText.f k l1).bind fun b=>((impl_ZOk.f k a).bind fun b1=>((spec_ZOk.f k a).bind fun b2=>((if b1=b2 then (spec_ZOk.f k a).bind fun b3=>((if b3=true then (spec_ZOk.f k b).bind fun b4=>((if b4=true then (if (a.length:Int)=0 then (impl_ZOk.f k a).bind fun k3=>((spec_ZOk.f k a).bind fun k4=>((if k3=k4 then some true else some false))) else (if (b.length:Int)=0 then (impl_ZOk.f k a).bind fun k3=>((spec_ZOk.f k a).bind fun k4=>((if k3=k4 then some true else some false))) else (impl_ZText.f k a).bind fun ta=>((if ta.size + 1≤9223372036854775807 then (impl_ZText.f k b).bind fun tb=>((if ta.size + 1 + tb.size≤9223372036854775807 then (impl_ZRead.f k (ta ++ (⟨#[32]⟩:ByteArray) ++ tb)).bind fun p_x_ok=>((impl_ZAdd.f k a b).bind fun p_sum_fine=>((if (a.length:Int)≤1048576∧(b.length:Int)≤1048576 then (impl_RowLess.f k (rd_T33 a (wrap64 ((a.length:Int) - 1))).f0 (rd_T33 b 0).f0).bind fun less=>(if less=true then (if (a.length:Int) + (b.length:Int)≤100 then (if p_x_ok.2=true then (if p_sum_fine.2=true then (impl_ZSame.f k p_x_ok.1 p_sum_fine.1).bind fun sm=>((if sm=true then some true else some false)) else some false) else some false) else (if p_x_ok.2=true then some false else some true)) else (if p_x_ok.2=true then some false else some true)) else some false))) else some false)) else some false)))) else (impl_ZOk.f k a).bind fun k3=>((spec_ZOk.f k a).bind fun k4=>((if k3=k4 then some true else some false))))) else (impl_ZOk.f k a).bind fun k3=>((spec_ZOk.f k a).bind fun k4=>((if k3=k4 then some true else some false))))) else some false)))))))
theorem tr_drawn {W W':World} (h:Drawn0 W W'):Below W.heap.size W W':=by
 obtain ⟨n,rfl⟩:=h
 exact pw_below_drewN (Below.refl _ _) n
theorem w64_small {x:Int} (h0 : -9223372036854775808≤x) (h1:x≤9223372036854775807):wrap64 x=x:=by unfold wrap64;omega
set_option maxHeartbeats 8000000 in
set_option maxRecDepth 100000 in
theorem laws_FnZRead.calls (k:Nat) (A0:Option Addr) (c0:Nat) (l0:List Int) (A1:Option Addr) (c1:Nat) (l1:List Int) (r:Bool) (w:World) (hr0:Kd.C (Kd.int .u8) w A0 l0.length l0) (hc0:l0.length≤c0) (hr1:Kd.C (Kd.int .u8) w A1 l1.length l1) (hc1:l1.length≤c1) (h:laws_FnZRead.f k l0 l1=some r) (hr_:r=true) (hT:TxtW w) :
  Calls Tryz.prog 3 #[.slice A0 l0.length c0,.slice A1 l1.length c1] w fun e w'=>e=.returned (.bool r)∧Below w.heap.size w w':=by
 subst hr_
 unfold laws_FnZRead.f at h
 have HR0:=Aside0.mk hr0
 have HP0:=Aside0.mk hc0
 clear hr0 hc0
 have HR1:=Aside0.mk hr1
 have HP1:=Aside0.mk hc1
 clear hr1 hc1
 have HT0:=Aside0.mk hT
 clear hT
 go_enter Tryz.func3,Tryz.ntmps3
 by_cases cc1:(l0.length:Int) > 1048576
 case pos =>
  rw [if_pos cc1] at h
  have cc1f0:decide (1048576 < (l0.length:Int))=true:=decide_eq_true (by omega)
  have cc1f1:decide (1048576 < l0.length)=true:=decide_eq_true (by omega)
  (try clear cc1)
  clear h
  go_wp2
  go_ret
  exact ⟨by first|rfl|simp,Below.refl _ _⟩
 rw [if_neg cc1] at h
 have cc1f0:decide (1048576 < (l0.length:Int))=false:=decide_eq_false (by omega)
 have cc1f1:decide (1048576 < l0.length)=false:=decide_eq_false (by omega)
 (try clear cc1)
 by_cases cc2:(l1.length:Int) > 1048576
 case pos =>
  rw [if_pos cc2] at h
  have cc2f0:decide (1048576 < (l1.length:Int))=true:=decide_eq_true (by omega)
  have cc2f1:decide (1048576 < l1.length)=true:=decide_eq_true (by omega)
  (try clear cc2)
  clear h
  go_wp2
  go_ret
  exact ⟨by first|rfl|simp,Below.refl _ _⟩
 rw [if_neg cc2] at h
 have cc2f0:decide (1048576 < (l1.length:Int))=false:=decide_eq_false (by omega)
 have cc2f1:decide (1048576 < l1.length)=false:=decide_eq_false (by omega)
 (try clear cc2)
 replace h:=Option.bind_eq_some_iff.mp h
 obtain ⟨a,h_,h⟩:=h
 have A_3:=Aside0.mk h_
 have HH:=Aside0.mk h
 clear h_ h
 go_wp2_with fail
 refine (spec_DrawZText.calls k _ _ l0 a _ HR0.out HP0.out A_3.out).mono ?_
 rintro e w3 ⟨v_a,rfl,o_a,hb⟩
 have HB3:=Aside0.mk (show Below w.heap.size w w3 by first|exact hb|exact tr_drawn hb)
 clear hb
 obtain ⟨a_a,c_a,rfl⟩:=Kd.N_slice o_a
 have HX_a:=Aside0.mk (Kd.N_reads' o_a).2.2
 have HP_a:=Aside0.mk (Kd.N_reads' o_a).2.1
 clear o_a
 have h:=HH.out
 clear HH
 replace h:=Option.bind_eq_some_iff.mp h
 obtain ⟨b,h_,h⟩:=h
 have A_4:=Aside0.mk h_
 have HH:=Aside0.mk h
 clear h_ h
 go_wp2_with fail
 refine (spec_DrawZText.calls k _ _ l1 b _ (Kd.C_below HR1.out HB3.out) HP1.out A_4.out).mono ?_
 rintro e w4 ⟨v_b,rfl,o_b,hb⟩
 have HB4:=Aside0.mk (show Below w3.heap.size w3 w4 by first|exact hb|exact tr_drawn hb)
 clear hb
 obtain ⟨a_b,c_b,rfl⟩:=Kd.N_slice o_b
 have HX_b:=Aside0.mk (Kd.N_reads' o_b).2.2
 have HP_b:=Aside0.mk (Kd.N_reads' o_b).2.1
 clear o_b
 have h:=HH.out
 clear HH
 replace h:=Option.bind_eq_some_iff.mp h
 obtain ⟨b1,h_,h⟩:=h
 have A_5:=Aside0.mk h_
 have HH:=Aside0.mk h
 clear h_ h
 go_wp2_with fail
 refine (impl_ZOk.calls k _ _ a b1 _ (Kd.C_below HX_a.out HB4.out) HP_a.out A_5.out).mono ?_
 rintro e w5 ⟨rfl,hb⟩
 have HB5:=Aside0.mk (show Below w4.heap.size w4 w5 by first|exact hb|exact tr_drawn hb)
 clear hb
 have h:=HH.out
 clear HH
 replace h:=Option.bind_eq_some_iff.mp h
 obtain ⟨b2,h_,h⟩:=h
 have A_6:=Aside0.mk h_
 have HH:=Aside0.mk h
 clear h_ h
 go_wp2_with fail
 refine (spec_ZOk.calls k _ _ a b2 _ (Kd.C_below HX_a.out (below_step HB4.out HB5.out)) HP_a.out A_6.out).mono ?_
 rintro e w6 ⟨rfl,hb⟩
 have HB6:=Aside0.mk (show Below w5.heap.size w5 w6 by first|exact hb|exact tr_drawn hb)
 clear hb
 have h:=HH.out
 clear HH
 by_cases cc7:b1=b2
 case neg =>
  rw [if_neg cc7] at h
  cases h
 rw [if_pos cc7] at h
 subst cc7
 (try clear cc7)
 replace h:=Option.bind_eq_some_iff.mp h
 obtain ⟨b3,h_,h⟩:=h
 have A_8:=Aside0.mk h_
 have HH:=Aside0.mk h
 clear h_ h
 go_wp2_with fail
 refine (spec_ZOk.calls k _ _ a b3 _ (Kd.C_below HX_a.out (below_step (below_step HB4.out HB5.out) HB6.out)) HP_a.out A_8.out).mono ?_
 rintro e w8 ⟨rfl,hb⟩
 have HB8:=Aside0.mk (show Below w6.heap.size w6 w8 by first|exact hb|exact tr_drawn hb)
 clear hb
 have h:=HH.out
 clear HH
 cases b3 with
 | false =>
  rw [if_neg (by decide)] at h
  replace h:=Option.bind_eq_some_iff.mp h
  obtain ⟨k3,h_,h⟩:=h
  have A_10:=Aside0.mk h_
  have HH:=Aside0.mk h
  clear h_ h
  go_wp2_with fail
  refine (impl_ZOk.calls k _ _ a k3 _ (Kd.C_below HX_a.out (below_step (below_step (below_step HB4.out HB5.out) HB6.out) HB8.out)) HP_a.out A_10.out).mono ?_
  rintro e w10 ⟨rfl,hb⟩
  have HB10:=Aside0.mk (show Below w8.heap.size w8 w10 by first|exact hb|exact tr_drawn hb)
  clear hb
  have h:=HH.out
  clear HH
  replace h:=Option.bind_eq_some_iff.mp h
  obtain ⟨k4,h_,h⟩:=h
  have A_11:=Aside0.mk h_
  have HH:=Aside0.mk h
  clear h_ h
  go_wp2_with fail
  refine (spec_ZOk.calls k _ _ a k4 _ (Kd.C_below HX_a.out (below_step (below_step (below_step (below_step HB4.out HB5.out) HB6.out) HB8.out) HB10.out)) HP_a.out A_11.out).mono ?_
  rintro e w11 ⟨rfl,hb⟩
  have HB11:=Aside0.mk (show Below w10.heap.size w10 w11 by first|exact hb|exact tr_drawn hb)
  clear hb
  have h:=HH.out
  clear HH
  by_cases cc12:k3=k4
  case pos =>
   rw [if_pos cc12] at h
   subst cc12
   (try clear cc12)
   clear h
   go_wp2
   go_ret
   exact ⟨by first|rfl|simp,(below_step (below_step (below_step (below_step (below_step (below_step HB3.out HB4.out) HB5.out) HB6.out) HB8.out) HB10.out) HB11.out)⟩
  rw [if_neg cc12] at h
  cases h
 | true =>
 rw [if_pos rfl] at h
 replace h:=Option.bind_eq_some_iff.mp h
 obtain ⟨b4,h_,h⟩:=h
 have A_13:=Aside0.mk h_
 have HH:=Aside0.mk h
 clear h_ h
 go_wp2_with fail
 refine (spec_ZOk.calls k _ _ b b4 _ (Kd.C_below HX_b.out (below_step (below_step HB5.out HB6.out) HB8.out)) HP_b.out A_13.out).mono ?_
 rintro e w13 ⟨rfl,hb⟩
 have HB13:=Aside0.mk (show Below w8.heap.size w8 w13 by first|exact hb|exact tr_drawn hb)
 clear hb
 have h:=HH.out
 clear HH
 cases b4 with
 | false =>
  rw [if_neg (by decide)] at h
  replace h:=Option.bind_eq_some_iff.mp h
  obtain ⟨k3,h_,h⟩:=h
  have A_15:=Aside0.mk h_
  have HH:=Aside0.mk h
  clear h_ h
  go_wp2_with fail
  refine (impl_ZOk.calls k _ _ a k3 _ (Kd.C_below HX_a.out (below_step (below_step (below_step (below_step HB4.out HB5.out) HB6.out) HB8.out) HB13.out)) HP_a.out A_15.out).mono ?_
  rintro e w15 ⟨rfl,hb⟩
  have HB15:=Aside0.mk (show Below w13.heap.size w13 w15 by first|exact hb|exact tr_drawn hb)
  clear hb
  have h:=HH.out
  clear HH
  replace h:=Option.bind_eq_some_iff.mp h
  obtain ⟨k4,h_,h⟩:=h
  have A_16:=Aside0.mk h_
  have HH:=Aside0.mk h
  clear h_ h
  go_wp2_with fail
  refine (spec_ZOk.calls k _ _ a k4 _ (Kd.C_below HX_a.out (below_step (below_step (below_step (below_step (below_step HB4.out HB5.out) HB6.out) HB8.out) HB13.out) HB15.out)) HP_a.out A_16.out).mono ?_
  rintro e w16 ⟨rfl,hb⟩
  have HB16:=Aside0.mk (show Below w15.heap.size w15 w16 by first|exact hb|exact tr_drawn hb)
  clear hb
  have h:=HH.out
  clear HH
  by_cases cc17:k3=k4
  case pos =>
   rw [if_pos cc17] at h
   subst cc17
   (try clear cc17)
   clear h
   go_wp2
   go_ret
   exact ⟨by first|rfl|simp,(below_step (below_step (below_step (below_step (below_step (below_step (below_step HB3.out HB4.out) HB5.out) HB6.out) HB8.out) HB13.out) HB15.out) HB16.out)⟩
  rw [if_neg cc17] at h
  cases h
 | true =>
 rw [if_pos rfl] at h
 by_cases cc18:(a.length:Int)=0
 case pos =>
  rw [if_pos cc18] at h
  have cc18f0:((a.length:Int) == 0)=true:=beq_iff_eq.mpr cc18
  (try clear cc18)
  replace h:=Option.bind_eq_some_iff.mp h
  obtain ⟨k3,h_,h⟩:=h
  have A_19:=Aside0.mk h_
  have HH:=Aside0.mk h
  clear h_ h
  go_wp2_with fail
  refine (impl_ZOk.calls k _ _ a k3 _ (Kd.C_below HX_a.out (below_step (below_step (below_step (below_step HB4.out HB5.out) HB6.out) HB8.out) HB13.out)) HP_a.out A_19.out).mono ?_
  rintro e w19 ⟨rfl,hb⟩
  have HB19:=Aside0.mk (show Below w13.heap.size w13 w19 by first|exact hb|exact tr_drawn hb)
  clear hb
  have h:=HH.out
  clear HH
  replace h:=Option.bind_eq_some_iff.mp h
  obtain ⟨k4,h_,h⟩:=h
  have A_20:=Aside0.mk h_
  have HH:=Aside0.mk h
  clear h_ h
  go_wp2_with fail
  refine (spec_ZOk.calls k _ _ a k4 _ (Kd.C_below HX_a.out (below_step (below_step (below_step (below_step (below_step HB4.out HB5.out) HB6.out) HB8.out) HB13.out) HB19.out)) HP_a.out A_20.out).mono ?_
  rintro e w20 ⟨rfl,hb⟩
  have HB20:=Aside0.mk (show Below w19.heap.size w19 w20 by first|exact hb|exact tr_drawn hb)
  clear hb
  have h:=HH.out
  clear HH
  by_cases cc21:k3=k4
  case pos =>
   rw [if_pos cc21] at h
   subst cc21
   (try clear cc21)
   clear h
   go_wp2
   go_ret
   exact ⟨by first|rfl|simp,(below_step (below_step (below_step (below_step (below_step (below_step (below_step HB3.out HB4.out) HB5.out) HB6.out) HB8.out) HB13.out) HB19.out) HB20.out)⟩
  rw [if_neg cc21] at h
  cases h
 rw [if_neg cc18] at h
 have cc18f0:((a.length:Int) == 0)=false:=beq_eq_false_iff_ne.mpr cc18
 have HZ_a:=Aside0.mk (show 0 < a.length by omega)
 (try clear cc18)
 by_cases cc22:(b.length:Int)=0
 case pos =>
  rw [if_pos cc22] at h
  have cc22f0:((b.length:Int) == 0)=true:=beq_iff_eq.mpr cc22
  (try clear cc22)
  replace h:=Option.bind_eq_some_iff.mp h
  obtain ⟨k3,h_,h⟩:=h
  have A_23:=Aside0.mk h_
  have HH:=Aside0.mk h
  clear h_ h
  go_wp2_with fail
  refine (impl_ZOk.calls k _ _ a k3 _ (Kd.C_below HX_a.out (below_step (below_step (below_step (below_step HB4.out HB5.out) HB6.out) HB8.out) HB13.out)) HP_a.out A_23.out).mono ?_
  rintro e w23 ⟨rfl,hb⟩
  have HB23:=Aside0.mk (show Below w13.heap.size w13 w23 by first|exact hb|exact tr_drawn hb)
  clear hb
  have h:=HH.out
  clear HH
  replace h:=Option.bind_eq_some_iff.mp h
  obtain ⟨k4,h_,h⟩:=h
  have A_24:=Aside0.mk h_
  have HH:=Aside0.mk h
  clear h_ h
  go_wp2_with fail
  refine (spec_ZOk.calls k _ _ a k4 _ (Kd.C_below HX_a.out (below_step (below_step (below_step (below_step (below_step HB4.out HB5.out) HB6.out) HB8.out) HB13.out) HB23.out)) HP_a.out A_24.out).mono ?_
  rintro e w24 ⟨rfl,hb⟩
  have HB24:=Aside0.mk (show Below w23.heap.size w23 w24 by first|exact hb|exact tr_drawn hb)
  clear hb
  have h:=HH.out
  clear HH
  by_cases cc25:k3=k4
  case pos =>
   rw [if_pos cc25] at h
   subst cc25
   (try clear cc25)
   clear h
   go_wp2
   go_ret
   exact ⟨by first|rfl|simp,(below_step (below_step (below_step (below_step (below_step (below_step (below_step HB3.out HB4.out) HB5.out) HB6.out) HB8.out) HB13.out) HB23.out) HB24.out)⟩
  rw [if_neg cc25] at h
  cases h
 rw [if_neg cc22] at h
 have cc22f0:((b.length:Int) == 0)=false:=beq_eq_false_iff_ne.mpr cc22
 have HZ_b:=Aside0.mk (show 0 < b.length by omega)
 (try clear cc22)
 replace h:=Option.bind_eq_some_iff.mp h
 obtain ⟨ta,h_,h⟩:=h
 have A_26:=Aside0.mk h_
 have HH:=Aside0.mk h
 clear h_ h
 go_wp2_with fail
 refine (impl_ZText.calls k _ _ a ta _ (Kd.C_below HX_a.out (below_step (below_step (below_step (below_step HB4.out HB5.out) HB6.out) HB8.out) HB13.out)) HP_a.out A_26.out (TxtW.tab (TxtW.on HT0.out (below_step (below_step (below_step (below_step (below_step HB3.out HB4.out) HB5.out) HB6.out) HB8.out) HB13.out)))).mono ?_
 rintro e w26 ⟨rfl,hb⟩
 have HB26:=Aside0.mk (show Below w13.heap.size w13 w26 by first|exact hb|exact tr_drawn hb)
 clear hb
 have h:=HH.out
 clear HH
 by_cases cc27:ta.size + 1≤9223372036854775807
 case neg =>
  rw [if_neg cc27] at h
  cases h
 rw [if_pos cc27] at h
 have s1_:(9223372036854775807 < ta.size + 1)=False:=eq_false (by omega)
 (try clear cc27)
 replace h:=Option.bind_eq_some_iff.mp h
 obtain ⟨tb,h_,h⟩:=h
 have A_28:=Aside0.mk h_
 have HH:=Aside0.mk h
 clear h_ h
 go_wp2_with fail
 refine (impl_ZText.calls k _ _ b tb _ (Kd.C_below HX_b.out (below_step (below_step (below_step (below_step HB5.out HB6.out) HB8.out) HB13.out) HB26.out)) HP_b.out A_28.out (TxtW.tab (TxtW.on HT0.out (below_step (below_step (below_step (below_step (below_step (below_step HB3.out HB4.out) HB5.out) HB6.out) HB8.out) HB13.out) HB26.out)))).mono ?_
 rintro e w28 ⟨rfl,hb⟩
 have HB28:=Aside0.mk (show Below w26.heap.size w26 w28 by first|exact hb|exact tr_drawn hb)
 clear hb
 have h:=HH.out
 clear HH
 by_cases cc29:ta.size + 1 + tb.size≤9223372036854775807
 case neg =>
  rw [if_neg cc29] at h
  cases h
 rw [if_pos cc29] at h
 have s2_:(9223372036854775807 < ta.size + 1 + tb.size)=False:=eq_false (by omega)
 (try clear cc29)
 replace h:=Option.bind_eq_some_iff.mp h
 obtain ⟨⟨x,ok⟩,h_,h⟩:=h
 (try dsimp only at h)
 have A_30:=Aside0.mk h_
 have HH:=Aside0.mk h
 clear h_ h
 go_wp2_with fail
 refine (impl_ZRead.calls k (ta ++ (⟨#[32]⟩:ByteArray) ++ tb) x ok _  A_30.out (TxtW.on HT0.out (below_step (below_step (below_step (below_step (below_step (below_step (below_step HB3.out HB4.out) HB5.out) HB6.out) HB8.out) HB13.out) HB26.out) HB28.out))).mono ?_
 rintro e w30 ⟨v_x,rfl,o_x,hb⟩
 have HB30:=Aside0.mk (show Below w28.heap.size w28 w30 by first|exact hb|exact tr_drawn hb)
 clear hb
 obtain ⟨a_x,c_x,rfl⟩:=Kd.S_slice o_x
 have HX_x:=Aside0.mk (Kd.S_reads' o_x).2.2
 have HP_x:=Aside0.mk (Kd.S_reads' o_x).2.1
 clear o_x
 have h:=HH.out
 clear HH
 replace h:=Option.bind_eq_some_iff.mp h
 obtain ⟨⟨sum,fine⟩,h_,h⟩:=h
 (try dsimp only at h)
 have A_31:=Aside0.mk h_
 have HH:=Aside0.mk h
 clear h_ h
 go_wp2_with fail
 refine (impl_ZAdd.calls k _ _ a _ _ b sum fine _ (Kd.C_below HX_a.out (below_step (below_step (below_step (below_step (below_step (below_step (below_step HB4.out HB5.out) HB6.out) HB8.out) HB13.out) HB26.out) HB28.out) HB30.out)) HP_a.out (Kd.C_below HX_b.out (below_step (below_step (below_step (below_step (below_step (below_step HB5.out HB6.out) HB8.out) HB13.out) HB26.out) HB28.out) HB30.out)) HP_b.out A_31.out).mono ?_
 rintro e w31 ⟨v_sum,rfl,o_sum,hb⟩
 have HB31:=Aside0.mk (show Below w30.heap.size w30 w31 by first|exact hb|exact tr_drawn hb)
 clear hb
 obtain ⟨a_sum,c_sum,rfl⟩:=Kd.S_slice o_sum
 have HX_sum:=Aside0.mk (Kd.S_reads' o_sum).2.2
 have HP_sum:=Aside0.mk (Kd.S_reads' o_sum).2.1
 clear o_sum
 have h:=HH.out
 clear HH
 by_cases cc32:(a.length:Int)≤1048576∧(b.length:Int)≤1048576
 case neg =>
  rw [if_neg cc32] at h
  cases h
 rw [if_pos cc32] at h
 have HM_:=Aside0.mk cc32
 have hml_:=cc32.1
 have hmr_:=cc32.2
 (try clear cc32)
 have za_:=HZ_a.out
 have zb_:=HZ_b.out
 have zm_:=HM_.out
 have wa_:wrap64 ((a.length:Int) - 1)=(a.length:Int) - 1:=w64_small (by omega) (by omega)
 obtain ⟨ja_,hja_⟩ : ∃ j_:Int,wrap64 ((a.length:Int) - 1)=j_:=⟨_,rfl⟩
 rw [hja_] at h wa_
 have hjw_:IntKind.i64.wrap ((a.length:Int) - 1)=ja_:=(i64_w _).trans hja_
 have pa_:0≤ja_:=by omega
 have qa_:ja_ < (a.length:Int):=by omega
 clear wa_
 have pb_:0≤(0:Int):=by omega
 have qb_:(0:Int) < (b.length:Int):=by omega
 obtain ⟨ada,Aa_,ca_,ea_,xa0,xa1,la_,ia_⟩:=at_T33 (Kd.C_below HX_a.out (below_step (below_step (below_step (below_step (below_step (below_step (below_step (below_step HB4.out HB5.out) HB6.out) HB8.out) HB13.out) HB26.out) HB28.out) HB30.out) HB31.out)) ja_ pa_ qa_
 obtain ⟨adb,Ab_,cb_,eb_,xb0,xb1,lb_,ib_⟩:=at_T33 (Kd.C_below HX_b.out (below_step (below_step (below_step (below_step (below_step (below_step (below_step HB5.out HB6.out) HB8.out) HB13.out) HB26.out) HB28.out) HB30.out) HB31.out)) 0 pb_ qb_
 subst ea_ eb_
 have HRa_:=Aside0.mk ia_
 have HCa_:=Aside0.mk la_
 have HRb_:=Aside0.mk ib_
 have HCb_:=Aside0.mk lb_
 clear ia_ la_ ib_ lb_
 have qi_:(0 < b.length)=True:=eq_true (by omega)
 (try rw [show ((0:Int)).toNat=0 from rfl] at xb0 xb1)
 (try rw [show 0 * 2=0 from rfl] at xb0 xb1)
 (try rw [Addr.add_zero'] at xb0 xb1)
 replace pa_:=eq_true pa_
 replace qa_:=eq_true qa_
 replace pb_:=eq_true pb_
 replace qb_:=eq_true qb_
 clear za_ zb_ zm_
 replace h:=Option.bind_eq_some_iff.mp h
 obtain ⟨less,h_,h⟩:=h
 have A_33:=Aside0.mk h_
 clear h_
 cases less with
 | false =>
  rw [if_neg (by decide)] at h
  have HH:=Aside0.mk h
  clear h
  go_wp2_with fail
  go_quiet (first|(go_at_call 11;(with_reducible refine (impl_RowLess.calls k _ _ (rd_T33 a ja_).f0 _ _ (rd_T33 b 0).f0 false _ ?side1 ?side2 ?side3 ?side4 A_33.out).mono ?_);(case side1=>exact zC (zC HRa_.out));(case side2=>exact HCa_.out);(case side3=>exact zC (zC HRb_.out));(case side4=>exact HCb_.out);rintro e w_ ⟨rfl,⟨nd,rfl⟩⟩;(try first|exact ⟨rfl,_,World.drewN_drewN _ _ _⟩|exact ⟨rfl,_,Eq.trans (World.drewN_drewN _ _ _) (congrArg (World.drewN _) (Nat.add_assoc _ _ _))⟩)))
  have h:=HH.out
  clear HH
  cases ok with
  | false =>
   rw [if_neg (by decide)] at h
   clear h
   go_wp2
   go_ret
   exact ⟨by first|rfl|simp,by first|exact (below_step (below_step (below_step (below_step (below_step (below_step (below_step (below_step (below_step HB3.out HB4.out) HB5.out) HB6.out) HB8.out) HB13.out) HB26.out) HB28.out) HB30.out) HB31.out)|exact pw_below_drewN (below_step (below_step (below_step (below_step (below_step (below_step (below_step (below_step (below_step HB3.out HB4.out) HB5.out) HB6.out) HB8.out) HB13.out) HB26.out) HB28.out) HB30.out) HB31.out) _⟩
  | true =>
  rw [if_pos rfl] at h
  cases h
 | true =>
 rw [if_pos rfl] at h
 by_cases cq34:(a.length:Int) + (b.length:Int)≤100
 case neg =>
  rw [if_neg cq34] at h
  have cq34f0:decide (wrap64 ((a.length:Int) + (b.length:Int))≤100)=false:=by rw [w64_small (by omega) (by omega)];exact decide_eq_false cq34
  have cq34f1:decide ((a.length:Int) + (b.length:Int)≤100)=false:=decide_eq_false cq34
  (try clear cq34)
  have HH:=Aside0.mk h
  clear h
  go_wp2_with fail
  go_quiet (first|(go_at_call 11;(with_reducible refine (impl_RowLess.calls k _ _ (rd_T33 a ja_).f0 _ _ (rd_T33 b 0).f0 true _ ?side1 ?side2 ?side3 ?side4 A_33.out).mono ?_);(case side1=>exact zC (zC HRa_.out));(case side2=>exact HCa_.out);(case side3=>exact zC (zC HRb_.out));(case side4=>exact HCb_.out);rintro e w_ ⟨rfl,⟨nd,rfl⟩⟩;(try first|exact ⟨rfl,_,World.drewN_drewN _ _ _⟩|exact ⟨rfl,_,Eq.trans (World.drewN_drewN _ _ _) (congrArg (World.drewN _) (Nat.add_assoc _ _ _))⟩)))
  have h:=HH.out
  clear HH
  cases ok with
  | false =>
   rw [if_neg (by decide)] at h
   clear h
   go_wp2
   go_ret
   exact ⟨by first|rfl|simp,by first|exact (below_step (below_step (below_step (below_step (below_step (below_step (below_step (below_step (below_step HB3.out HB4.out) HB5.out) HB6.out) HB8.out) HB13.out) HB26.out) HB28.out) HB30.out) HB31.out)|exact pw_below_drewN (below_step (below_step (below_step (below_step (below_step (below_step (below_step (below_step (below_step HB3.out HB4.out) HB5.out) HB6.out) HB8.out) HB13.out) HB26.out) HB28.out) HB30.out) HB31.out) _⟩
  | true =>
  rw [if_pos rfl] at h
  cases h
 rw [if_pos cq34] at h
 have cq34f0:decide (wrap64 ((a.length:Int) + (b.length:Int))≤100)=true:=by rw [w64_small (by omega) (by omega)];exact decide_eq_true cq34
 have cq34f1:decide ((a.length:Int) + (b.length:Int)≤100)=true:=decide_eq_true cq34
 (try clear cq34)
 have HH:=Aside0.mk h
 clear h
 go_wp2_with fail
 go_quiet (first|(go_at_call 11;(with_reducible refine (impl_RowLess.calls k _ _ (rd_T33 a ja_).f0 _ _ (rd_T33 b 0).f0 true _ ?side1 ?side2 ?side3 ?side4 A_33.out).mono ?_);(case side1=>exact zC (zC HRa_.out));(case side2=>exact HCa_.out);(case side3=>exact zC (zC HRb_.out));(case side4=>exact HCb_.out);rintro e w_ ⟨rfl,⟨nd,rfl⟩⟩;(try first|exact ⟨rfl,_,World.drewN_drewN _ _ _⟩|exact ⟨rfl,_,Eq.trans (World.drewN_drewN _ _ _) (congrArg (World.drewN _) (Nat.add_assoc _ _ _))⟩)))
 have h:=HH.out
 clear HH
 cases ok with
 | false =>
  rw [if_neg (by decide)] at h
  cases h
 | true =>
 rw [if_pos rfl] at h
 cases fine with
 | false =>
  rw [if_neg (by decide)] at h
  cases h
 | true =>
 rw [if_pos rfl] at h
 replace h:=Option.bind_eq_some_iff.mp h
 obtain ⟨sm,h_,h⟩:=h
 have A_38:=Aside0.mk h_
 have HH:=Aside0.mk h
 clear h_ h
 go_wp2_with fail
 refine (impl_ZSame.calls k _ _ x _ _ sum sm _ (zC (Kd.C_below HX_x.out HB31.out)) HP_x.out (zC HX_sum.out) HP_sum.out A_38.out).mono ?_
 rintro e w38 ⟨rfl,hb⟩
 have HB38:=Aside0.mk (show Below w31.heap.size w31 w38 by first|exact hb|exact tr_drawn hb|exact below_step (pw_below_drewN (Below.refl _ _) _) hb|exact below_step (pw_below_drewN (Below.refl _ _) _) (tr_drawn hb))
 clear hb
 have h:=HH.out
 clear HH
 cases sm with
 | false =>
  rw [if_neg (by decide)] at h
  cases h
 | true =>
 rw [if_pos rfl] at h
 clear h
 go_wp2
 go_ret
 exact ⟨by first|rfl|simp,by first|exact (below_step (below_step (below_step (below_step (below_step (below_step (below_step (below_step (below_step (below_step HB3.out HB4.out) HB5.out) HB6.out) HB8.out) HB13.out) HB26.out) HB28.out) HB30.out) HB31.out) HB38.out)|exact pw_below_drewN (below_step (below_step (below_step (below_step (below_step (below_step (below_step (below_step (below_step (below_step HB3.out HB4.out) HB5.out) HB6.out) HB8.out) HB13.out) HB26.out) HB28.out) HB30.out) HB31.out) HB38.out) _⟩

/-- THE ONE PURE STATEMENT of laws_FnZRead: yours. -/
def laws_FnZRead.Pure:Prop:=∀ (l0:List Int) (l1:List Int),(l0.length≤maxLen∧∀ y0 ∈ l0,(Lit.int .u8 y0).wf=true)→(l1.length≤maxLen∧∀ y0 ∈ l1,(Lit.int .u8 y0).wf=true)→∃ k,laws_FnZRead.f k l0 l1=some true
theorem laws_FnZRead.walk (P:laws_FnZRead.Pure) (A0:Option Addr) (c0:Nat) (l0:List Int) (A1:Option Addr) (c1:Nat) (l1:List Int) (w:World) (hr0:Kd.C (Kd.int .u8) w A0 l0.length l0) (hc0:l0.length≤c0) (hr1:Kd.C (Kd.int .u8) w A1 l1.length l1) (hc1:l1.length≤c1) (ok0:(l0.length≤maxLen∧∀ y0 ∈ l0,(Lit.int .u8 y0).wf=true)) (ok1:(l1.length≤maxLen∧∀ y0 ∈ l1,(Lit.int .u8 y0).wf=true)) (hT:TxtW w) :
  Calls Tryz.prog 3 #[.slice A0 l0.length c0,.slice A1 l1.length c1] w fun e w'=>e=.returned (.bool true)∧Below w.heap.size w w':=by
 obtain ⟨k,h⟩:=P l0 l1 ok0 ok1
 refine (laws_FnZRead.calls k A0 c0 l0 A1 c1 l1 true w hr0 hc0 hr1 hc1 h rfl hT).mono ?_
 rintro e w' ⟨rfl,hd⟩
 exact ⟨rfl,hd⟩

end Go.Proofs.YtgcplipimcbhlaaGreatDoor.PFnZRead
