-- Written by wip/tools/pp.py, a program of this session over the kit's printer: not the kit's own print
import Derived.Test.YtaifnkapbffmaaaPFnZx0
import Derived.Test.YtaifnkapbffmaaaPFnZx2
import Derived.Test.YtaifnkapbffmaaaPFnZx5
import Derived.Test.YtaifnkapbffmaaaPFnZx7
import Derived.Test.YtaifnkapbffmaaaPFnZx10
import Derived.Test.YtaifnkapbffmaaaPFnZx11
import Derived.Test.YtaifnkapbffmaaaPFnZx12
namespace Go.Proofs.Ytaifnkapbffmaaa.PFnZ
open Go.RowKit Go.Proofs.YtaifnkapbffmaaaW.PrintWords Go.Proofs.YtaifnkapbffmaaaW.PrintLast Go.Proofs.YtaifnkapbffmaaaW.PrintMore
attribute [local go_sem] max2_int min2_int max_two min_two max_three min_three max_four min_four   -- for this text's walks alone
set_option linter.unusedVariables false
set_option linter.unusedSimpArgs false

/-! ### laws_FnZ: function 7 (by hand) -/
def laws_FnZ.f (k:Nat) (l0:List Int) (l1:List Int):Option Bool :=
 (if (l0.length:Int) > 1048576 then some true else (if (l1.length:Int) > 1048576 then some true else (spec_DrawZAdd.f k l0).bind fun p_a_b=>((impl_ZAdd.f k p_a_b.1 p_a_b.2).bind fun p_x_ok=>((spec_ZAdd.f k p_a_b.1 p_a_b.2).bind fun p_y_told=>((if p_x_ok.2=p_y_told.2 then (impl_ZSame.f k p_x_ok.1 p_y_told.1).bind fun s0=>((if s0=true then (impl_ZOk.f k p_a_b.1).bind fun k1=>((spec_ZOk.f k p_a_b.1).bind fun k2=>((if k1=k2 then (spec_ZOk.f k p_a_b.1).bind fun d1=>((if d1=true then (spec_ZOk.f k p_a_b.2).bind fun d2=>((if d2=true then (impl_ZAdd.f k p_a_b.2 p_a_b.1).bind fun p_back_fine=>((impl_ZNeg.f k p_a_b.1).bind fun na=>((impl_ZAdd.f k p_a_b.1 na).bind fun p_none__zero=>((impl_ZAdd.f k p_a_b.1 []).bind fun p_self_can=>((if p_x_ok.2=p_back_fine.2 then (impl_ZSame.f k p_back_fine.1 p_x_ok.1).bind fun s1=>((if s1=true then (if p_none__zero.2=true then (if (p_none__zero.1.length:Int) > 0 then some false else (if p_self_can.2=true then (impl_ZSame.f k p_self_can.1 p_a_b.1).bind fun s2=>((if s2=true then (spec_DrawZGet.f k l1).bind fun p_zz_r_=>((if p_x_ok.2=true then (impl_ZGet.f k p_x_ok.1 p_zz_r_.2).bind fun g1=>((impl_ZGet.f k p_a_b.1 p_zz_r_.2).bind fun g2=>((impl_ZGet.f k p_a_b.2 p_zz_r_.2).bind fun g3=>((if g1=wrap64 (g2 + g3) then (spec_DrawZOk.f k l1).bind fun c=>((impl_ZAdd.f k p_x_ok.1 c).bind fun p_p_one=>((impl_ZAdd.f k p_a_b.2 c).bind fun p_q_two=>((impl_ZAdd.f k p_a_b.1 p_q_two.1).bind fun p_s_three=>((spec_ZOk.f k c).bind fun ec=>((if ec=true then (if p_p_one.2=true then (if p_q_two.2=true then (if p_s_three.2=true then (impl_ZSame.f k p_p_one.1 p_s_three.1).bind fun fin=>((if fin=true then some true else some false)) else some true) else some true) else some true) else some true)))))) else some false)))) else (spec_DrawZOk.f k l1).bind fun c=>((impl_ZAdd.f k p_x_ok.1 c).bind fun p_p_one=>((impl_ZAdd.f k p_a_b.2 c).bind fun p_q_two=>((impl_ZAdd.f k p_a_b.1 p_q_two.1).bind fun p_s_three=>(some true)))))) else some false)) else some false)) else some false) else some false)) else some false))))) else (if p_x_ok.2=true then some false else (if (p_x_ok.1.length:Int)=0 then some true else some false)))) else (if p_x_ok.2=true then some false else (if (p_x_ok.1.length:Int)=0 then some true else some false)))) else some false))) else some false)) else some false))))))
theorem tr_drawn {W W':World} (h:Drawn0 W W'):Below W.heap.size W W':=by
 obtain ⟨n,rfl⟩:=h
 exact pw_below_drewN (Below.refl _ _) n
set_option maxHeartbeats 8000000 in
set_option maxRecDepth 100000 in
theorem laws_FnZ.calls (k:Nat) (A0:Option Addr) (c0:Nat) (l0:List Int) (A1:Option Addr) (c1:Nat) (l1:List Int) (r:Bool) (w:World) (hr0:Kd.C (Kd.int .u8) w A0 l0.length l0) (hc0:l0.length≤c0) (hr1:Kd.C (Kd.int .u8) w A1 l1.length l1) (hc1:l1.length≤c1) (h:laws_FnZ.f k l0 l1=some r) (hr_:r=true) :
  Calls Try.prog 7 #[.slice A0 l0.length c0,.slice A1 l1.length c1] w fun e w'=>e=.returned (.bool r)∧Below w.heap.size w w':=by
 subst hr_
 unfold laws_FnZ.f at h
 have HR0:=Aside0.mk hr0
 have HP0:=Aside0.mk hc0
 clear hr0 hc0
 have HR1:=Aside0.mk hr1
 have HP1:=Aside0.mk hc1
 clear hr1 hc1
 go_enter Try.func7,Try.ntmps7
 by_cases cc1:(l0.length:Int) > 1048576
 case pos =>
  rw [if_pos cc1] at h
  have cc1f0:decide (1048576 < (l0.length:Int))=true:=decide_eq_true (by omega)
  have cc1f1:decide (1048576 < l0.length)=true:=decide_eq_true (by omega)
  (try clear cc1)
  clear h
  go_wp2
  go_ret
  exact ⟨by first|rfl|simp,Below.refl _ _⟩
 rw [if_neg cc1] at h
 have cc1f0:decide (1048576 < (l0.length:Int))=false:=decide_eq_false (by omega)
 have cc1f1:decide (1048576 < l0.length)=false:=decide_eq_false (by omega)
 (try clear cc1)
 by_cases cc2:(l1.length:Int) > 1048576
 case pos =>
  rw [if_pos cc2] at h
  have cc2f0:decide (1048576 < (l1.length:Int))=true:=decide_eq_true (by omega)
  have cc2f1:decide (1048576 < l1.length)=true:=decide_eq_true (by omega)
  (try clear cc2)
  clear h
  go_wp2
  go_ret
  exact ⟨by first|rfl|simp,Below.refl _ _⟩
 rw [if_neg cc2] at h
 have cc2f0:decide (1048576 < (l1.length:Int))=false:=decide_eq_false (by omega)
 have cc2f1:decide (1048576 < l1.length)=false:=decide_eq_false (by omega)
 (try clear cc2)
 replace h:=Option.bind_eq_some_iff.mp h
 obtain ⟨⟨a,b⟩,h_,h⟩:=h
 (try dsimp only at h)
 have A_3:=Aside0.mk h_
 have HH:=Aside0.mk h
 clear h_ h
 go_wp2_with fail
 refine (spec_DrawZAdd.calls k _ _ l0 a b _ HR0.out HP0.out A_3.out).mono ?_
 rintro e w3 ⟨v_a,v_b,rfl,o_a,o_b,hb⟩
 have HB3:=Aside0.mk (show Below w.heap.size w w3 by first|exact hb|exact tr_drawn hb)
 clear hb
 obtain ⟨a_a,c_a,rfl⟩:=Kd.N_slice o_a
 obtain ⟨a_b,c_b,rfl⟩:=Kd.N_slice o_b
 have HX_a:=Aside0.mk (Kd.N_reads' o_a).2.2
 have HP_a:=Aside0.mk (Kd.N_reads' o_a).2.1
 clear o_a
 have HX_b:=Aside0.mk (Kd.N_reads' o_b).2.2
 have HP_b:=Aside0.mk (Kd.N_reads' o_b).2.1
 clear o_b
 have h:=HH.out
 clear HH
 replace h:=Option.bind_eq_some_iff.mp h
 obtain ⟨⟨x,ok⟩,h_,h⟩:=h
 (try dsimp only at h)
 have A_4:=Aside0.mk h_
 have HH:=Aside0.mk h
 clear h_ h
 go_wp2_with fail
 refine (impl_ZAdd.calls k _ _ a _ _ b x ok _ HX_a.out HP_a.out HX_b.out HP_b.out A_4.out).mono ?_
 rintro e w4 ⟨v_x,rfl,o_x,hb⟩
 have HB4:=Aside0.mk (show Below w3.heap.size w3 w4 by first|exact hb|exact tr_drawn hb)
 clear hb
 obtain ⟨a_x,c_x,rfl⟩:=Kd.S_slice o_x
 have HX_x:=Aside0.mk (Kd.S_reads' o_x).2.2
 have HP_x:=Aside0.mk (Kd.S_reads' o_x).2.1
 clear o_x
 have h:=HH.out
 clear HH
 replace h:=Option.bind_eq_some_iff.mp h
 obtain ⟨⟨y,told⟩,h_,h⟩:=h
 (try dsimp only at h)
 have A_5:=Aside0.mk h_
 have HH:=Aside0.mk h
 clear h_ h
 go_wp2_with fail
 refine (spec_ZAdd.calls k _ _ a _ _ b y told _ (Kd.C_below HX_a.out HB4.out) HP_a.out (Kd.C_below HX_b.out HB4.out) HP_b.out A_5.out).mono ?_
 rintro e w5 ⟨v_y,rfl,o_y,hb⟩
 have HB5:=Aside0.mk (show Below w4.heap.size w4 w5 by first|exact hb|exact tr_drawn hb)
 clear hb
 obtain ⟨a_y,c_y,rfl⟩:=Kd.V_slice o_y
 have HX_y:=Aside0.mk (Kd.V_reads' o_y).2.2
 have HP_y:=Aside0.mk (Kd.V_reads' o_y).2.1
 clear o_y
 have h:=HH.out
 clear HH
 by_cases cc6:ok=told
 case neg =>
  rw [if_neg cc6] at h
  cases h
 rw [if_pos cc6] at h
 subst cc6
 (try clear cc6)
 replace h:=Option.bind_eq_some_iff.mp h
 obtain ⟨s0,h_,h⟩:=h
 have A_7:=Aside0.mk h_
 have HH:=Aside0.mk h
 clear h_ h
 go_wp2_with fail
 refine (impl_ZSame.calls k _ _ x _ _ y s0 _ (Kd.C_below HX_x.out HB5.out) HP_x.out HX_y.out HP_y.out A_7.out).mono ?_
 rintro e w7 ⟨rfl,hb⟩
 have HB7:=Aside0.mk (show Below w5.heap.size w5 w7 by first|exact hb|exact tr_drawn hb)
 clear hb
 have h:=HH.out
 clear HH
 cases s0 with
 | false =>
  rw [if_neg (by decide)] at h
  cases h
 | true =>
 rw [if_pos rfl] at h
 replace h:=Option.bind_eq_some_iff.mp h
 obtain ⟨k1,h_,h⟩:=h
 have A_9:=Aside0.mk h_
 have HH:=Aside0.mk h
 clear h_ h
 go_wp2_with fail
 refine (impl_ZOk.calls k _ _ a k1 _ (Kd.C_below HX_a.out (below_step (below_step HB4.out HB5.out) HB7.out)) HP_a.out A_9.out).mono ?_
 rintro e w9 ⟨rfl,hb⟩
 have HB9:=Aside0.mk (show Below w7.heap.size w7 w9 by first|exact hb|exact tr_drawn hb)
 clear hb
 have h:=HH.out
 clear HH
 replace h:=Option.bind_eq_some_iff.mp h
 obtain ⟨k2,h_,h⟩:=h
 have A_10:=Aside0.mk h_
 have HH:=Aside0.mk h
 clear h_ h
 go_wp2_with fail
 refine (spec_ZOk.calls k _ _ a k2 _ (Kd.C_below HX_a.out (below_step (below_step (below_step HB4.out HB5.out) HB7.out) HB9.out)) HP_a.out A_10.out).mono ?_
 rintro e w10 ⟨rfl,hb⟩
 have HB10:=Aside0.mk (show Below w9.heap.size w9 w10 by first|exact hb|exact tr_drawn hb)
 clear hb
 have h:=HH.out
 clear HH
 by_cases cc11:k1=k2
 case neg =>
  rw [if_neg cc11] at h
  cases h
 rw [if_pos cc11] at h
 subst cc11
 (try clear cc11)
 replace h:=Option.bind_eq_some_iff.mp h
 obtain ⟨d1,h_,h⟩:=h
 have A_12:=Aside0.mk h_
 have HH:=Aside0.mk h
 clear h_ h
 go_wp2_with fail
 refine (spec_ZOk.calls k _ _ a d1 _ (Kd.C_below HX_a.out (below_step (below_step (below_step (below_step HB4.out HB5.out) HB7.out) HB9.out) HB10.out)) HP_a.out A_12.out).mono ?_
 rintro e w12 ⟨rfl,hb⟩
 have HB12:=Aside0.mk (show Below w10.heap.size w10 w12 by first|exact hb|exact tr_drawn hb)
 clear hb
 have h:=HH.out
 clear HH
 cases d1 with
 | false =>
  rw [if_neg (by decide)] at h
  cases ok with
  | true =>
   rw [if_pos rfl] at h
   cases h
  | false =>
  rw [if_neg (by decide)] at h
  by_cases cc15:(x.length:Int)=0
  case pos =>
   rw [if_pos cc15] at h
   obtain rfl:=List.eq_nil_of_length_eq_zero (show x.length=0 by omega)
   (try clear cc15)
   clear h
   go_wp2
   go_ret
   exact ⟨by first|rfl|simp,(below_step (below_step (below_step (below_step (below_step (below_step HB3.out HB4.out) HB5.out) HB7.out) HB9.out) HB10.out) HB12.out)⟩
  rw [if_neg cc15] at h
  cases h
 | true =>
 rw [if_pos rfl] at h
 replace h:=Option.bind_eq_some_iff.mp h
 obtain ⟨d2,h_,h⟩:=h
 have A_16:=Aside0.mk h_
 have HH:=Aside0.mk h
 clear h_ h
 go_wp2_with fail
 refine (spec_ZOk.calls k _ _ b d2 _ (Kd.C_below HX_b.out (below_step (below_step (below_step (below_step (below_step HB4.out HB5.out) HB7.out) HB9.out) HB10.out) HB12.out)) HP_b.out A_16.out).mono ?_
 rintro e w16 ⟨rfl,hb⟩
 have HB16:=Aside0.mk (show Below w12.heap.size w12 w16 by first|exact hb|exact tr_drawn hb)
 clear hb
 have h:=HH.out
 clear HH
 cases d2 with
 | false =>
  rw [if_neg (by decide)] at h
  cases ok with
  | true =>
   rw [if_pos rfl] at h
   cases h
  | false =>
  rw [if_neg (by decide)] at h
  by_cases cc19:(x.length:Int)=0
  case pos =>
   rw [if_pos cc19] at h
   obtain rfl:=List.eq_nil_of_length_eq_zero (show x.length=0 by omega)
   (try clear cc19)
   clear h
   go_wp2
   go_ret
   exact ⟨by first|rfl|simp,(below_step (below_step (below_step (below_step (below_step (below_step (below_step HB3.out HB4.out) HB5.out) HB7.out) HB9.out) HB10.out) HB12.out) HB16.out)⟩
  rw [if_neg cc19] at h
  cases h
 | true =>
 rw [if_pos rfl] at h
 replace h:=Option.bind_eq_some_iff.mp h
 obtain ⟨⟨back,fine⟩,h_,h⟩:=h
 (try dsimp only at h)
 have A_20:=Aside0.mk h_
 have HH:=Aside0.mk h
 clear h_ h
 go_wp2_with fail
 refine (impl_ZAdd.calls k _ _ b _ _ a back fine _ (Kd.C_below HX_b.out (below_step (below_step (below_step (below_step (below_step (below_step HB4.out HB5.out) HB7.out) HB9.out) HB10.out) HB12.out) HB16.out)) HP_b.out (Kd.C_below HX_a.out (below_step (below_step (below_step (below_step (below_step (below_step HB4.out HB5.out) HB7.out) HB9.out) HB10.out) HB12.out) HB16.out)) HP_a.out A_20.out).mono ?_
 rintro e w20 ⟨v_back,rfl,o_back,hb⟩
 have HB20:=Aside0.mk (show Below w16.heap.size w16 w20 by first|exact hb|exact tr_drawn hb)
 clear hb
 obtain ⟨a_back,c_back,rfl⟩:=Kd.S_slice o_back
 have HX_back:=Aside0.mk (Kd.S_reads' o_back).2.2
 have HP_back:=Aside0.mk (Kd.S_reads' o_back).2.1
 clear o_back
 have h:=HH.out
 clear HH
 replace h:=Option.bind_eq_some_iff.mp h
 obtain ⟨na,h_,h⟩:=h
 have A_21:=Aside0.mk h_
 have HH:=Aside0.mk h
 clear h_ h
 go_wp2_with fail
 refine (impl_ZNeg.calls k _ _ a na _ (Kd.C_below HX_a.out (below_step (below_step (below_step (below_step (below_step (below_step (below_step HB4.out HB5.out) HB7.out) HB9.out) HB10.out) HB12.out) HB16.out) HB20.out)) HP_a.out A_21.out).mono ?_
 rintro e w21 ⟨v_na,rfl,o_na,hb⟩
 have HB21:=Aside0.mk (show Below w20.heap.size w20 w21 by first|exact hb|exact tr_drawn hb)
 clear hb
 obtain ⟨a_na,c_na,rfl⟩:=Kd.S_slice o_na
 have HX_na:=Aside0.mk (Kd.S_reads' o_na).2.2
 have HP_na:=Aside0.mk (Kd.S_reads' o_na).2.1
 clear o_na
 have h:=HH.out
 clear HH
 replace h:=Option.bind_eq_some_iff.mp h
 obtain ⟨⟨none_,zero⟩,h_,h⟩:=h
 (try dsimp only at h)
 have A_22:=Aside0.mk h_
 have HH:=Aside0.mk h
 clear h_ h
 go_wp2_with fail
 refine (impl_ZAdd.calls k _ _ a _ _ na none_ zero _ (Kd.C_below HX_a.out (below_step (below_step (below_step (below_step (below_step (below_step (below_step (below_step HB4.out HB5.out) HB7.out) HB9.out) HB10.out) HB12.out) HB16.out) HB20.out) HB21.out)) HP_a.out HX_na.out HP_na.out A_22.out).mono ?_
 rintro e w22 ⟨v_none_,rfl,o_none_,hb⟩
 have HB22:=Aside0.mk (show Below w21.heap.size w21 w22 by first|exact hb|exact tr_drawn hb)
 clear hb
 obtain ⟨a_none_,c_none_,rfl⟩:=Kd.S_slice o_none_
 have HX_none_:=Aside0.mk (Kd.S_reads' o_none_).2.2
 have HP_none_:=Aside0.mk (Kd.S_reads' o_none_).2.1
 clear o_none_
 have h:=HH.out
 clear HH
 replace h:=Option.bind_eq_some_iff.mp h
 obtain ⟨⟨self,can⟩,h_,h⟩:=h
 (try dsimp only at h)
 have A_23:=Aside0.mk h_
 have HH:=Aside0.mk h
 clear h_ h
 go_wp2_with fail
 refine (impl_ZAdd.calls k _ _ a none 0 [] self can _ (Kd.C_below HX_a.out (below_step (below_step (below_step (below_step (below_step (below_step (below_step (below_step (below_step HB4.out HB5.out) HB7.out) HB9.out) HB10.out) HB12.out) HB16.out) HB20.out) HB21.out) HB22.out)) HP_a.out (Kd.C_nil _ _) (Nat.le_refl _) A_23.out).mono ?_
 rintro e w23 ⟨v_self,rfl,o_self,hb⟩
 have HB23:=Aside0.mk (show Below w22.heap.size w22 w23 by first|exact hb|exact tr_drawn hb)
 clear hb
 obtain ⟨a_self,c_self,rfl⟩:=Kd.S_slice o_self
 have HX_self:=Aside0.mk (Kd.S_reads' o_self).2.2
 have HP_self:=Aside0.mk (Kd.S_reads' o_self).2.1
 clear o_self
 have h:=HH.out
 clear HH
 by_cases cc24:ok=fine
 case neg =>
  rw [if_neg cc24] at h
  cases h
 rw [if_pos cc24] at h
 subst cc24
 (try clear cc24)
 replace h:=Option.bind_eq_some_iff.mp h
 obtain ⟨s1,h_,h⟩:=h
 have A_25:=Aside0.mk h_
 have HH:=Aside0.mk h
 clear h_ h
 go_wp2_with fail
 refine (impl_ZSame.calls k _ _ back _ _ x s1 _ (Kd.C_below HX_back.out (below_step (below_step HB21.out HB22.out) HB23.out)) HP_back.out (Kd.C_below HX_x.out (below_step (below_step (below_step (below_step (below_step (below_step (below_step (below_step (below_step HB5.out HB7.out) HB9.out) HB10.out) HB12.out) HB16.out) HB20.out) HB21.out) HB22.out) HB23.out)) HP_x.out A_25.out).mono ?_
 rintro e w25 ⟨rfl,hb⟩
 have HB25:=Aside0.mk (show Below w23.heap.size w23 w25 by first|exact hb|exact tr_drawn hb)
 clear hb
 have h:=HH.out
 clear HH
 cases s1 with
 | false =>
  rw [if_neg (by decide)] at h
  cases h
 | true =>
 rw [if_pos rfl] at h
 cases zero with
 | false =>
  rw [if_neg (by decide)] at h
  cases h
 | true =>
 rw [if_pos rfl] at h
 by_cases cc28:(none_.length:Int) > 0
 case pos =>
  rw [if_pos cc28] at h
  cases h
 rw [if_neg cc28] at h
 have cc28f0:decide (0 < (none_.length:Int))=false:=decide_eq_false (by omega)
 have cc28f1:decide (0 < none_.length)=false:=decide_eq_false (by omega)
 (try clear cc28)
 cases can with
 | false =>
  rw [if_neg (by decide)] at h
  cases h
 | true =>
 rw [if_pos rfl] at h
 replace h:=Option.bind_eq_some_iff.mp h
 obtain ⟨s2,h_,h⟩:=h
 have A_30:=Aside0.mk h_
 have HH:=Aside0.mk h
 clear h_ h
 go_wp2_with fail
 refine (impl_ZSame.calls k _ _ self _ _ a s2 _ (Kd.C_below HX_self.out HB25.out) HP_self.out (Kd.C_below HX_a.out (below_step (below_step (below_step (below_step (below_step (below_step (below_step (below_step (below_step (below_step (below_step HB4.out HB5.out) HB7.out) HB9.out) HB10.out) HB12.out) HB16.out) HB20.out) HB21.out) HB22.out) HB23.out) HB25.out)) HP_a.out A_30.out).mono ?_
 rintro e w30 ⟨rfl,hb⟩
 have HB30:=Aside0.mk (show Below w25.heap.size w25 w30 by first|exact hb|exact tr_drawn hb)
 clear hb
 have h:=HH.out
 clear HH
 cases s2 with
 | false =>
  rw [if_neg (by decide)] at h
  cases h
 | true =>
 rw [if_pos rfl] at h
 replace h:=Option.bind_eq_some_iff.mp h
 obtain ⟨⟨zz,r_⟩,h_,h⟩:=h
 (try dsimp only at h)
 have A_32:=Aside0.mk h_
 have HH:=Aside0.mk h
 clear h_ h
 go_wp2_with fail
 refine (spec_DrawZGet.calls k _ _ l1 zz r_ _ (Kd.C_below HR1.out (below_step (below_step (below_step (below_step (below_step (below_step (below_step (below_step (below_step (below_step (below_step (below_step (below_step HB3.out HB4.out) HB5.out) HB7.out) HB9.out) HB10.out) HB12.out) HB16.out) HB20.out) HB21.out) HB22.out) HB23.out) HB25.out) HB30.out)) HP1.out A_32.out).mono ?_
 rintro e w32 ⟨v_zz,v_r_,rfl,o_zz,o_r_,hb⟩
 have HB32:=Aside0.mk (show Below w30.heap.size w30 w32 by first|exact hb|exact tr_drawn hb)
 clear hb
 obtain ⟨a_zz,c_zz,rfl⟩:=Kd.N_slice o_zz
 obtain ⟨a_r_,c_r_,rfl⟩:=Kd.R_slice o_r_
 have HX_zz:=Aside0.mk (Kd.N_reads' o_zz).2.2
 have HP_zz:=Aside0.mk (Kd.N_reads' o_zz).2.1
 clear o_zz
 have HX_r_:=Aside0.mk (Kd.R_reads' o_r_).2.2
 have HP_r_:=Aside0.mk (Kd.R_reads' o_r_).2.1
 clear o_r_
 have h:=HH.out
 clear HH
 cases ok with
 | false =>
  rw [if_neg (by decide)] at h
  replace h:=Option.bind_eq_some_iff.mp h
  obtain ⟨c,h_,h⟩:=h
  have A_34:=Aside0.mk h_
  have HH:=Aside0.mk h
  clear h_ h
  go_wp2_with fail
  refine (spec_DrawZOk.calls k _ _ l1 c _ (Kd.C_below HR1.out (below_step (below_step (below_step (below_step (below_step (below_step (below_step (below_step (below_step (below_step (below_step (below_step (below_step (below_step HB3.out HB4.out) HB5.out) HB7.out) HB9.out) HB10.out) HB12.out) HB16.out) HB20.out) HB21.out) HB22.out) HB23.out) HB25.out) HB30.out) HB32.out)) HP1.out A_34.out).mono ?_
  rintro e w34 ⟨v_c,rfl,o_c,hb⟩
  have HB34:=Aside0.mk (show Below w32.heap.size w32 w34 by first|exact hb|exact tr_drawn hb)
  clear hb
  obtain ⟨a_c,c_c,rfl⟩:=Kd.N_slice o_c
  have HX_c:=Aside0.mk (Kd.N_reads' o_c).2.2
  have HP_c:=Aside0.mk (Kd.N_reads' o_c).2.1
  clear o_c
  have h:=HH.out
  clear HH
  replace h:=Option.bind_eq_some_iff.mp h
  obtain ⟨⟨p,one⟩,h_,h⟩:=h
  (try dsimp only at h)
  have A_35:=Aside0.mk h_
  have HH:=Aside0.mk h
  clear h_ h
  go_wp2_with fail
  refine (impl_ZAdd.calls k _ _ x _ _ c p one _ (Kd.C_below HX_x.out (below_step (below_step (below_step (below_step (below_step (below_step (below_step (below_step (below_step (below_step (below_step (below_step (below_step HB5.out HB7.out) HB9.out) HB10.out) HB12.out) HB16.out) HB20.out) HB21.out) HB22.out) HB23.out) HB25.out) HB30.out) HB32.out) HB34.out)) HP_x.out HX_c.out HP_c.out A_35.out).mono ?_
  rintro e w35 ⟨v_p,rfl,o_p,hb⟩
  have HB35:=Aside0.mk (show Below w34.heap.size w34 w35 by first|exact hb|exact tr_drawn hb)
  clear hb
  obtain ⟨a_p,c_p,rfl⟩:=Kd.S_slice o_p
  have HX_p:=Aside0.mk (Kd.S_reads' o_p).2.2
  have HP_p:=Aside0.mk (Kd.S_reads' o_p).2.1
  clear o_p
  have h:=HH.out
  clear HH
  replace h:=Option.bind_eq_some_iff.mp h
  obtain ⟨⟨q,two⟩,h_,h⟩:=h
  (try dsimp only at h)
  have A_36:=Aside0.mk h_
  have HH:=Aside0.mk h
  clear h_ h
  go_wp2_with fail
  refine (impl_ZAdd.calls k _ _ b _ _ c q two _ (Kd.C_below HX_b.out (below_step (below_step (below_step (below_step (below_step (below_step (below_step (below_step (below_step (below_step (below_step (below_step (below_step (below_step (below_step HB4.out HB5.out) HB7.out) HB9.out) HB10.out) HB12.out) HB16.out) HB20.out) HB21.out) HB22.out) HB23.out) HB25.out) HB30.out) HB32.out) HB34.out) HB35.out)) HP_b.out (Kd.C_below HX_c.out HB35.out) HP_c.out A_36.out).mono ?_
  rintro e w36 ⟨v_q,rfl,o_q,hb⟩
  have HB36:=Aside0.mk (show Below w35.heap.size w35 w36 by first|exact hb|exact tr_drawn hb)
  clear hb
  obtain ⟨a_q,c_q,rfl⟩:=Kd.S_slice o_q
  have HX_q:=Aside0.mk (Kd.S_reads' o_q).2.2
  have HP_q:=Aside0.mk (Kd.S_reads' o_q).2.1
  clear o_q
  have h:=HH.out
  clear HH
  replace h:=Option.bind_eq_some_iff.mp h
  obtain ⟨⟨s,three⟩,h_,h⟩:=h
  (try dsimp only at h)
  have A_37:=Aside0.mk h_
  have HH:=Aside0.mk h
  clear h_ h
  go_wp2_with fail
  refine (impl_ZAdd.calls k _ _ a _ _ q s three _ (Kd.C_below HX_a.out (below_step (below_step (below_step (below_step (below_step (below_step (below_step (below_step (below_step (below_step (below_step (below_step (below_step (below_step (below_step (below_step HB4.out HB5.out) HB7.out) HB9.out) HB10.out) HB12.out) HB16.out) HB20.out) HB21.out) HB22.out) HB23.out) HB25.out) HB30.out) HB32.out) HB34.out) HB35.out) HB36.out)) HP_a.out HX_q.out HP_q.out A_37.out).mono ?_
  rintro e w37 ⟨v_s,rfl,o_s,hb⟩
  have HB37:=Aside0.mk (show Below w36.heap.size w36 w37 by first|exact hb|exact tr_drawn hb)
  clear hb
  obtain ⟨a_s,c_s,rfl⟩:=Kd.S_slice o_s
  have HX_s:=Aside0.mk (Kd.S_reads' o_s).2.2
  have HP_s:=Aside0.mk (Kd.S_reads' o_s).2.1
  clear o_s
  have h:=HH.out
  clear HH
  clear h
  go_wp2
  go_ret
  exact ⟨by first|rfl|simp,(below_step (below_step (below_step (below_step (below_step (below_step (below_step (below_step (below_step (below_step (below_step (below_step (below_step (below_step (below_step (below_step (below_step (below_step HB3.out HB4.out) HB5.out) HB7.out) HB9.out) HB10.out) HB12.out) HB16.out) HB20.out) HB21.out) HB22.out) HB23.out) HB25.out) HB30.out) HB32.out) HB34.out) HB35.out) HB36.out) HB37.out)⟩
 | true =>
 rw [if_pos rfl] at h
 replace h:=Option.bind_eq_some_iff.mp h
 obtain ⟨g1,h_,h⟩:=h
 have A_38:=Aside0.mk h_
 have HH:=Aside0.mk h
 clear h_ h
 go_wp2_with fail
 refine (impl_ZGet.calls k _ _ x _ _ r_ g1 _ (Kd.C_below HX_x.out (below_step (below_step (below_step (below_step (below_step (below_step (below_step (below_step (below_step (below_step (below_step (below_step HB5.out HB7.out) HB9.out) HB10.out) HB12.out) HB16.out) HB20.out) HB21.out) HB22.out) HB23.out) HB25.out) HB30.out) HB32.out)) HP_x.out HX_r_.out HP_r_.out A_38.out).mono ?_
 rintro e w38 ⟨rfl,hb⟩
 have HB38:=Aside0.mk (show Below w32.heap.size w32 w38 by first|exact hb|exact tr_drawn hb)
 clear hb
 have h:=HH.out
 clear HH
 replace h:=Option.bind_eq_some_iff.mp h
 obtain ⟨g2,h_,h⟩:=h
 have A_39:=Aside0.mk h_
 have HH:=Aside0.mk h
 clear h_ h
 go_wp2_with fail
 refine (impl_ZGet.calls k _ _ a _ _ r_ g2 _ (Kd.C_below HX_a.out (below_step (below_step (below_step (below_step (below_step (below_step (below_step (below_step (below_step (below_step (below_step (below_step (below_step (below_step HB4.out HB5.out) HB7.out) HB9.out) HB10.out) HB12.out) HB16.out) HB20.out) HB21.out) HB22.out) HB23.out) HB25.out) HB30.out) HB32.out) HB38.out)) HP_a.out (Kd.C_below HX_r_.out HB38.out) HP_r_.out A_39.out).mono ?_
 rintro e w39 ⟨rfl,hb⟩
 have HB39:=Aside0.mk (show Below w38.heap.size w38 w39 by first|exact hb|exact tr_drawn hb)
 clear hb
 have h:=HH.out
 clear HH
 replace h:=Option.bind_eq_some_iff.mp h
 obtain ⟨g3,h_,h⟩:=h
 have A_40:=Aside0.mk h_
 have HH:=Aside0.mk h
 clear h_ h
 go_wp2_with fail
 refine (impl_ZGet.calls k _ _ b _ _ r_ g3 _ (Kd.C_below HX_b.out (below_step (below_step (below_step (below_step (below_step (below_step (below_step (below_step (below_step (below_step (below_step (below_step (below_step (below_step (below_step HB4.out HB5.out) HB7.out) HB9.out) HB10.out) HB12.out) HB16.out) HB20.out) HB21.out) HB22.out) HB23.out) HB25.out) HB30.out) HB32.out) HB38.out) HB39.out)) HP_b.out (Kd.C_below HX_r_.out (below_step HB38.out HB39.out)) HP_r_.out A_40.out).mono ?_
 rintro e w40 ⟨rfl,hb⟩
 have HB40:=Aside0.mk (show Below w39.heap.size w39 w40 by first|exact hb|exact tr_drawn hb)
 clear hb
 have h:=HH.out
 clear HH
 by_cases cc41:g1=wrap64 (g2 + g3)
 case neg =>
  rw [if_neg cc41] at h
  cases h
 rw [if_pos cc41] at h
 have cc41f0:(g1 == wrap64 (g2 + g3))=true:=by simp [cc41]
 have cc41f1:(g1 != wrap64 (g2 + g3))=false:=by simp [cc41]
 (try clear cc41)
 replace h:=Option.bind_eq_some_iff.mp h
 obtain ⟨c,h_,h⟩:=h
 have A_42:=Aside0.mk h_
 have HH:=Aside0.mk h
 clear h_ h
 go_wp2_with fail
 refine (spec_DrawZOk.calls k _ _ l1 c _ (Kd.C_below HR1.out (below_step (below_step (below_step (below_step (below_step (below_step (below_step (below_step (below_step (below_step (below_step (below_step (below_step (below_step (below_step (below_step (below_step HB3.out HB4.out) HB5.out) HB7.out) HB9.out) HB10.out) HB12.out) HB16.out) HB20.out) HB21.out) HB22.out) HB23.out) HB25.out) HB30.out) HB32.out) HB38.out) HB39.out) HB40.out)) HP1.out A_42.out).mono ?_
 rintro e w42 ⟨v_c,rfl,o_c,hb⟩
 have HB42:=Aside0.mk (show Below w40.heap.size w40 w42 by first|exact hb|exact tr_drawn hb)
 clear hb
 obtain ⟨a_c,c_c,rfl⟩:=Kd.N_slice o_c
 have HX_c:=Aside0.mk (Kd.N_reads' o_c).2.2
 have HP_c:=Aside0.mk (Kd.N_reads' o_c).2.1
 clear o_c
 have h:=HH.out
 clear HH
 replace h:=Option.bind_eq_some_iff.mp h
 obtain ⟨⟨p,one⟩,h_,h⟩:=h
 (try dsimp only at h)
 have A_43:=Aside0.mk h_
 have HH:=Aside0.mk h
 clear h_ h
 go_wp2_with fail
 refine (impl_ZAdd.calls k _ _ x _ _ c p one _ (Kd.C_below HX_x.out (below_step (below_step (below_step (below_step (below_step (below_step (below_step (below_step (below_step (below_step (below_step (below_step (below_step (below_step (below_step (below_step HB5.out HB7.out) HB9.out) HB10.out) HB12.out) HB16.out) HB20.out) HB21.out) HB22.out) HB23.out) HB25.out) HB30.out) HB32.out) HB38.out) HB39.out) HB40.out) HB42.out)) HP_x.out HX_c.out HP_c.out A_43.out).mono ?_
 rintro e w43 ⟨v_p,rfl,o_p,hb⟩
 have HB43:=Aside0.mk (show Below w42.heap.size w42 w43 by first|exact hb|exact tr_drawn hb)
 clear hb
 obtain ⟨a_p,c_p,rfl⟩:=Kd.S_slice o_p
 have HX_p:=Aside0.mk (Kd.S_reads' o_p).2.2
 have HP_p:=Aside0.mk (Kd.S_reads' o_p).2.1
 clear o_p
 have h:=HH.out
 clear HH
 replace h:=Option.bind_eq_some_iff.mp h
 obtain ⟨⟨q,two⟩,h_,h⟩:=h
 (try dsimp only at h)
 have A_44:=Aside0.mk h_
 have HH:=Aside0.mk h
 clear h_ h
 go_wp2_with fail
 refine (impl_ZAdd.calls k _ _ b _ _ c q two _ (Kd.C_below HX_b.out (below_step (below_step (below_step (below_step (below_step (below_step (below_step (below_step (below_step (below_step (below_step (below_step (below_step (below_step (below_step (below_step (below_step (below_step HB4.out HB5.out) HB7.out) HB9.out) HB10.out) HB12.out) HB16.out) HB20.out) HB21.out) HB22.out) HB23.out) HB25.out) HB30.out) HB32.out) HB38.out) HB39.out) HB40.out) HB42.out) HB43.out)) HP_b.out (Kd.C_below HX_c.out HB43.out) HP_c.out A_44.out).mono ?_
 rintro e w44 ⟨v_q,rfl,o_q,hb⟩
 have HB44:=Aside0.mk (show Below w43.heap.size w43 w44 by first|exact hb|exact tr_drawn hb)
 clear hb
 obtain ⟨a_q,c_q,rfl⟩:=Kd.S_slice o_q
 have HX_q:=Aside0.mk (Kd.S_reads' o_q).2.2
 have HP_q:=Aside0.mk (Kd.S_reads' o_q).2.1
 clear o_q
 have h:=HH.out
 clear HH
 replace h:=Option.bind_eq_some_iff.mp h
 obtain ⟨⟨s,three⟩,h_,h⟩:=h
 (try dsimp only at h)
 have A_45:=Aside0.mk h_
 have HH:=Aside0.mk h
 clear h_ h
 go_wp2_with fail
 refine (impl_ZAdd.calls k _ _ a _ _ q s three _ (Kd.C_below HX_a.out (below_step (below_step (below_step (below_step (below_step (below_step (below_step (below_step (below_step (below_step (below_step (below_step (below_step (below_step (below_step (below_step (below_step (below_step (below_step HB4.out HB5.out) HB7.out) HB9.out) HB10.out) HB12.out) HB16.out) HB20.out) HB21.out) HB22.out) HB23.out) HB25.out) HB30.out) HB32.out) HB38.out) HB39.out) HB40.out) HB42.out) HB43.out) HB44.out)) HP_a.out HX_q.out HP_q.out A_45.out).mono ?_
 rintro e w45 ⟨v_s,rfl,o_s,hb⟩
 have HB45:=Aside0.mk (show Below w44.heap.size w44 w45 by first|exact hb|exact tr_drawn hb)
 clear hb
 obtain ⟨a_s,c_s,rfl⟩:=Kd.S_slice o_s
 have HX_s:=Aside0.mk (Kd.S_reads' o_s).2.2
 have HP_s:=Aside0.mk (Kd.S_reads' o_s).2.1
 clear o_s
 have h:=HH.out
 clear HH
 replace h:=Option.bind_eq_some_iff.mp h
 obtain ⟨ec,h_,h⟩:=h
 have A_46:=Aside0.mk h_
 have HH:=Aside0.mk h
 clear h_ h
 go_wp2_with fail
 refine (spec_ZOk.calls k _ _ c ec _ (Kd.C_below HX_c.out (below_step (below_step HB43.out HB44.out) HB45.out)) HP_c.out A_46.out).mono ?_
 rintro e w46 ⟨rfl,hb⟩
 have HB46:=Aside0.mk (show Below w45.heap.size w45 w46 by first|exact hb|exact tr_drawn hb)
 clear hb
 have h:=HH.out
 clear HH
 cases ec with
 | false =>
  rw [if_neg (by decide)] at h
  clear h
  go_wp2
  go_ret
  exact ⟨by first|rfl|simp,(below_step (below_step (below_step (below_step (below_step (below_step (below_step (below_step (below_step (below_step (below_step (below_step (below_step (below_step (below_step (below_step (below_step (below_step (below_step (below_step (below_step (below_step HB3.out HB4.out) HB5.out) HB7.out) HB9.out) HB10.out) HB12.out) HB16.out) HB20.out) HB21.out) HB22.out) HB23.out) HB25.out) HB30.out) HB32.out) HB38.out) HB39.out) HB40.out) HB42.out) HB43.out) HB44.out) HB45.out) HB46.out)⟩
 | true =>
 rw [if_pos rfl] at h
 cases one with
 | false =>
  rw [if_neg (by decide)] at h
  clear h
  go_wp2
  go_ret
  exact ⟨by first|rfl|simp,(below_step (below_step (below_step (below_step (below_step (below_step (below_step (below_step (below_step (below_step (below_step (below_step (below_step (below_step (below_step (below_step (below_step (below_step (below_step (below_step (below_step (below_step HB3.out HB4.out) HB5.out) HB7.out) HB9.out) HB10.out) HB12.out) HB16.out) HB20.out) HB21.out) HB22.out) HB23.out) HB25.out) HB30.out) HB32.out) HB38.out) HB39.out) HB40.out) HB42.out) HB43.out) HB44.out) HB45.out) HB46.out)⟩
 | true =>
 rw [if_pos rfl] at h
 cases two with
 | false =>
  rw [if_neg (by decide)] at h
  clear h
  go_wp2
  go_ret
  exact ⟨by first|rfl|simp,(below_step (below_step (below_step (below_step (below_step (below_step (below_step (below_step (below_step (below_step (below_step (below_step (below_step (below_step (below_step (below_step (below_step (below_step (below_step (below_step (below_step (below_step HB3.out HB4.out) HB5.out) HB7.out) HB9.out) HB10.out) HB12.out) HB16.out) HB20.out) HB21.out) HB22.out) HB23.out) HB25.out) HB30.out) HB32.out) HB38.out) HB39.out) HB40.out) HB42.out) HB43.out) HB44.out) HB45.out) HB46.out)⟩
 | true =>
 rw [if_pos rfl] at h
 cases three with
 | false =>
  rw [if_neg (by decide)] at h
  clear h
  go_wp2
  go_ret
  exact ⟨by first|rfl|simp,(below_step (below_step (below_step (below_step (below_step (below_step (below_step (below_step (below_step (below_step (below_step (below_step (below_step (below_step (below_step (below_step (below_step (below_step (below_step (below_step (below_step (below_step HB3.out HB4.out) HB5.out) HB7.out) HB9.out) HB10.out) HB12.out) HB16.out) HB20.out) HB21.out) HB22.out) HB23.out) HB25.out) HB30.out) HB32.out) HB38.out) HB39.out) HB40.out) HB42.out) HB43.out) HB44.out) HB45.out) HB46.out)⟩
 | true =>
 rw [if_pos rfl] at h
 replace h:=Option.bind_eq_some_iff.mp h
 obtain ⟨fin,h_,h⟩:=h
 have A_51:=Aside0.mk h_
 have HH:=Aside0.mk h
 clear h_ h
 go_wp2_with fail
 refine (impl_ZSame.calls k _ _ p _ _ s fin _ (Kd.C_below HX_p.out (below_step (below_step HB44.out HB45.out) HB46.out)) HP_p.out (Kd.C_below HX_s.out HB46.out) HP_s.out A_51.out).mono ?_
 rintro e w51 ⟨rfl,hb⟩
 have HB51:=Aside0.mk (show Below w46.heap.size w46 w51 by first|exact hb|exact tr_drawn hb)
 clear hb
 have h:=HH.out
 clear HH
 cases fin with
 | false =>
  rw [if_neg (by decide)] at h
  cases h
 | true =>
 rw [if_pos rfl] at h
 clear h
 go_wp2
 go_ret
 exact ⟨by first|rfl|simp,(below_step (below_step (below_step (below_step (below_step (below_step (below_step (below_step (below_step (below_step (below_step (below_step (below_step (below_step (below_step (below_step (below_step (below_step (below_step (below_step (below_step (below_step (below_step HB3.out HB4.out) HB5.out) HB7.out) HB9.out) HB10.out) HB12.out) HB16.out) HB20.out) HB21.out) HB22.out) HB23.out) HB25.out) HB30.out) HB32.out) HB38.out) HB39.out) HB40.out) HB42.out) HB43.out) HB44.out) HB45.out) HB46.out) HB51.out)⟩

/-- THE ONE PURE STATEMENT of laws_FnZ: yours. -/
def laws_FnZ.Pure:Prop:=∀ (l0:List Int) (l1:List Int),(l0.length≤maxLen∧∀ y0 ∈ l0,(Lit.int .u8 y0).wf=true)→(l1.length≤maxLen∧∀ y0 ∈ l1,(Lit.int .u8 y0).wf=true)→∃ k,laws_FnZ.f k l0 l1=some true
theorem laws_FnZ.walk (P:laws_FnZ.Pure) (A0:Option Addr) (c0:Nat) (l0:List Int) (A1:Option Addr) (c1:Nat) (l1:List Int) (w:World) (hr0:Kd.C (Kd.int .u8) w A0 l0.length l0) (hc0:l0.length≤c0) (hr1:Kd.C (Kd.int .u8) w A1 l1.length l1) (hc1:l1.length≤c1) (ok0:(l0.length≤maxLen∧∀ y0 ∈ l0,(Lit.int .u8 y0).wf=true)) (ok1:(l1.length≤maxLen∧∀ y0 ∈ l1,(Lit.int .u8 y0).wf=true)) :
  Calls Try.prog 7 #[.slice A0 l0.length c0,.slice A1 l1.length c1] w fun e w'=>e=.returned (.bool true)∧Below w.heap.size w w':=by
 obtain ⟨k,h⟩:=P l0 l1 ok0 ok1
 refine (laws_FnZ.calls k A0 c0 l0 A1 c1 l1 true w hr0 hc0 hr1 hc1 h rfl).mono ?_
 rintro e w' ⟨rfl,hd⟩
 exact ⟨rfl,hd⟩

end Go.Proofs.Ytaifnkapbffmaaa.PFnZ
