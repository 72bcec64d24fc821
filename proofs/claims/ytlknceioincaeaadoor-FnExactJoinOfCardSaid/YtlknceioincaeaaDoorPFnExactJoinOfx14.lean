-- Written by wip/tools/pp.py, a program of this session over the kit's printer: not the kit's own print
import Derived.Test.YtlknceioincaeaaDoorPFnExactJoinOfx0
import Derived.Test.YtlknceioincaeaaDoorPFnExactJoinOfx3
import Derived.Test.YtlknceioincaeaaDoorPFnExactJoinOfx4
import Derived.Test.YtlknceioincaeaaDoorPFnExactJoinOfx11
import Derived.Test.YtlknceioincaeaaDoorPFnExactJoinOfx12
import Derived.Test.YtlknceioincaeaaDoorPFnExactJoinOfx13
namespace Go.Proofs.YtlknceioincaeaaDoor.PFnExactJoinOf
open Go.RowKit Go.Proofs.YtlknceioincaeaaDoorW.PrintWords Go.Proofs.YtlknceioincaeaaDoorW.PrintLast Go.Proofs.YtlknceioincaeaaDoorW.PrintMore
attribute [local go_sem] max2_int min2_int max_two min_two max_three min_three max_four min_four   -- for this text's walks alone
set_option linter.unusedVariables false
set_option linter.unusedSimpArgs false

/-! ### laws_FnExactJoinOf: function 5 (by hand) -/
def laws_FnExactJoinOf.f (k:Nat) (l0:List (S59)) (l1:List (S59)) (a2:Int) (a3:Int):Option Bool :=
 (laws_szItemS.f k l0 1048576).bind fun s0=>(if s0 < 0 then (some true) else ((laws_szItemS.f k l1 s0).bind fun s1=>(if s1 < 0 then (some true) else ((laws_toItemS.f k l0).bind fun t0=>((laws_toItemS.f k l1).bind fun t1=>((spec_JoinOf.f k t0 t1 a2 a3).bind fun p4=>((laws_toItemS.f k l0).bind fun x0=>((laws_toItemS.f k l1).bind fun x1=>((impl_JoinOf.f k x0 x1 a2 a3).bind fun p7=>((laws_eqItemS.f k p7.1 p4.1).bind fun e0=>(if e0=true then ((if p7.2=p4.2 then ((laws_toItemS.f k l0).bind fun u0=>((laws_eqItemS.f k x0 u0).bind fun f0=>(if f0=true then ((laws_toItemS.f k l1).bind fun u1=>((laws_eqItemS.f k x1 u1).bind fun f1=>(if f1=true then ((laws_markItemS.f k x0 1).bind fun p14=>((laws_markItemS.f k x1 p14.1).bind fun p15=>((if p15.1 < 0 then (some false) else ((laws_eqItemS.f k p7.1 p4.1).bind fun e1=>(if e1=true then ((if p7.2=p4.2 then ((laws_markItemS.f k p7.1 1).bind fun p19=>((laws_heldItemS.f k p19.2 1).bind fun q0=>(if q0 < 0 then (some false) else (if q0=p19.1 then ((laws_toItemS.f k l0).bind fun h0=>((laws_toItemS.f k l1).bind fun h1=>((impl_JoinOf.f k h0 h1 a2 a3).bind fun p23=>((laws_eqItemS.f k p23.1 p4.1).bind fun e2=>(if e2=true then ((if p23.2=p4.2 then ((laws_heldItemS.f k p19.2 1).bind fun q1=>(if q1 < 0 then (some false) else (if q1=p19.1 then (some true) else (some false)))) else (some false))) else (some false)))))) else (some false))))) else (some false))) else (some false))))))) else (some false)))) else (some false)))) else (some false))) else (some false))))))))))))
theorem ex_new {W W':World} {n0:Nat} {v:Value} {l:List (S31)} (h:Kd.S k31 31 W' W.heap.size (fun _=>True) v l) (hn:n0≤W.heap.size):Kd.S k31 31 W' n0 (fun k=>W.heap.size≤k∧k < W'.heap.size) v l :=
 Kd.S_lower (Kd.S_mono (Kd.S_bound h) (fun _ hk=>⟨hk.2.1,hk.2.2.1⟩)) hn
theorem ex_drawn {W W':World} (h:Drawn0 W W'):Below W.heap.size W W':=by
 obtain ⟨n,rfl⟩:=h
 exact pw_below_drewN (Below.refl _ _) n
theorem ex_read {W:World} {A:Option Addr} {l:List (S31)} (h:Kd.C k31 W A l.length l):Kd.F k31 W (fun k=>k < W.heap.size) A l.length l:=Kd.C_F k31_heap h
set_option maxHeartbeats 8000000 in
set_option maxRecDepth 100000 in
theorem laws_FnExactJoinOf.calls (k : Nat) (A0 : Option Addr) (c0 : Nat) (l0 : List (S59)) (A1 : Option Addr) (c1 : Nat) (l1 : List (S59)) (a2 : Int) (a3 : Int) (r : Bool) (w : World) (hr0 : Kd.C k59 w A0 l0.length l0) (hc0 : l0.length ≤ c0) (hr1 : Kd.C k59 w A1 l1.length l1) (hc1 : l1.length ≤ c1) (h : laws_FnExactJoinOf.f k l0 l1 a2 a3 = some r) (hr_ : r = true) (hT : Lib.TabIs Tryd.prog w "internal/strconv.uint64pow10" .u64 Lib.pow10Tab) :
  Calls Tryd.prog 5 #[.slice A0 l0.length c0,.slice A1 l1.length c1,.int .i64 a2,.int .i64 a3] w fun e w'=>e=.returned (.bool r)∧Below w.heap.size w w':=by
 subst hr_
 unfold laws_FnExactJoinOf.f at h
 have HA0:=Aside0.mk (Kd.C_F k59_heap hr0)
 have HC0:=Aside0.mk hc0
 clear hr0 hc0
 have HA1:=Aside0.mk (Kd.C_F k59_heap hr1)
 have HC1:=Aside0.mk hc1
 clear hr1 hc1
 have HB:=Aside0.mk (Below.refl w.heap.size w)
 have HT0:=Aside0.mk hT
 clear hT
 replace h:=Option.bind_eq_some_iff.mp h
 obtain ⟨s0,h_,h⟩:=h
 have A_1:=Aside0.mk h_
 clear h_
 by_cases cc0:s0 < 0
 ·have c0b:decide (s0 < 0)=true:=decide_eq_true cc0
  clear h cc0
  go_enter Tryd.func5,Tryd.ntmps5
  go_wp2_with fail
  refine (laws_szItemS.calls k _ _ l0 1048576 s0 _ (Kd.F_now HA0.out) HC0.out A_1.out).mono ?_
  rintro e y0 ⟨rfl,hd⟩
  have hb:Below w.heap.size w y0:=by first|exact hd|exact ex_drawn hd
  have HA0:=Aside0.mk (Kd.F_below HA0.out hb)
  have HA1:=Aside0.mk (Kd.F_below HA1.out hb)
  have HB:=Aside0.mk (below_step HB.out hb)
  clear hb hd
  go_wp2
  go_ret
  exact ⟨rfl,HB.out⟩
 rw [if_neg cc0] at h
 have c0b:decide (s0 < 0)=false:=decide_eq_false cc0
 clear cc0
 replace h:=Option.bind_eq_some_iff.mp h
 obtain ⟨s1,h_,h⟩:=h
 have A_2:=Aside0.mk h_
 clear h_
 by_cases cc1:s1 < 0
 ·have c1b:decide (s1 < 0)=true:=decide_eq_true cc1
  clear h cc1
  go_enter Tryd.func5,Tryd.ntmps5
  go_wp2_with fail
  refine (laws_szItemS.calls k _ _ l0 1048576 s0 _ (Kd.F_now HA0.out) HC0.out A_1.out).mono ?_
  rintro e y0 ⟨rfl,hd⟩
  have hb:Below w.heap.size w y0:=by first|exact hd|exact ex_drawn hd
  have HA0:=Aside0.mk (Kd.F_below HA0.out hb)
  have HA1:=Aside0.mk (Kd.F_below HA1.out hb)
  have HB:=Aside0.mk (below_step HB.out hb)
  clear hb hd
  go_wp2_with fail
  refine (laws_szItemS.calls k _ _ l1 s0 s1 _ (Kd.F_now HA1.out) HC1.out A_2.out).mono ?_
  rintro e y1 ⟨rfl,hd⟩
  have hb:Below y0.heap.size y0 y1:=by first|exact hd|exact ex_drawn hd
  have HA0:=Aside0.mk (Kd.F_below HA0.out hb)
  have HA1:=Aside0.mk (Kd.F_below HA1.out hb)
  have HB:=Aside0.mk (below_step HB.out hb)
  clear hb hd
  go_wp2
  go_ret
  exact ⟨rfl,HB.out⟩
 rw [if_neg cc1] at h
 have c1b:decide (s1 < 0)=false:=decide_eq_false cc1
 clear cc1
 replace h:=Option.bind_eq_some_iff.mp h
 obtain ⟨t0,h_,h⟩:=h
 have A_3:=Aside0.mk h_
 clear h_
 replace h:=Option.bind_eq_some_iff.mp h
 obtain ⟨t1,h_,h⟩:=h
 have A_4:=Aside0.mk h_
 clear h_
 replace h:=Option.bind_eq_some_iff.mp h
 obtain ⟨⟨z0,b0⟩,h_,h⟩:=h
 have A_5:=Aside0.mk h_
 clear h_
 dsimp only at h
 replace h:=Option.bind_eq_some_iff.mp h
 obtain ⟨x0,h_,h⟩:=h
 have A_6:=Aside0.mk h_
 clear h_
 replace h:=Option.bind_eq_some_iff.mp h
 obtain ⟨x1,h_,h⟩:=h
 have A_7:=Aside0.mk h_
 clear h_
 replace h:=Option.bind_eq_some_iff.mp h
 obtain ⟨⟨g0,b1⟩,h_,h⟩:=h
 have A_8:=Aside0.mk h_
 clear h_
 dsimp only at h
 replace h:=Option.bind_eq_some_iff.mp h
 obtain ⟨e0,h_,h⟩:=h
 have A_9:=Aside0.mk h_
 clear h_
 cases e0 with
 | false=>rw [if_neg (by decide)] at h;cases h
 | true =>
 rw [if_pos rfl] at h
 by_cases cc9:b1=b0
 case neg=>rw [if_neg cc9] at h;cases h
 rw [if_pos cc9] at h
 subst cc9
 replace h:=Option.bind_eq_some_iff.mp h
 obtain ⟨u0,h_,h⟩:=h
 have A_10:=Aside0.mk h_
 clear h_
 replace h:=Option.bind_eq_some_iff.mp h
 obtain ⟨f0,h_,h⟩:=h
 have A_11:=Aside0.mk h_
 clear h_
 cases f0 with
 | false=>rw [if_neg (by decide)] at h;cases h
 | true =>
 rw [if_pos rfl] at h
 replace h:=Option.bind_eq_some_iff.mp h
 obtain ⟨u1,h_,h⟩:=h
 have A_12:=Aside0.mk h_
 clear h_
 replace h:=Option.bind_eq_some_iff.mp h
 obtain ⟨f1,h_,h⟩:=h
 have A_13:=Aside0.mk h_
 clear h_
 cases f1 with
 | false=>rw [if_neg (by decide)] at h;cases h
 | true =>
 rw [if_pos rfl] at h
 replace h:=Option.bind_eq_some_iff.mp h
 obtain ⟨⟨k0,x0_14⟩,h_,h⟩:=h
 have A_14:=Aside0.mk h_
 clear h_
 dsimp only at h
 replace h:=Option.bind_eq_some_iff.mp h
 obtain ⟨⟨k1,x1_15⟩,h_,h⟩:=h
 have A_15:=Aside0.mk h_
 clear h_
 dsimp only at h
 by_cases cc16:k1 < 0
 case pos=>rw [if_pos cc16] at h;cases h
 rw [if_neg cc16] at h
 have c16b:decide (k1 < 0)=false:=decide_eq_false cc16
 clear cc16
 replace h:=Option.bind_eq_some_iff.mp h
 obtain ⟨e1,h_,h⟩:=h
 have A_16:=Aside0.mk h_
 clear h_
 cases e1 with
 | false=>rw [if_neg (by decide)] at h;cases h
 | true =>
 rw [if_pos rfl] at h
 rw [if_pos rfl] at h
 replace h:=Option.bind_eq_some_iff.mp h
 obtain ⟨⟨m,g0_19⟩,h_,h⟩:=h
 have A_17:=Aside0.mk h_
 clear h_
 dsimp only at h
 replace h:=Option.bind_eq_some_iff.mp h
 obtain ⟨q0,h_,h⟩:=h
 have A_18:=Aside0.mk h_
 clear h_
 by_cases cc20:q0 < 0
 case pos=>rw [if_pos cc20] at h;cases h
 rw [if_neg cc20] at h
 have c20b:decide (q0 < 0)=false:=decide_eq_false cc20
 clear cc20
 by_cases g20:q0=m
 case neg=>rw [if_neg g20] at h;cases h
 rw [if_pos g20] at h
 have g20b:(q0 == m)=true:=beq_iff_eq.mpr g20
 have g20c:(q0 != m)=false:=bne_eq_false_iff_eq.mpr g20
 clear g20
 replace h:=Option.bind_eq_some_iff.mp h
 obtain ⟨h0,h_,h⟩:=h
 have A_19:=Aside0.mk h_
 clear h_
 replace h:=Option.bind_eq_some_iff.mp h
 obtain ⟨h1,h_,h⟩:=h
 have A_20:=Aside0.mk h_
 clear h_
 replace h:=Option.bind_eq_some_iff.mp h
 obtain ⟨⟨y0,b2⟩,h_,h⟩:=h
 have A_21:=Aside0.mk h_
 clear h_
 dsimp only at h
 replace h:=Option.bind_eq_some_iff.mp h
 obtain ⟨e2,h_,h⟩:=h
 have A_22:=Aside0.mk h_
 clear h_
 cases e2 with
 | false=>rw [if_neg (by decide)] at h;cases h
 | true =>
 rw [if_pos rfl] at h
 by_cases cc25:b2=b1
 case neg=>rw [if_neg cc25] at h;cases h
 rw [if_pos cc25] at h
 subst cc25
 replace h:=Option.bind_eq_some_iff.mp h
 obtain ⟨q1,h_,h⟩:=h
 have A_23:=Aside0.mk h_
 clear h_
 by_cases cc26:q1 < 0
 case pos=>rw [if_pos cc26] at h;cases h
 rw [if_neg cc26] at h
 have c26b:decide (q1 < 0)=false:=decide_eq_false cc26
 clear cc26
 by_cases g26:q1=m
 case neg=>rw [if_neg g26] at h;cases h
 rw [if_pos g26] at h
 have g26b:(q1 == m)=true:=beq_iff_eq.mpr g26
 have g26c:(q1 != m)=false:=bne_eq_false_iff_eq.mpr g26
 clear g26
 clear h
 go_enter Tryd.func5,Tryd.ntmps5
 go_wp2_with fail
 refine (laws_szItemS.calls k _ _ l0 1048576 s0 _ (Kd.F_now HA0.out) HC0.out A_1.out).mono ?_
 rintro e w1 ⟨rfl,hd⟩
 have hb:Below w.heap.size w w1:=by first|exact hd|exact ex_drawn hd
 have HN0:=Aside0.mk hb.size
 have n0_:=Aside0.mk (Kd.F_below HA0.out hb)
 have n1_:=Aside0.mk (Kd.F_below HA1.out hb)
 clear HA0
 clear HA1
 have HA0:=n0_
 have HA1:=n1_
 clear n0_ n1_
 have HB:=Aside0.mk (below_step HB.out hb)
 clear hb hd
 go_wp2_with fail
 refine (laws_szItemS.calls k _ _ l1 s0 s1 _ (Kd.F_now HA1.out) HC1.out A_2.out).mono ?_
 rintro e w2 ⟨rfl,hd⟩
 have hb:Below w1.heap.size w1 w2:=by first|exact hd|exact ex_drawn hd
 have HN1:=Aside0.mk hb.size
 have n0_:=Aside0.mk (Kd.F_below HA0.out hb)
 have n1_:=Aside0.mk (Kd.F_below HA1.out hb)
 clear HA0
 clear HA1
 have HA0:=n0_
 have HA1:=n1_
 clear n0_ n1_
 have HB:=Aside0.mk (below_step HB.out hb)
 clear hb hd
 go_wp2_with fail
 refine (laws_toItemS.calls k _ _ l0 t0 _ (Kd.F_now HA0.out) HC0.out A_3.out).mono ?_
 rintro e w3 ⟨v_t0,rfl,ho,hb⟩
 obtain ⟨a_t0,c_t0,rfl⟩:=Kd.S_slice ho
 have HN2:=Aside0.mk hb.size
 have n0_:=Aside0.mk (Kd.F_below HA0.out hb)
 have n1_:=Aside0.mk (Kd.F_below HA1.out hb)
 clear HA0
 clear HA1
 have HA0:=n0_
 have HA1:=n1_
 clear n0_ n1_
 have HX_t0:=Aside0.mk (ex_read (Kd.S_reads' ho).2.2)
 have HP_t0:=Aside0.mk (Kd.S_reads' ho).2.1
 have HB:=Aside0.mk (below_step HB.out hb)
 clear ho hb
 go_wp2_with fail
 refine (laws_toItemS.calls k _ _ l1 t1 _ (Kd.F_now HA1.out) HC1.out A_4.out).mono ?_
 rintro e w4 ⟨v_t1,rfl,ho,hb⟩
 obtain ⟨a_t1,c_t1,rfl⟩:=Kd.S_slice ho
 have HN3:=Aside0.mk hb.size
 have n0_:=Aside0.mk (Kd.F_below HA0.out hb)
 have n1_:=Aside0.mk (Kd.F_below HA1.out hb)
 have n2_:=Aside0.mk (Kd.F_below HX_t0.out hb)
 clear HA0
 clear HA1
 clear HX_t0
 have HA0:=n0_
 have HA1:=n1_
 have HX_t0:=n2_
 clear n0_ n1_ n2_
 have HX_t1:=Aside0.mk (ex_read (Kd.S_reads' ho).2.2)
 have HP_t1:=Aside0.mk (Kd.S_reads' ho).2.1
 have HB:=Aside0.mk (below_step HB.out hb)
 clear ho hb
 go_wp2_with fail
 refine (spec_JoinOf.calls k _ _ t0 _ _ t1 a2 a3 z0 _ _ (Kd.F_now HX_t0.out) HP_t0.out (Kd.F_now HX_t1.out) HP_t1.out A_5.out).mono ?_
 rintro e w5 ⟨v_z0,rfl,ho,hb⟩
 obtain ⟨a_z0,c_z0,rfl⟩:=Kd.V_slice ho
 have HN4:=Aside0.mk hb.size
 have n0_:=Aside0.mk (Kd.F_below HA0.out hb)
 have n1_:=Aside0.mk (Kd.F_below HA1.out hb)
 have n2_:=Aside0.mk (Kd.F_below HX_t0.out hb)
 have n3_:=Aside0.mk (Kd.F_below HX_t1.out hb)
 clear HA0
 clear HA1
 clear HX_t0
 clear HX_t1
 have HA0:=n0_
 have HA1:=n1_
 have HX_t0:=n2_
 have HX_t1:=n3_
 clear n0_ n1_ n2_ n3_
 have HX_z0:=Aside0.mk (ex_read (Kd.V_reads' ho).2.2)
 have HP_z0:=Aside0.mk (Kd.V_reads' ho).2.1
 have HB:=Aside0.mk (below_step HB.out hb)
 clear ho hb
 clear HX_t0 HP_t0
 clear HX_t1 HP_t1
 go_wp2_with fail
 refine (laws_toItemS.calls k _ _ l0 x0 _ (Kd.F_now HA0.out) HC0.out A_6.out).mono ?_
 rintro e w6 ⟨v_x0,rfl,ho,hb⟩
 obtain ⟨a_x0,c_x0,rfl⟩:=Kd.S_slice ho
 have HN5:=Aside0.mk hb.size
 have n0_:=Aside0.mk (Kd.F_below HA0.out hb)
 have n1_:=Aside0.mk (Kd.F_below HA1.out hb)
 have n2_:=Aside0.mk (Kd.F_below HX_z0.out hb)
 clear HA0
 clear HA1
 clear HX_z0
 have HA0:=n0_
 have HA1:=n1_
 have HX_z0:=n2_
 clear n0_ n1_ n2_
 have HX_x0:=Aside0.mk (ex_new ho HB.out.size)
 have HB:=Aside0.mk (below_step HB.out hb)
 clear ho hb
 go_wp2_with fail
 refine (laws_toItemS.calls k _ _ l1 x1 _ (Kd.F_now HA1.out) HC1.out A_7.out).mono ?_
 rintro e w7 ⟨v_x1,rfl,ho,hb⟩
 obtain ⟨a_x1,c_x1,rfl⟩:=Kd.S_slice ho
 have HN6:=Aside0.mk hb.size
 have n0_:=Aside0.mk (Kd.F_below HA0.out hb)
 have n1_:=Aside0.mk (Kd.F_below HA1.out hb)
 have n2_:=Aside0.mk (Kd.S_below HX_x0.out hb)
 have n3_:=Aside0.mk (Kd.F_below HX_z0.out hb)
 clear HA0
 clear HA1
 clear HX_x0
 clear HX_z0
 have HA0:=n0_
 have HA1:=n1_
 have HX_x0:=n2_
 have HX_z0:=n3_
 clear n0_ n1_ n2_ n3_
 have HX_x1:=Aside0.mk (ex_new ho HB.out.size)
 have HB:=Aside0.mk (below_step HB.out hb)
 clear ho hb
 go_wp2_with fail
 refine (impl_JoinOf.calls k _ _ x0 _ _ x1 a2 a3 g0 _ _ (Kd.S_reads' HX_x0.out).2.2 (Kd.S_reads' HX_x0.out).2.1 (Kd.S_reads' HX_x1.out).2.2 (Kd.S_reads' HX_x1.out).2.1 A_8.out (tab_on HT0.out HB.out)).mono ?_
 rintro e w8 ⟨v_g0,rfl,ho,hb⟩
 obtain ⟨a_g0,c_g0,rfl⟩:=Kd.S_slice ho
 have HN7:=Aside0.mk hb.size
 have n0_:=Aside0.mk (Kd.F_below HA0.out hb)
 have n1_:=Aside0.mk (Kd.F_below HA1.out hb)
 have n2_:=Aside0.mk (Kd.S_below HX_x0.out hb)
 have n3_:=Aside0.mk (Kd.S_below HX_x1.out hb)
 have n4_:=Aside0.mk (Kd.F_below HX_z0.out hb)
 clear HA0
 clear HA1
 clear HX_x0
 clear HX_x1
 clear HX_z0
 have HA0:=n0_
 have HA1:=n1_
 have HX_x0:=n2_
 have HX_x1:=n3_
 have HX_z0:=n4_
 clear n0_ n1_ n2_ n3_ n4_
 have HX_g0:=Aside0.mk (ex_new ho HB.out.size)
 have HB:=Aside0.mk (below_step HB.out hb)
 clear ho hb
 go_wp2_with fail
 refine (laws_eqItemS.calls k _ _ g0 _ _ z0 true _ (Kd.S_reads' HX_g0.out).2.2 (Kd.S_reads' HX_g0.out).2.1 (Kd.F_now HX_z0.out) HP_z0.out A_9.out).mono ?_
 rintro e w9 ⟨rfl,hd⟩
 have hb:Below w8.heap.size w8 w9:=by first|exact hd|exact ex_drawn hd
 have HN8:=Aside0.mk hb.size
 have n0_:=Aside0.mk (Kd.F_below HA0.out hb)
 have n1_:=Aside0.mk (Kd.F_below HA1.out hb)
 have n2_:=Aside0.mk (Kd.S_below HX_x0.out hb)
 have n3_:=Aside0.mk (Kd.S_below HX_x1.out hb)
 have n4_:=Aside0.mk (Kd.S_below HX_g0.out hb)
 have n5_:=Aside0.mk (Kd.F_below HX_z0.out hb)
 clear HA0
 clear HA1
 clear HX_x0
 clear HX_x1
 clear HX_g0
 clear HX_z0
 have HA0:=n0_
 have HA1:=n1_
 have HX_x0:=n2_
 have HX_x1:=n3_
 have HX_g0:=n4_
 have HX_z0:=n5_
 clear n0_ n1_ n2_ n3_ n4_ n5_
 have HB:=Aside0.mk (below_step HB.out hb)
 clear hb hd
 go_wp2_with fail
 refine (laws_toItemS.calls k _ _ l0 u0 _ (Kd.F_now HA0.out) HC0.out A_10.out).mono ?_
 rintro e w10 ⟨v_u0,rfl,ho,hb⟩
 obtain ⟨a_u0,c_u0,rfl⟩:=Kd.S_slice ho
 have HN9:=Aside0.mk hb.size
 have n0_:=Aside0.mk (Kd.F_below HA0.out hb)
 have n1_:=Aside0.mk (Kd.F_below HA1.out hb)
 have n2_:=Aside0.mk (Kd.S_below HX_x0.out hb)
 have n3_:=Aside0.mk (Kd.S_below HX_x1.out hb)
 have n4_:=Aside0.mk (Kd.S_below HX_g0.out hb)
 have n5_:=Aside0.mk (Kd.F_below HX_z0.out hb)
 clear HA0
 clear HA1
 clear HX_x0
 clear HX_x1
 clear HX_g0
 clear HX_z0
 have HA0:=n0_
 have HA1:=n1_
 have HX_x0:=n2_
 have HX_x1:=n3_
 have HX_g0:=n4_
 have HX_z0:=n5_
 clear n0_ n1_ n2_ n3_ n4_ n5_
 have HX_u0:=Aside0.mk (ex_read (Kd.S_reads' ho).2.2)
 have HP_u0:=Aside0.mk (Kd.S_reads' ho).2.1
 have HB:=Aside0.mk (below_step HB.out hb)
 clear ho hb
 go_wp2_with fail
 refine (laws_eqItemS.calls k _ _ x0 _ _ u0 true _ (Kd.S_reads' HX_x0.out).2.2 (Kd.S_reads' HX_x0.out).2.1 (Kd.F_now HX_u0.out) HP_u0.out A_11.out).mono ?_
 rintro e w11 ⟨rfl,hd⟩
 have hb:Below w10.heap.size w10 w11:=by first|exact hd|exact ex_drawn hd
 have HN10:=Aside0.mk hb.size
 have n0_:=Aside0.mk (Kd.F_below HA0.out hb)
 have n1_:=Aside0.mk (Kd.F_below HA1.out hb)
 have n2_:=Aside0.mk (Kd.S_below HX_x0.out hb)
 have n3_:=Aside0.mk (Kd.S_below HX_x1.out hb)
 have n4_:=Aside0.mk (Kd.S_below HX_g0.out hb)
 have n5_:=Aside0.mk (Kd.F_below HX_z0.out hb)
 have n6_:=Aside0.mk (Kd.F_below HX_u0.out hb)
 clear HA0
 clear HA1
 clear HX_x0
 clear HX_x1
 clear HX_g0
 clear HX_z0
 clear HX_u0
 have HA0:=n0_
 have HA1:=n1_
 have HX_x0:=n2_
 have HX_x1:=n3_
 have HX_g0:=n4_
 have HX_z0:=n5_
 have HX_u0:=n6_
 clear n0_ n1_ n2_ n3_ n4_ n5_ n6_
 have HB:=Aside0.mk (below_step HB.out hb)
 clear hb hd
 clear HX_u0 HP_u0
 go_wp2_with fail
 refine (laws_toItemS.calls k _ _ l1 u1 _ (Kd.F_now HA1.out) HC1.out A_12.out).mono ?_
 rintro e w12 ⟨v_u1,rfl,ho,hb⟩
 obtain ⟨a_u1,c_u1,rfl⟩:=Kd.S_slice ho
 have HN11:=Aside0.mk hb.size
 have n0_:=Aside0.mk (Kd.F_below HA0.out hb)
 have n1_:=Aside0.mk (Kd.F_below HA1.out hb)
 have n2_:=Aside0.mk (Kd.S_below HX_x0.out hb)
 have n3_:=Aside0.mk (Kd.S_below HX_x1.out hb)
 have n4_:=Aside0.mk (Kd.S_below HX_g0.out hb)
 have n5_:=Aside0.mk (Kd.F_below HX_z0.out hb)
 clear HA0
 clear HA1
 clear HX_x0
 clear HX_x1
 clear HX_g0
 clear HX_z0
 have HA0:=n0_
 have HA1:=n1_
 have HX_x0:=n2_
 have HX_x1:=n3_
 have HX_g0:=n4_
 have HX_z0:=n5_
 clear n0_ n1_ n2_ n3_ n4_ n5_
 have HX_u1:=Aside0.mk (ex_read (Kd.S_reads' ho).2.2)
 have HP_u1:=Aside0.mk (Kd.S_reads' ho).2.1
 have HB:=Aside0.mk (below_step HB.out hb)
 clear ho hb
 go_wp2_with fail
 refine (laws_eqItemS.calls k _ _ x1 _ _ u1 true _ (Kd.S_reads' HX_x1.out).2.2 (Kd.S_reads' HX_x1.out).2.1 (Kd.F_now HX_u1.out) HP_u1.out A_13.out).mono ?_
 rintro e w13 ⟨rfl,hd⟩
 have hb:Below w12.heap.size w12 w13:=by first|exact hd|exact ex_drawn hd
 have HN12:=Aside0.mk hb.size
 have n0_:=Aside0.mk (Kd.F_below HA0.out hb)
 have n1_:=Aside0.mk (Kd.F_below HA1.out hb)
 have n2_:=Aside0.mk (Kd.S_below HX_x0.out hb)
 have n3_:=Aside0.mk (Kd.S_below HX_x1.out hb)
 have n4_:=Aside0.mk (Kd.S_below HX_g0.out hb)
 have n5_:=Aside0.mk (Kd.F_below HX_z0.out hb)
 have n6_:=Aside0.mk (Kd.F_below HX_u1.out hb)
 clear HA0
 clear HA1
 clear HX_x0
 clear HX_x1
 clear HX_g0
 clear HX_z0
 clear HX_u1
 have HA0:=n0_
 have HA1:=n1_
 have HX_x0:=n2_
 have HX_x1:=n3_
 have HX_g0:=n4_
 have HX_z0:=n5_
 have HX_u1:=n6_
 clear n0_ n1_ n2_ n3_ n4_ n5_ n6_
 have HB:=Aside0.mk (below_step HB.out hb)
 clear hb hd
 clear HX_u1 HP_u1
 go_wp2_with fail
 refine (laws_markItemS.calls k (fun k_=>w5.heap.size≤k_∧k_ < w6.heap.size) _ x0 1 k0 x0_14 w _ HB.out HX_x0.out A_14.out).mono ?_
 rintro e w14 ⟨rfl,ho,hB,hk⟩
 have HN13:=Aside0.mk hk.1
 have n0_:=Aside0.mk (Kd.F_kept HA0.out hk (fun k_ hk_ hs_=>by have h1_:=hs_.1;have z0_:=HN0.out;have z1_:=HN1.out;have z2_:=HN2.out;have z3_:=HN3.out;have z4_:=HN4.out;have z5_:=HN5.out;have z6_:=HN6.out;have z7_:=HN7.out;have z8_:=HN8.out;have z9_:=HN9.out;have z10_:=HN10.out;have z11_:=HN11.out;have z12_:=HN12.out;omega))
 have n1_:=Aside0.mk (Kd.F_kept HA1.out hk (fun k_ hk_ hs_=>by have h1_:=hs_.1;have z0_:=HN0.out;have z1_:=HN1.out;have z2_:=HN2.out;have z3_:=HN3.out;have z4_:=HN4.out;have z5_:=HN5.out;have z6_:=HN6.out;have z7_:=HN7.out;have z8_:=HN8.out;have z9_:=HN9.out;have z10_:=HN10.out;have z11_:=HN11.out;have z12_:=HN12.out;omega))
 have n2_:=Aside0.mk (Kd.S_kept HX_x1.out hk (fun k_ hk_ hs_=>by have h1_:=hs_.1;have h2_:=hs_.2;have h3_:=hk_.1;have h4_:=hk_.2;have z0_:=HN0.out;have z1_:=HN1.out;have z2_:=HN2.out;have z3_:=HN3.out;have z4_:=HN4.out;have z5_:=HN5.out;have z6_:=HN6.out;have z7_:=HN7.out;have z8_:=HN8.out;have z9_:=HN9.out;have z10_:=HN10.out;have z11_:=HN11.out;have z12_:=HN12.out;omega))
 have n3_:=Aside0.mk (Kd.S_kept HX_g0.out hk (fun k_ hk_ hs_=>by have h1_:=hs_.1;have h2_:=hs_.2;have h3_:=hk_.1;have h4_:=hk_.2;have z0_:=HN0.out;have z1_:=HN1.out;have z2_:=HN2.out;have z3_:=HN3.out;have z4_:=HN4.out;have z5_:=HN5.out;have z6_:=HN6.out;have z7_:=HN7.out;have z8_:=HN8.out;have z9_:=HN9.out;have z10_:=HN10.out;have z11_:=HN11.out;have z12_:=HN12.out;omega))
 have n4_:=Aside0.mk (Kd.F_kept HX_z0.out hk (fun k_ hk_ hs_=>by have h1_:=hs_.1;have h2_:=hs_.2;have h3_:=hk_;have z0_:=HN0.out;have z1_:=HN1.out;have z2_:=HN2.out;have z3_:=HN3.out;have z4_:=HN4.out;have z5_:=HN5.out;have z6_:=HN6.out;have z7_:=HN7.out;have z8_:=HN8.out;have z9_:=HN9.out;have z10_:=HN10.out;have z11_:=HN11.out;have z12_:=HN12.out;omega))
 clear HA0
 clear HA1
 clear HX_x1
 clear HX_g0
 clear HX_z0
 have HA0:=n0_
 have HA1:=n1_
 have HX_x1:=n2_
 have HX_g0:=n3_
 have HX_z0:=n4_
 clear n0_ n1_ n2_ n3_ n4_
 clear HX_x0 HB
 have HX_x0:=Aside0.mk ho
 have HB:=Aside0.mk hB
 clear ho hB hk
 have HE_x0:=Aside0.mk (show x0.length=x0_14.length from (Kd.S_reads' HX_x0.out).1)
 go_wp2_with fail
 refine (laws_markItemS.calls k (fun k_=>w6.heap.size≤k_∧k_ < w7.heap.size) _ x1 k0 k1 x1_15 w _ HB.out HX_x1.out A_15.out).mono ?_
 rintro e w15 ⟨rfl,ho,hB,hk⟩
 have HN14:=Aside0.mk hk.1
 have n0_:=Aside0.mk (Kd.F_kept HA0.out hk (fun k_ hk_ hs_=>by have h1_:=hs_.1;have z0_:=HN0.out;have z1_:=HN1.out;have z2_:=HN2.out;have z3_:=HN3.out;have z4_:=HN4.out;have z5_:=HN5.out;have z6_:=HN6.out;have z7_:=HN7.out;have z8_:=HN8.out;have z9_:=HN9.out;have z10_:=HN10.out;have z11_:=HN11.out;have z12_:=HN12.out;have z13_:=HN13.out;omega))
 have n1_:=Aside0.mk (Kd.F_kept HA1.out hk (fun k_ hk_ hs_=>by have h1_:=hs_.1;have z0_:=HN0.out;have z1_:=HN1.out;have z2_:=HN2.out;have z3_:=HN3.out;have z4_:=HN4.out;have z5_:=HN5.out;have z6_:=HN6.out;have z7_:=HN7.out;have z8_:=HN8.out;have z9_:=HN9.out;have z10_:=HN10.out;have z11_:=HN11.out;have z12_:=HN12.out;have z13_:=HN13.out;omega))
 have n2_:=Aside0.mk (Kd.S_kept HX_x0.out hk (fun k_ hk_ hs_=>by have h1_:=hs_.1;have h2_:=hs_.2;have h3_:=hk_.1;have h4_:=hk_.2;have z0_:=HN0.out;have z1_:=HN1.out;have z2_:=HN2.out;have z3_:=HN3.out;have z4_:=HN4.out;have z5_:=HN5.out;have z6_:=HN6.out;have z7_:=HN7.out;have z8_:=HN8.out;have z9_:=HN9.out;have z10_:=HN10.out;have z11_:=HN11.out;have z12_:=HN12.out;have z13_:=HN13.out;omega))
 have n3_:=Aside0.mk (Kd.S_kept HX_g0.out hk (fun k_ hk_ hs_=>by have h1_:=hs_.1;have h2_:=hs_.2;have h3_:=hk_.1;have h4_:=hk_.2;have z0_:=HN0.out;have z1_:=HN1.out;have z2_:=HN2.out;have z3_:=HN3.out;have z4_:=HN4.out;have z5_:=HN5.out;have z6_:=HN6.out;have z7_:=HN7.out;have z8_:=HN8.out;have z9_:=HN9.out;have z10_:=HN10.out;have z11_:=HN11.out;have z12_:=HN12.out;have z13_:=HN13.out;omega))
 have n4_:=Aside0.mk (Kd.F_kept HX_z0.out hk (fun k_ hk_ hs_=>by have h1_:=hs_.1;have h2_:=hs_.2;have h3_:=hk_;have z0_:=HN0.out;have z1_:=HN1.out;have z2_:=HN2.out;have z3_:=HN3.out;have z4_:=HN4.out;have z5_:=HN5.out;have z6_:=HN6.out;have z7_:=HN7.out;have z8_:=HN8.out;have z9_:=HN9.out;have z10_:=HN10.out;have z11_:=HN11.out;have z12_:=HN12.out;have z13_:=HN13.out;omega))
 clear HA0
 clear HA1
 clear HX_x0
 clear HX_g0
 clear HX_z0
 have HA0:=n0_
 have HA1:=n1_
 have HX_x0:=n2_
 have HX_g0:=n3_
 have HX_z0:=n4_
 clear n0_ n1_ n2_ n3_ n4_
 clear HX_x1 HB
 have HX_x1:=Aside0.mk ho
 have HB:=Aside0.mk hB
 clear ho hB hk
 have HE_x1:=Aside0.mk (show x1.length=x1_15.length from (Kd.S_reads' HX_x1.out).1)
 go_wp2_with fail
 refine (laws_eqItemS.calls k _ _ g0 _ _ z0 true _ (Kd.S_reads' HX_g0.out).2.2 (Kd.S_reads' HX_g0.out).2.1 (Kd.F_now HX_z0.out) HP_z0.out A_16.out).mono ?_
 rintro e w16 ⟨rfl,hd⟩
 have hb:Below w15.heap.size w15 w16:=by first|exact hd|exact ex_drawn hd
 have HN15:=Aside0.mk hb.size
 have n0_:=Aside0.mk (Kd.F_below HA0.out hb)
 have n1_:=Aside0.mk (Kd.F_below HA1.out hb)
 have n2_:=Aside0.mk (Kd.S_below HX_x0.out hb)
 have n3_:=Aside0.mk (Kd.S_below HX_x1.out hb)
 have n4_:=Aside0.mk (Kd.S_below HX_g0.out hb)
 have n5_:=Aside0.mk (Kd.F_below HX_z0.out hb)
 clear HA0
 clear HA1
 clear HX_x0
 clear HX_x1
 clear HX_g0
 clear HX_z0
 have HA0:=n0_
 have HA1:=n1_
 have HX_x0:=n2_
 have HX_x1:=n3_
 have HX_g0:=n4_
 have HX_z0:=n5_
 clear n0_ n1_ n2_ n3_ n4_ n5_
 have HB:=Aside0.mk (below_step HB.out hb)
 clear hb hd
 go_wp2_with fail
 refine (laws_markItemS.calls k (fun k_=>w7.heap.size≤k_∧k_ < w8.heap.size) _ g0 1 m g0_19 w _ HB.out HX_g0.out A_17.out).mono ?_
 rintro e w17 ⟨rfl,ho,hB,hk⟩
 have HN16:=Aside0.mk hk.1
 have n0_:=Aside0.mk (Kd.F_kept HA0.out hk (fun k_ hk_ hs_=>by have h1_:=hs_.1;have z0_:=HN0.out;have z1_:=HN1.out;have z2_:=HN2.out;have z3_:=HN3.out;have z4_:=HN4.out;have z5_:=HN5.out;have z6_:=HN6.out;have z7_:=HN7.out;have z8_:=HN8.out;have z9_:=HN9.out;have z10_:=HN10.out;have z11_:=HN11.out;have z12_:=HN12.out;have z13_:=HN13.out;have z14_:=HN14.out;have z15_:=HN15.out;omega))
 have n1_:=Aside0.mk (Kd.F_kept HA1.out hk (fun k_ hk_ hs_=>by have h1_:=hs_.1;have z0_:=HN0.out;have z1_:=HN1.out;have z2_:=HN2.out;have z3_:=HN3.out;have z4_:=HN4.out;have z5_:=HN5.out;have z6_:=HN6.out;have z7_:=HN7.out;have z8_:=HN8.out;have z9_:=HN9.out;have z10_:=HN10.out;have z11_:=HN11.out;have z12_:=HN12.out;have z13_:=HN13.out;have z14_:=HN14.out;have z15_:=HN15.out;omega))
 have n2_:=Aside0.mk (Kd.S_kept HX_x0.out hk (fun k_ hk_ hs_=>by have h1_:=hs_.1;have h2_:=hs_.2;have h3_:=hk_.1;have h4_:=hk_.2;have z0_:=HN0.out;have z1_:=HN1.out;have z2_:=HN2.out;have z3_:=HN3.out;have z4_:=HN4.out;have z5_:=HN5.out;have z6_:=HN6.out;have z7_:=HN7.out;have z8_:=HN8.out;have z9_:=HN9.out;have z10_:=HN10.out;have z11_:=HN11.out;have z12_:=HN12.out;have z13_:=HN13.out;have z14_:=HN14.out;have z15_:=HN15.out;omega))
 have n3_:=Aside0.mk (Kd.S_kept HX_x1.out hk (fun k_ hk_ hs_=>by have h1_:=hs_.1;have h2_:=hs_.2;have h3_:=hk_.1;have h4_:=hk_.2;have z0_:=HN0.out;have z1_:=HN1.out;have z2_:=HN2.out;have z3_:=HN3.out;have z4_:=HN4.out;have z5_:=HN5.out;have z6_:=HN6.out;have z7_:=HN7.out;have z8_:=HN8.out;have z9_:=HN9.out;have z10_:=HN10.out;have z11_:=HN11.out;have z12_:=HN12.out;have z13_:=HN13.out;have z14_:=HN14.out;have z15_:=HN15.out;omega))
 have n4_:=Aside0.mk (Kd.F_kept HX_z0.out hk (fun k_ hk_ hs_=>by have h1_:=hs_.1;have h2_:=hs_.2;have h3_:=hk_;have z0_:=HN0.out;have z1_:=HN1.out;have z2_:=HN2.out;have z3_:=HN3.out;have z4_:=HN4.out;have z5_:=HN5.out;have z6_:=HN6.out;have z7_:=HN7.out;have z8_:=HN8.out;have z9_:=HN9.out;have z10_:=HN10.out;have z11_:=HN11.out;have z12_:=HN12.out;have z13_:=HN13.out;have z14_:=HN14.out;have z15_:=HN15.out;omega))
 clear HA0
 clear HA1
 clear HX_x0
 clear HX_x1
 clear HX_z0
 have HA0:=n0_
 have HA1:=n1_
 have HX_x0:=n2_
 have HX_x1:=n3_
 have HX_z0:=n4_
 clear n0_ n1_ n2_ n3_ n4_
 clear HX_g0 HB
 have HX_g0:=Aside0.mk ho
 have HB:=Aside0.mk hB
 clear ho hB hk
 have HE_g0:=Aside0.mk (show g0.length=g0_19.length from (Kd.S_reads' HX_g0.out).1)
 go_wp2_with fail
 refine calls_of_args (args':=#[.slice a_g0 g0_19.length c_g0,.int .i64 1]) (by rw [HE_g0.out]) ?_
 refine (laws_heldItemS.calls k _ _ g0_19 1 q0 _ (Kd.S_reads' HX_g0.out).2.2 (by have h_:=(Kd.S_reads' HX_g0.out).2.1;have e_:=HE_g0.out;omega) A_18.out).mono ?_
 rintro e w18 ⟨rfl,hd⟩
 have hb:Below w17.heap.size w17 w18:=by first|exact hd|exact ex_drawn hd
 have HN17:=Aside0.mk hb.size
 have n0_:=Aside0.mk (Kd.F_below HA0.out hb)
 have n1_:=Aside0.mk (Kd.F_below HA1.out hb)
 have n2_:=Aside0.mk (Kd.S_below HX_x0.out hb)
 have n3_:=Aside0.mk (Kd.S_below HX_x1.out hb)
 have n4_:=Aside0.mk (Kd.S_below HX_g0.out hb)
 have n5_:=Aside0.mk (Kd.F_below HX_z0.out hb)
 clear HA0
 clear HA1
 clear HX_x0
 clear HX_x1
 clear HX_g0
 clear HX_z0
 have HA0:=n0_
 have HA1:=n1_
 have HX_x0:=n2_
 have HX_x1:=n3_
 have HX_g0:=n4_
 have HX_z0:=n5_
 clear n0_ n1_ n2_ n3_ n4_ n5_
 have HB:=Aside0.mk (below_step HB.out hb)
 clear hb hd
 go_wp2_with fail
 refine (laws_toItemS.calls k _ _ l0 h0 _ (Kd.F_now HA0.out) HC0.out A_19.out).mono ?_
 rintro e w19 ⟨v_h0,rfl,ho,hb⟩
 obtain ⟨a_h0,c_h0,rfl⟩:=Kd.S_slice ho
 have HN18:=Aside0.mk hb.size
 have n0_:=Aside0.mk (Kd.F_below HA0.out hb)
 have n1_:=Aside0.mk (Kd.F_below HA1.out hb)
 have n2_:=Aside0.mk (Kd.S_below HX_x0.out hb)
 have n3_:=Aside0.mk (Kd.S_below HX_x1.out hb)
 have n4_:=Aside0.mk (Kd.S_below HX_g0.out hb)
 have n5_:=Aside0.mk (Kd.F_below HX_z0.out hb)
 clear HA0
 clear HA1
 clear HX_x0
 clear HX_x1
 clear HX_g0
 clear HX_z0
 have HA0:=n0_
 have HA1:=n1_
 have HX_x0:=n2_
 have HX_x1:=n3_
 have HX_g0:=n4_
 have HX_z0:=n5_
 clear n0_ n1_ n2_ n3_ n4_ n5_
 have HX_h0:=Aside0.mk (ex_read (Kd.S_reads' ho).2.2)
 have HP_h0:=Aside0.mk (Kd.S_reads' ho).2.1
 have HB:=Aside0.mk (below_step HB.out hb)
 clear ho hb
 go_wp2_with fail
 refine (laws_toItemS.calls k _ _ l1 h1 _ (Kd.F_now HA1.out) HC1.out A_20.out).mono ?_
 rintro e w20 ⟨v_h1,rfl,ho,hb⟩
 obtain ⟨a_h1,c_h1,rfl⟩:=Kd.S_slice ho
 have HN19:=Aside0.mk hb.size
 have n0_:=Aside0.mk (Kd.F_below HA0.out hb)
 have n1_:=Aside0.mk (Kd.F_below HA1.out hb)
 have n2_:=Aside0.mk (Kd.S_below HX_x0.out hb)
 have n3_:=Aside0.mk (Kd.S_below HX_x1.out hb)
 have n4_:=Aside0.mk (Kd.S_below HX_g0.out hb)
 have n5_:=Aside0.mk (Kd.F_below HX_z0.out hb)
 have n6_:=Aside0.mk (Kd.F_below HX_h0.out hb)
 clear HA0
 clear HA1
 clear HX_x0
 clear HX_x1
 clear HX_g0
 clear HX_z0
 clear HX_h0
 have HA0:=n0_
 have HA1:=n1_
 have HX_x0:=n2_
 have HX_x1:=n3_
 have HX_g0:=n4_
 have HX_z0:=n5_
 have HX_h0:=n6_
 clear n0_ n1_ n2_ n3_ n4_ n5_ n6_
 have HX_h1:=Aside0.mk (ex_read (Kd.S_reads' ho).2.2)
 have HP_h1:=Aside0.mk (Kd.S_reads' ho).2.1
 have HB:=Aside0.mk (below_step HB.out hb)
 clear ho hb
 go_wp2_with fail
 refine (impl_JoinOf.calls k _ _ h0 _ _ h1 a2 a3 y0 _ _ (Kd.F_now HX_h0.out) HP_h0.out (Kd.F_now HX_h1.out) HP_h1.out A_21.out (tab_on HT0.out HB.out)).mono ?_
 rintro e w21 ⟨v_y0,rfl,ho,hb⟩
 obtain ⟨a_y0,c_y0,rfl⟩:=Kd.S_slice ho
 have HN20:=Aside0.mk hb.size
 have n0_:=Aside0.mk (Kd.F_below HA0.out hb)
 have n1_:=Aside0.mk (Kd.F_below HA1.out hb)
 have n2_:=Aside0.mk (Kd.S_below HX_x0.out hb)
 have n3_:=Aside0.mk (Kd.S_below HX_x1.out hb)
 have n4_:=Aside0.mk (Kd.S_below HX_g0.out hb)
 have n5_:=Aside0.mk (Kd.F_below HX_z0.out hb)
 have n6_:=Aside0.mk (Kd.F_below HX_h0.out hb)
 have n7_:=Aside0.mk (Kd.F_below HX_h1.out hb)
 clear HA0
 clear HA1
 clear HX_x0
 clear HX_x1
 clear HX_g0
 clear HX_z0
 clear HX_h0
 clear HX_h1
 have HA0:=n0_
 have HA1:=n1_
 have HX_x0:=n2_
 have HX_x1:=n3_
 have HX_g0:=n4_
 have HX_z0:=n5_
 have HX_h0:=n6_
 have HX_h1:=n7_
 clear n0_ n1_ n2_ n3_ n4_ n5_ n6_ n7_
 have HX_y0:=Aside0.mk (ex_read (Kd.S_reads' ho).2.2)
 have HP_y0:=Aside0.mk (Kd.S_reads' ho).2.1
 have HB:=Aside0.mk (below_step HB.out hb)
 clear ho hb
 clear HX_h0 HP_h0
 clear HX_h1 HP_h1
 go_wp2_with fail
 refine (laws_eqItemS.calls k _ _ y0 _ _ z0 true _ (Kd.F_now HX_y0.out) HP_y0.out (Kd.F_now HX_z0.out) HP_z0.out A_22.out).mono ?_
 rintro e w22 ⟨rfl,hd⟩
 have hb:Below w21.heap.size w21 w22:=by first|exact hd|exact ex_drawn hd
 have HN21:=Aside0.mk hb.size
 have n0_:=Aside0.mk (Kd.F_below HA0.out hb)
 have n1_:=Aside0.mk (Kd.F_below HA1.out hb)
 have n2_:=Aside0.mk (Kd.S_below HX_x0.out hb)
 have n3_:=Aside0.mk (Kd.S_below HX_x1.out hb)
 have n4_:=Aside0.mk (Kd.S_below HX_g0.out hb)
 have n5_:=Aside0.mk (Kd.F_below HX_z0.out hb)
 have n6_:=Aside0.mk (Kd.F_below HX_y0.out hb)
 clear HA0
 clear HA1
 clear HX_x0
 clear HX_x1
 clear HX_g0
 clear HX_z0
 clear HX_y0
 have HA0:=n0_
 have HA1:=n1_
 have HX_x0:=n2_
 have HX_x1:=n3_
 have HX_g0:=n4_
 have HX_z0:=n5_
 have HX_y0:=n6_
 clear n0_ n1_ n2_ n3_ n4_ n5_ n6_
 have HB:=Aside0.mk (below_step HB.out hb)
 clear hb hd
 go_wp2_with fail
 refine calls_of_args (args':=#[.slice a_g0 g0_19.length c_g0,.int .i64 1]) (by rw [HE_g0.out]) ?_
 refine (laws_heldItemS.calls k _ _ g0_19 1 q1 _ (Kd.S_reads' HX_g0.out).2.2 (by have h_:=(Kd.S_reads' HX_g0.out).2.1;have e_:=HE_g0.out;omega) A_23.out).mono ?_
 rintro e w23 ⟨rfl,hd⟩
 have hb:Below w22.heap.size w22 w23:=by first|exact hd|exact ex_drawn hd
 have HN22:=Aside0.mk hb.size
 have n0_:=Aside0.mk (Kd.F_below HA0.out hb)
 have n1_:=Aside0.mk (Kd.F_below HA1.out hb)
 have n2_:=Aside0.mk (Kd.S_below HX_x0.out hb)
 have n3_:=Aside0.mk (Kd.S_below HX_x1.out hb)
 have n4_:=Aside0.mk (Kd.S_below HX_g0.out hb)
 have n5_:=Aside0.mk (Kd.F_below HX_z0.out hb)
 have n6_:=Aside0.mk (Kd.F_below HX_y0.out hb)
 clear HA0
 clear HA1
 clear HX_x0
 clear HX_x1
 clear HX_g0
 clear HX_z0
 clear HX_y0
 have HA0:=n0_
 have HA1:=n1_
 have HX_x0:=n2_
 have HX_x1:=n3_
 have HX_g0:=n4_
 have HX_z0:=n5_
 have HX_y0:=n6_
 clear n0_ n1_ n2_ n3_ n4_ n5_ n6_
 have HB:=Aside0.mk (below_step HB.out hb)
 clear hb hd
 go_wp2
 go_ret
 exact ⟨rfl,HB.out⟩

/-- THE ONE PURE STATEMENT of laws_FnExactJoinOf: yours. -/
def laws_FnExactJoinOf.Pure:Prop:=∀ (l0:List (S59)) (l1:List (S59)) (a2:Int) (a3:Int),(l0.length≤maxLen∧∀ y0 ∈ l0,(((y0.f0.length≤maxLen∧∀ y1 ∈ y0.f0,(Lit.int .i64 y1).wf=true))∧((Lit.int .i64 y0.f1).wf=true)))→(l1.length≤maxLen∧∀ y0 ∈ l1,(((y0.f0.length≤maxLen∧∀ y1 ∈ y0.f0,(Lit.int .i64 y1).wf=true))∧((Lit.int .i64 y0.f1).wf=true)))→(Lit.int .i64 a2).wf=true→(Lit.int .i64 a3).wf=true→∃ k,laws_FnExactJoinOf.f k l0 l1 a2 a3=some true
theorem laws_FnExactJoinOf.walk (P : laws_FnExactJoinOf.Pure) (A0 : Option Addr) (c0 : Nat) (l0 : List (S59)) (A1 : Option Addr) (c1 : Nat) (l1 : List (S59)) (a2 : Int) (a3 : Int) (w : World) (hr0 : Kd.C k59 w A0 l0.length l0) (hc0 : l0.length ≤ c0) (hr1 : Kd.C k59 w A1 l1.length l1) (hc1 : l1.length ≤ c1) (ok0 : (l0.length ≤ maxLen ∧ ∀ y0 ∈ l0, (((y0.f0.length ≤ maxLen ∧ ∀ y1 ∈ y0.f0, (Lit.int .i64 y1).wf = true)) ∧ ((Lit.int .i64 y0.f1).wf = true)))) (ok1 : (l1.length ≤ maxLen ∧ ∀ y0 ∈ l1, (((y0.f0.length ≤ maxLen ∧ ∀ y1 ∈ y0.f0, (Lit.int .i64 y1).wf = true)) ∧ ((Lit.int .i64 y0.f1).wf = true)))) (ok2 : (Lit.int .i64 a2).wf = true) (ok3 : (Lit.int .i64 a3).wf = true) (hT : Lib.TabIs Tryd.prog w "internal/strconv.uint64pow10" .u64 Lib.pow10Tab) :
  Calls Tryd.prog 5 #[.slice A0 l0.length c0,.slice A1 l1.length c1,.int .i64 a2,.int .i64 a3] w fun e w'=>e=.returned (.bool true)∧Below w.heap.size w w':=by
 obtain ⟨k,h⟩:=P l0 l1 a2 a3 ok0 ok1 ok2 ok3
 refine (laws_FnExactJoinOf.calls k A0 c0 l0 A1 c1 l1 a2 a3 true w hr0 hc0 hr1 hc1 h rfl hT).mono ?_
 rintro e w' ⟨rfl,hd⟩
 exact ⟨rfl,hd⟩

end Go.Proofs.YtlknceioincaeaaDoor.PFnExactJoinOf
