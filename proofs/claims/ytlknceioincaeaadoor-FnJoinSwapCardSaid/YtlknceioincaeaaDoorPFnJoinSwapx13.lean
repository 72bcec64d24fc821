-- Written by wip/tools/pp.py, a program of this session over the kit's printer: not the kit's own print
import Derived.Test.YtlknceioincaeaaDoorPFnJoinSwapx0
import Derived.Test.YtlknceioincaeaaDoorPFnJoinSwapx3
import Derived.Test.YtlknceioincaeaaDoorPFnJoinSwapx7
import Derived.Test.YtlknceioincaeaaDoorPFnJoinSwapx12
namespace Go.Proofs.YtlknceioincaeaaDoor.PFnJoinSwap
open Go.RowKit Go.Proofs.YtlknceioincaeaaDoorW.PrintWords Go.Proofs.YtlknceioincaeaaDoorW.PrintLast Go.Proofs.YtlknceioincaeaaDoorW.PrintMore
attribute [local go_sem] max2_int min2_int max_two min_two max_three min_three max_four min_four   -- for this text's walks alone
set_option linter.unusedVariables false
set_option linter.unusedSimpArgs false

/-! ### laws_FnJoinSwap: function 4 -/
def laws_FnJoinSwap.l0:Nat→List (S31)→List (S31)→Int→Int→List (S31)→List (S31)→Int→Int→Int→Option (Bool)
 | 0,_,_,_,_,_,_,_,_,_=>none
 | k + 1,x3,x4,x5,x6,x7,x11,x15,x16,x17=>if x17 < (x7.length:Int) then (if 0≤x17 then (if x17 < (x11.length:Int) then (laws_FnJoinSwap.l0 k x3 x4 x5 x6 x7 x11 (wrap64 (x15 + ((rd_T31 x7 x17).f1))) (wrap64 (x16 + ((rd_T31 x11 x17).f1))) (wrap64 (x17 + 1))) else (none)) else (none)) else ((impl_ZNeg.f k x3).bind fun t366=>((impl_JoinOf.f k t366 x4 x5 x6).bind fun bt369=>(if x15=x16 then (if bt369.2=true then ((impl_ZNeg.f k x7).bind fun t373=>((impl_ZSame.f k bt369.1 t373).bind fun t376=>(some t376))) else (some false)) else (some false))))
def laws_FnJoinSwap.f (k:Nat) (l0:List Int):Option (Bool):=if (l0.length:Int) > 1048576 then (some true) else ((spec_DrawJoinOf.f k l0).bind fun bt338=>((impl_JoinOf.f k bt338.1 bt338.2.1 bt338.2.2.1 bt338.2.2.2).bind fun bt346=>((spec_JoinOf.f k bt338.1 bt338.2.1 bt338.2.2.1 bt338.2.2.2).bind fun bt350=>(if (bt346.2 != bt350.2)=true then (if (bt346.2 == bt350.2)=true then ((impl_ZSame.f k bt346.1 bt350.1).bind fun t354=>(some t354)) else (some false)) else ((impl_ZSame.f k bt346.1 bt350.1).bind fun t355=>(if t355=true then (if bt346.2=true then ((impl_JoinOf.f k bt338.2.1 bt338.1 bt338.2.2.2 bt338.2.2.1).bind fun bt356=>((impl_JoinOf.f k bt338.1 ([]:List (S31)) bt338.2.2.1 bt338.2.2.2).bind fun bt360=>(if bt356.2=true then (if (bt356.1.length:Int)=(bt346.1.length:Int) then (if bt360.2=true then (if (bt360.1.length:Int) > 0 then (some false) else (laws_FnJoinSwap.l0 k bt338.1 bt338.2.1 bt338.2.2.1 bt338.2.2.2 bt346.1 bt356.1 0 0 0)) else (some false)) else (some false)) else (some false)))) else (if (bt346.2 == bt350.2)=true then ((impl_ZSame.f k bt346.1 bt350.1).bind fun t377=>(some t377)) else (some false))) else (if (bt346.2 == bt350.2)=true then ((impl_ZSame.f k bt346.1 bt350.1).bind fun t378=>(some t378)) else (some false))))))))
theorem laws_FnJoinSwap.mono_l : ∀ k,(∀ y0 y1 y2 y3 y4 y5 y6 y7 y8,LeO (laws_FnJoinSwap.l0 k y0 y1 y2 y3 y4 y5 y6 y7 y8) (laws_FnJoinSwap.l0 (k + 1) y0 y1 y2 y3 y4 y5 y6 y7 y8))
 | 0=>fun _ _ _ _ _ _ _ _ _ r h=>by simp [laws_FnJoinSwap.l0] at h
 | k + 1=>by
  have ih0:=laws_FnJoinSwap.mono_l k
  ·intro y0 y1 y2 y3 y4 y5 y6 y7 y8
   unfold laws_FnJoinSwap.l0
   repeat' first
   | (with_reducible exact ih0 _ _ _ _ _ _ _ _ _)
   | (with_reducible exact impl_JoinOf.mono _ _ _ _ _)
   | (with_reducible exact impl_ZNeg.mono _ _)
   | (with_reducible exact impl_ZSame.mono _ _ _)
   | (with_reducible exact spec_DrawJoinOf.mono _ _)
   | (with_reducible exact spec_JoinOf.mono _ _ _ _ _)
   | (with_reducible exact LeO.refl _)
   | (with_reducible exact LeO.none _)
   | (with_reducible refine LeO.ite ?_ ?_)
   | (with_reducible refine LeO.bind ?_ (fun _=>?_))
   | exact LeO.none _
   | refine LeO.ite ?_ ?_
   | refine LeO.bind ?_ (fun _=>?_)
theorem laws_FnJoinSwap.mono : ∀ a0 k,LeO (laws_FnJoinSwap.f k a0) (laws_FnJoinSwap.f (k + 1) a0):=by
 intro a0 k
 have ih0:=laws_FnJoinSwap.mono_l k
 unfold laws_FnJoinSwap.f
 repeat' first
   | (with_reducible exact ih0 _ _ _ _ _ _ _ _ _)
   | (with_reducible exact impl_JoinOf.mono _ _ _ _ _)
   | (with_reducible exact impl_ZNeg.mono _ _)
   | (with_reducible exact impl_ZSame.mono _ _ _)
   | (with_reducible exact spec_DrawJoinOf.mono _ _)
   | (with_reducible exact spec_JoinOf.mono _ _ _ _ _)
   | (with_reducible exact LeO.refl _)
   | (with_reducible exact LeO.none _)
   | (with_reducible refine LeO.ite ?_ ?_)
   | (with_reducible refine LeO.bind ?_ (fun _=>?_))
   | exact LeO.none _
   | refine LeO.ite ?_ ?_
   | refine LeO.bind ?_ (fun _=>?_)
set_option maxHeartbeats 8000000 in
set_option maxRecDepth 100000 in
theorem laws_FnJoinSwap.calls (k : Nat) (A0 : Option Addr) (c0 : Nat) (l0 : List Int) (r : Bool) (w : World) (hr0 : Kd.C (Kd.int .u8) w A0 l0.length l0) (hc0 : l0.length ≤ c0) (h : laws_FnJoinSwap.f k l0 = some r) (hr_ : r = true) (hT : Lib.TabIs Tryd.prog w "internal/strconv.uint64pow10" .u64 Lib.pow10Tab := by first | exact TxtW.tab (TxtW.on HT0.out zhb) | exact tab_on HT0.out zhb) :
  Calls Tryd.prog 4 #[.slice A0 l0.length c0] w fun e w'=>e=.returned (.bool r)∧Below w.heap.size w w':=by
 have HT0:=Aside0.mk hT
 clear hT
 have HR_:=Aside0.mk hr_
 clear hr_
 have HR0:=Aside0.mk hr0
 have HC0:=Aside0.mk hc0
 clear hr0 hc0
 have HB:=Aside0.mk (Below.refl w.heap.size w)
 have H:(if (l0.length:Int) > 1048576 then (some true) else ((spec_DrawJoinOf.f k l0).bind fun bt338=>((impl_JoinOf.f k bt338.1 bt338.2.1 bt338.2.2.1 bt338.2.2.2).bind fun bt346=>((spec_JoinOf.f k bt338.1 bt338.2.1 bt338.2.2.1 bt338.2.2.2).bind fun bt350=>(if (bt346.2 != bt350.2)=true then (if (bt346.2 == bt350.2)=true then ((impl_ZSame.f k bt346.1 bt350.1).bind fun t354=>(some t354)) else (some false)) else ((impl_ZSame.f k bt346.1 bt350.1).bind fun t355=>(if t355=true then (if bt346.2=true then ((impl_JoinOf.f k bt338.2.1 bt338.1 bt338.2.2.2 bt338.2.2.1).bind fun bt356=>((impl_JoinOf.f k bt338.1 ([]:List (S31)) bt338.2.2.1 bt338.2.2.2).bind fun bt360=>(if bt356.2=true then (if (bt356.1.length:Int)=(bt346.1.length:Int) then (if bt360.2=true then (if (bt360.1.length:Int) > 0 then (some false) else (laws_FnJoinSwap.l0 k bt338.1 bt338.2.1 bt338.2.2.1 bt338.2.2.2 bt346.1 bt356.1 0 0 0)) else (some false)) else (some false)) else (some false)))) else (if (bt346.2 == bt350.2)=true then ((impl_ZSame.f k bt346.1 bt350.1).bind fun t377=>(some t377)) else (some false))) else (if (bt346.2 == bt350.2)=true then ((impl_ZSame.f k bt346.1 bt350.1).bind fun t378=>(some t378)) else (some false)))))))))=some r:=h
 clear h
 by_cases c2:(l0.length:Int) > 1048576
 ·rw [if_pos c2] at H
  have c2b0:decide (1048576 < (l0.length:Int))=true:=decide_eq_true c2
  have c2b1:decide (1048576 < l0.length)=true:=decide_eq_true (by omega)
  clear c2
  obtain rfl:=Option.some.inj H
  go_enter Tryd.func4,Tryd.ntmps4
  go_wp2
  go_ret
  exact ⟨by first|rfl|(rw [HR_.out];first|done|rfl)|(simp [errW_none,errW_some] <;> rfl)|(simp [*,errW_none,errW_some] <;> rfl),zhb⟩
 ·rw [if_neg c2] at H
  have c2b0:decide (1048576 < (l0.length:Int))=false:=decide_eq_false c2
  have c2b1:decide (1048576 < l0.length)=false:=decide_eq_false (by omega)
  clear c2
  replace H:=Option.bind_eq_some_iff.mp H
  obtain ⟨⟨t338,t341,t344,t345⟩,A30,H⟩:=H
  (try dsimp only at H)
  have A3:=Aside0.mk A30
  clear A30
  replace H:=Option.bind_eq_some_iff.mp H
  obtain ⟨⟨t346,t347⟩,A40,H⟩:=H
  (try dsimp only at H)
  have A4:=Aside0.mk A40
  clear A40
  replace H:=Option.bind_eq_some_iff.mp H
  obtain ⟨⟨t350,t353⟩,A50,H⟩:=H
  (try dsimp only at H)
  have A5:=Aside0.mk A50
  clear A50
  by_cases c6:(t347 != t353)=true
  ·rw [if_pos c6] at H
   have c6b0:(t347 != t353)=true:=c6
   (try (have c6b1:decide (t347=t353)=false:=by simpa using c6))
   (try (have c6b2:(t347 == t353)=false:=by simpa using c6))
   (try (have c6b3 : ¬ (t347=t353):=by simpa using c6))
   clear c6
   by_cases c7:(t347 == t353)=true
   ·rw [if_pos c7] at H
    have c7b0:(t347 == t353)=true:=c7
    (try (have c7b1:decide (t347=t353)=true:=by simpa using c7))
    (try (have c7b2:(t347 == t353)=true:=by simpa using c7))
    clear c7
    exact absurd c7b0 (by have h_:=c6b0;simp at h_ ⊢;exact h_)
   ·rw [if_neg c7] at H
    have c7b0:(t347 == t353)=false:=by simpa using c7
    (try (have c7b1:decide (t347=t353)=false:=by simpa using c7))
    (try (have c7b2:(t347 == t353)=false:=by simpa using c7))
    (try (have c7b3 : ¬ (t347=t353):=by simpa using c7))
    clear c7
    exact absurd ((Option.some.inj H).trans HR_.out) (by decide)
  ·rw [if_neg c6] at H
   have c6b0:(t347 != t353)=false:=by simpa using c6
   (try (have c6b1:decide (t347=t353)=true:=by simpa using c6))
   (try (have c6b2:(t347 == t353)=true:=by simpa using c6))
   clear c6
   replace H:=Option.bind_eq_some_iff.mp H
   obtain ⟨t355,A80,H⟩:=H
   (try dsimp only at H)
   have A8:=Aside0.mk A80
   clear A80
   by_cases c9:t355=true
   ·subst c9
    have H1:(if t347=true then ((impl_JoinOf.f k t341 t338 t345 t344).bind fun bt356=>((impl_JoinOf.f k t338 ([]:List (S31)) t344 t345).bind fun bt360=>(if bt356.2=true then (if (bt356.1.length:Int)=(t346.length:Int) then (if bt360.2=true then (if (bt360.1.length:Int) > 0 then (some false) else (laws_FnJoinSwap.l0 k t338 t341 t344 t345 t346 bt356.1 0 0 0)) else (some false)) else (some false)) else (some false)))) else (if (t347 == t353)=true then ((impl_ZSame.f k t346 t350).bind fun t377=>(some t377)) else (some false)))=some r:=by rw [if_pos rfl] at H;exact H
    clear H
    have H:=H1
    clear H1
    by_cases c10:t347=true
    ·subst c10
     have H1:((impl_JoinOf.f k t341 t338 t345 t344).bind fun bt356=>((impl_JoinOf.f k t338 ([]:List (S31)) t344 t345).bind fun bt360=>(if bt356.2=true then (if (bt356.1.length:Int)=(t346.length:Int) then (if bt360.2=true then (if (bt360.1.length:Int) > 0 then (some false) else (laws_FnJoinSwap.l0 k t338 t341 t344 t345 t346 bt356.1 0 0 0)) else (some false)) else (some false)) else (some false))))=some r:=by rw [if_pos rfl] at H;exact H
     clear H
     have H:=H1
     clear H1
     replace H:=Option.bind_eq_some_iff.mp H
     obtain ⟨⟨t356,t357⟩,A110,H⟩:=H
     (try dsimp only at H)
     have A11:=Aside0.mk A110
     clear A110
     replace H:=Option.bind_eq_some_iff.mp H
     obtain ⟨⟨t360,t361⟩,A120,H⟩:=H
     (try dsimp only at H)
     have A12:=Aside0.mk A120
     clear A120
     by_cases c13:t357=true
     ·subst c13
      have H1:(if (t356.length:Int)=(t346.length:Int) then (if t361=true then (if (t360.length:Int) > 0 then (some false) else (laws_FnJoinSwap.l0 k t338 t341 t344 t345 t346 t356 0 0 0)) else (some false)) else (some false))=some r:=by rw [if_pos rfl] at H;exact H
      clear H
      have H:=H1
      clear H1
      by_cases c14:(t356.length:Int)=(t346.length:Int)
      ·rw [if_pos c14] at H
       have c14b0:((t356.length:Int) == (t346.length:Int))=true:=beq_iff_eq.mpr c14
       have c14b1:((t356.length:Int) != (t346.length:Int))=false:=bne_eq_false_iff_eq.mpr c14
       have c14b2:(t356.length == t346.length)=true:=by first|simpa using c14|(simp at c14 ⊢;omega)
       clear c14
       by_cases c15:t361=true
       ·subst c15
        have H1:(if (t360.length:Int) > 0 then (some false) else (laws_FnJoinSwap.l0 k t338 t341 t344 t345 t346 t356 0 0 0))=some r:=by rw [if_pos rfl] at H;exact H
        clear H
        have H:=H1
        clear H1
        by_cases c16:(t360.length:Int) > 0
        ·rw [if_pos c16] at H
         have c16b0:decide (0 < (t360.length:Int))=true:=decide_eq_true c16
         have c16b1:decide (0 < t360.length)=true:=decide_eq_true (by omega)
         clear c16
         exact absurd ((Option.some.inj H).trans HR_.out) (by decide)
        ·rw [if_neg c16] at H
         have c16b0:decide (0 < (t360.length:Int))=false:=decide_eq_false c16
         have c16b1:decide (0 < t360.length)=false:=decide_eq_false (by omega)
         clear c16
         have H':=Aside0.mk H
         clear H
         go_enter Tryd.func4,Tryd.ntmps4
         go_wp2_with (first|((with_reducible refine gate_callee (f:=7) rfl ?_);refine goesL_ (some 25) rfl rfl Tryd.func7 (by kernel_rfl) rfl #[.slice A0 l0.length c0] rfl zar ?_;(with_reducible refine (spec_DrawJoinOf.calls k _ _ l0 t338 t341 t344 t345 _ ?side1 ?side2 A3.out).mono ?_);(case side1=>exact zC HR0.out);(case side2=>exact HC0.out);rintro e w17 ⟨v339,v342,rfl,ho0,ho1,hb⟩;refine ⟨_,rfl,?_⟩;have n0_:=Aside0.mk (Kd.N_lower (Kd.N_mono (ok':=fun k_=>some k_≠(v342:Value).ownBlock) ho0 (fun k_ hk_=>hk_.2)) (below_size zhb));have n1_:=Aside0.mk (Kd.N_lower (Kd.N_mono (ok':=fun k_=>some k_≠(v339:Value).ownBlock) ho1 (fun k_ hk_=>hk_.2)) (below_size zhb));have n2_:=Aside0.mk (below_step zhb hb);clear HB;have HO340:=n0_;have HO343:=n1_;have HB:=n2_;clear n0_ n1_ n2_;(try clear hb);(try clear hb2);(try clear hk);(try clear hi);(try clear ho0);(try clear ho1);obtain ⟨Ao18,co18,eo18⟩:=Kd.N_slice HO340.out;subst eo18;obtain ⟨Ao19,co19,eo19⟩:=Kd.N_slice HO343.out;subst eo19)|((with_reducible refine gate_callee (f:=8) rfl ?_);refine goesL_ (some 35) rfl rfl Tryd.func8 (by kernel_rfl) rfl #[.slice Ao18 t338.length co18,.slice Ao19 t341.length co19,.int .i64 t344,.int .i64 t345] rfl zar ?_;(with_reducible refine (impl_JoinOf.calls k _ _ t338 _ _ t341 t344 t345 t346 true _ ?side1 ?side2 ?side3 ?side4 A4.out).mono ?_);(case side1=>exact zC (Kd.N_reads' HO340.out).2.2);(case side2=>exact (Kd.N_reads' HO340.out).2.1);(case side3=>exact zC (Kd.N_reads' HO343.out).2.2);(case side4=>exact (Kd.N_reads' HO343.out).2.1);rintro e w20 ⟨v348,rfl,ho0,hb⟩;refine ⟨_,rfl,?_⟩;have n0_:=Aside0.mk (Kd.N_elder' (zN HO340.out) (Kd.S_base ho0) hb);have n1_:=Aside0.mk (Kd.N_elder' (zN HO343.out) (Kd.S_base ho0) hb);have n2_:=Aside0.mk (Kd.N_lower (Kd.N_mono (ok':=fun k_=>some k_≠(.slice Ao18 t338.length co18:Value).ownBlock∧some k_≠(.slice Ao19 t341.length co19:Value).ownBlock) (Kd.S_N (Kd.S_bound ho0)) (fun k_ hk_=>⟨(Kd.fresh' (Kd.N_lt (zN HO340.out)) k_ hk_.2.1),(Kd.fresh' (Kd.N_lt (zN HO343.out)) k_ hk_.2.1)⟩)) (below_size zhb));have n3_:=Aside0.mk (below_step zhb hb);clear HO340;clear HO343;clear HB;have HO340:=n0_;have HO343:=n1_;have HO349:=n2_;have HB:=n3_;clear n0_ n1_ n2_ n3_;(try clear hb);(try clear hb2);(try clear hk);(try clear hi);(try clear ho0))|((with_reducible refine gate_callee (f:=9) rfl ?_);refine goesL_ (some 43) rfl rfl Tryd.func9 (by kernel_rfl) rfl #[.slice Ao18 t338.length co18,.slice Ao19 t341.length co19,.int .i64 t344,.int .i64 t345] rfl zar ?_;(with_reducible refine (spec_JoinOf.calls k _ _ t338 _ _ t341 t344 t345 t350 t353 _ ?side1 ?side2 ?side3 ?side4 A5.out).mono ?_);(case side1=>exact zC (Kd.N_reads' HO340.out).2.2);(case side2=>exact (Kd.N_reads' HO340.out).2.1);(case side3=>exact zC (Kd.N_reads' HO343.out).2.2);(case side4=>exact (Kd.N_reads' HO343.out).2.1);rintro e w21 ⟨v351,rfl,ho0,hb⟩;refine ⟨_,rfl,?_⟩;have n0_:=Aside0.mk (Kd.N_below (zN HO340.out) hb);have n1_:=Aside0.mk (Kd.N_below (zN HO343.out) hb);have n2_:=Aside0.mk (Kd.N_below (zN HO349.out) hb);have n3_:=Aside0.mk (Kd.V_lower (Kd.V_mono (ok':=fun k_=>some k_≠(.slice Ao18 t338.length co18:Value).ownBlock∧some k_≠(.slice Ao19 t341.length co19:Value).ownBlock∧some k_≠(v348:Value).ownBlock) ho0 (fun k_ hk_=>⟨(Kd.fresh' (Kd.N_lt (zN HO340.out)) k_ hk_),(Kd.fresh' (Kd.N_lt (zN HO343.out)) k_ hk_),(Kd.fresh' (Kd.N_lt (zN HO349.out)) k_ hk_)⟩)) (below_size zhb));have n4_:=Aside0.mk (below_step zhb hb);clear HO340;clear HO343;clear HO349;clear HB;have HO340:=n0_;have HO343:=n1_;have HO349:=n2_;have HO352:=n3_;have HB:=n4_;clear n0_ n1_ n2_ n3_ n4_;(try clear hb);(try clear hb2);(try clear hk);(try clear hi);(try clear ho0);obtain ⟨Ao22,co22,eo22⟩:=Kd.N_slice HO349.out;subst eo22;obtain ⟨Ao23,co23,eo23⟩:=Kd.V_slice HO352.out;subst eo23)|(go_at_call 10;(with_reducible refine (impl_ZSame.calls k _ _ t346 _ _ t350 true _ ?side1 ?side2 ?side3 ?side4 A8.out).mono ?_);(case side1=>exact zC (Kd.N_reads' HO349.out).2.2);(case side2=>exact (Kd.N_reads' HO349.out).2.1);(case side3=>repeat (first|exact (Kd.V_reads' HO352.out).2.2|(with_reducible refine Kd.C_alloc ?_ _)|(with_reducible refine Kd.C_drewN ?_ _)|(with_reducible refine Kd.C_drew ?_)));(case side4=>exact (Kd.V_reads' HO352.out).2.1);rintro e w24 ⟨rfl,hb⟩;have n0_:=Aside0.mk (Kd.N_below (zN HO340.out) hb);have n1_:=Aside0.mk (Kd.N_below (zN HO343.out) hb);have n2_:=Aside0.mk (Kd.N_below (zN HO349.out) hb);have n3_:=Aside0.mk (Kd.V_below (zV HO352.out) hb);have n4_:=Aside0.mk (below_step zhb hb);clear HO340;clear HO343;clear HO349;clear HO352;clear HB;have HO340:=n0_;have HO343:=n1_;have HO349:=n2_;have HO352:=n3_;have HB:=n4_;clear n0_ n1_ n2_ n3_ n4_;(try clear hb);(try clear hb2);(try clear hk);(try clear hi))|((with_reducible refine gate_callee (f:=8) rfl ?_);refine goesL_ (some 72) rfl rfl Tryd.func8 (by kernel_rfl) rfl #[.slice Ao19 t341.length co19,.slice Ao18 t338.length co18,.int .i64 t345,.int .i64 t344] rfl zar ?_;(with_reducible refine (impl_JoinOf.calls k _ _ t341 _ _ t338 t345 t344 t356 true _ ?side1 ?side2 ?side3 ?side4 A11.out).mono ?_);(case side1=>exact zC (Kd.N_reads' HO343.out).2.2);(case side2=>exact (Kd.N_reads' HO343.out).2.1);(case side3=>exact zC (Kd.N_reads' HO340.out).2.2);(case side4=>exact (Kd.N_reads' HO340.out).2.1);rintro e w25 ⟨v358,rfl,ho0,hb⟩;refine ⟨_,rfl,?_⟩;have n0_:=Aside0.mk (Kd.N_elder' (zN HO340.out) (Kd.S_base ho0) hb);have n1_:=Aside0.mk (Kd.N_elder' (zN HO343.out) (Kd.S_base ho0) hb);have n2_:=Aside0.mk (Kd.N_elder' (zN HO349.out) (Kd.S_base ho0) hb);have n3_:=Aside0.mk (Kd.V_elder' (zV HO352.out) (Kd.S_base ho0) hb);have n4_:=Aside0.mk (Kd.N_lower (Kd.N_mono (ok':=fun k_=>some k_≠(.slice Ao18 t338.length co18:Value).ownBlock∧some k_≠(.slice Ao19 t341.length co19:Value).ownBlock∧some k_≠(.slice Ao22 t346.length co22:Value).ownBlock) (Kd.S_N (Kd.S_bound ho0)) (fun k_ hk_=>⟨(Kd.fresh' (Kd.N_lt (zN HO340.out)) k_ hk_.2.1),(Kd.fresh' (Kd.N_lt (zN HO343.out)) k_ hk_.2.1),(Kd.fresh' (Kd.N_lt (zN HO349.out)) k_ hk_.2.1)⟩)) (below_size zhb));have n5_:=Aside0.mk (below_step zhb hb);clear HO340;clear HO343;clear HO349;clear HO352;clear HB;have HO340:=n0_;have HO343:=n1_;have HO349:=n2_;have HO352:=n3_;have HO359:=n4_;have HB:=n5_;clear n0_ n1_ n2_ n3_ n4_ n5_;(try clear hb);(try clear hb2);(try clear hk);(try clear hi);(try clear ho0))|((with_reducible refine gate_callee (f:=8) rfl ?_);refine goesL_ (some 79) rfl rfl Tryd.func8 (by kernel_rfl) rfl #[.slice Ao18 t338.length co18,.slice none 0 0,.int .i64 t344,.int .i64 t345] rfl zar ?_;(refine (impl_JoinOf.calls k _ _ t338 _ _ ([]:List (S31)) t344 t345 t360 true _ ?side1 ?side2 ?side3 ?side4 A12.out).mono ?_);(case side1=>exact zC (Kd.N_reads' HO340.out).2.2);(case side2=>exact (Kd.N_reads' HO340.out).2.1);(case side3=>exact Kd.C_nil _ _);(case side4=>exact Nat.le_refl _);rintro e w26 ⟨v362,rfl,ho0,hb⟩;refine ⟨_,rfl,?_⟩;have n0_:=Aside0.mk (Kd.N_elder' (zN HO340.out) (Kd.S_base ho0) hb);have n1_:=Aside0.mk (Kd.N_elder' (zN HO343.out) (Kd.S_base ho0) hb);have n2_:=Aside0.mk (Kd.N_elder' (zN HO349.out) (Kd.S_base ho0) hb);have n3_:=Aside0.mk (Kd.V_elder' (zV HO352.out) (Kd.S_base ho0) hb);have n4_:=Aside0.mk (Kd.N_elder' (zN HO359.out) (Kd.S_base ho0) hb);have n5_:=Aside0.mk (Kd.N_lower (Kd.N_mono (ok':=fun k_=>some k_≠(.slice Ao18 t338.length co18:Value).ownBlock∧some k_≠(.slice Ao19 t341.length co19:Value).ownBlock∧some k_≠(.slice Ao22 t346.length co22:Value).ownBlock∧some k_≠(v358:Value).ownBlock) (Kd.S_N (Kd.S_bound ho0)) (fun k_ hk_=>⟨(Kd.fresh' (Kd.N_lt (zN HO340.out)) k_ hk_.2.1),(Kd.fresh' (Kd.N_lt (zN HO343.out)) k_ hk_.2.1),(Kd.fresh' (Kd.N_lt (zN HO349.out)) k_ hk_.2.1),(Kd.fresh' (Kd.N_lt (zN HO359.out)) k_ hk_.2.1)⟩)) (below_size zhb));have n6_:=Aside0.mk (below_step zhb hb);clear HO340;clear HO343;clear HO349;clear HO352;clear HO359;clear HB;have HO340:=n0_;have HO343:=n1_;have HO349:=n2_;have HO352:=n3_;have HO359:=n4_;have HO363:=n5_;have HB:=n6_;clear n0_ n1_ n2_ n3_ n4_ n5_ n6_;(try clear hb);(try clear hb2);(try clear hk);(try clear hi);(try clear ho0);obtain ⟨Ao27,co27,eo27⟩:=Kd.N_slice HO359.out;subst eo27;obtain ⟨Ao28,co28,eo28⟩:=Kd.N_slice HO363.out;subst eo28))
         go_loopg [15,16,17] k (fun kq v15 v16 v17 w'=>∃ (x15_1:Int) (x16_1:Int) (x17_1:Int),v15=.int .i64 x15_1∧v16=.int .i64 x16_1∧v17=.int .i64 x17_1∧Aside0 (laws_FnJoinSwap.l0 kq t338 t341 t344 t345 t346 t356 x15_1 x16_1 x17_1=some r)∧Aside0 (kq≤k)∧Aside0 (Kd.N k31 31 w' w.heap.size (fun k_=>some k_≠((.slice Ao19 t341.length co19):Value).ownBlock∧some k_≠((.slice Ao22 t346.length co22):Value).ownBlock∧some k_≠((.slice Ao27 t356.length co27):Value).ownBlock) (.slice Ao18 t338.length co18) t338)∧Aside0 (Kd.N k31 31 w' w.heap.size (fun k_=>some k_≠((.slice Ao18 t338.length co18):Value).ownBlock∧some k_≠((.slice Ao22 t346.length co22):Value).ownBlock∧some k_≠((.slice Ao27 t356.length co27):Value).ownBlock) (.slice Ao19 t341.length co19) t341)∧Aside0 (Kd.N k31 31 w' w.heap.size (fun k_=>some k_≠((.slice Ao18 t338.length co18):Value).ownBlock∧some k_≠((.slice Ao19 t341.length co19):Value).ownBlock∧some k_≠((.slice Ao27 t356.length co27):Value).ownBlock) (.slice Ao22 t346.length co22) t346)∧Aside0 (Kd.N k31 31 w' w.heap.size (fun k_=>some k_≠((.slice Ao18 t338.length co18):Value).ownBlock∧some k_≠((.slice Ao19 t341.length co19):Value).ownBlock∧some k_≠((.slice Ao22 t346.length co22):Value).ownBlock) (.slice Ao27 t356.length co27) t356)∧Aside0 (Below w.heap.size w w'))
         case atStart=>exact ⟨(0),(0),(0),(by first|rfl|(rw [HR_.out];first|done|rfl)|(simp;done)|(simp [*];done)),(by first|rfl|(rw [HR_.out];first|done|rfl)|(simp;done)|(simp [*];done)),(by first|rfl|(rw [HR_.out];first|done|rfl)|(simp;done)|(simp [*];done)),H',⟨Nat.le_refl _⟩,⟨by (with_reducible repeat (first|apply Kd.N_alloc|apply Kd.N_drewN|apply Kd.N_drew));exact Kd.N_mono HO340.out (fun _ hk=>⟨hk.1.1.1,⟨hk.1.1.2,hk.1.2⟩⟩)⟩,⟨by (with_reducible repeat (first|apply Kd.N_alloc|apply Kd.N_drewN|apply Kd.N_drew));exact Kd.N_mono HO343.out (fun _ hk=>⟨hk.1.1.1,⟨hk.1.1.2,hk.1.2⟩⟩)⟩,⟨by (with_reducible repeat (first|apply Kd.N_alloc|apply Kd.N_drewN|apply Kd.N_drew));exact Kd.N_mono HO349.out (fun _ hk=>⟨hk.1.1.1,⟨hk.1.1.2,hk.1.2⟩⟩)⟩,⟨by (with_reducible repeat (first|apply Kd.N_alloc|apply Kd.N_drewN|apply Kd.N_drew));exact Kd.N_mono HO359.out (fun _ hk=>⟨hk.1.1,⟨hk.1.2.1,hk.1.2.2⟩⟩)⟩,⟨zhb⟩⟩
         case round =>
          clear H'
          try clear c1
          try clear c2
          try clear c2b0
          try clear c2b1
          try clear p2
          try clear c4
          try clear c6
          try clear c6b0
          try clear c6b1
          try clear c6b2
          try clear c7
          try clear c7b0
          try clear c7b1
          try clear c7b2
          try clear c8
          try clear c9
          try clear c10
          try clear c13
          try clear c14
          try clear c14b0
          try clear c14b1
          try clear c14b2
          try clear c15
          try clear c16
          try clear c16b0
          try clear c16b1
          obtain ⟨x15_1,x16_1,x17_1,rfl,rfl,rfl,HA,HK1,HO_3,HO_4,HO_7,HO_11,HB⟩:=hrel
          cases gk with
          | zero=>exact absurd HA.out (by simp [laws_FnJoinSwap.l0])
          | succ k1 =>
           have H:=HA.out
           clear HA
           simp only [laws_FnJoinSwap.l0] at H
           by_cases c29:x17_1 < (t346.length:Int)
           ·rw [if_pos c29] at H
            have c29b0:decide (x17_1 < (t346.length:Int))=true:=decide_eq_true c29
            clear c29
            by_cases c30:0≤x17_1
            ·rw [if_pos c30] at H
             have c30b0:decide (0≤x17_1)=true:=decide_eq_true c30
             clear c30
             by_cases c31:x17_1 < (t356.length:Int)
             ·rw [if_pos c31] at H
              have c31b0:decide (x17_1 < (t356.length:Int))=true:=decide_eq_true c31
              clear c31
              have H':=Aside0.mk H
              clear H
              have p364:0≤(x17_1:Int):=zod
              have q364:x17_1 < (t346.length:Int):=zod
              obtain ⟨ad364,A364_0,c364_0,e364,hx364_0,hx364_1,hl364_0,hi364_0⟩:=at_T31 (Kd.N_reads' HO_7.out).2.2 x17_1 p364 q364
              cases e364
              obtain ⟨ce364,hce364,hMe364,hcc364⟩:=Kd.N_get HO_7.out z31 x17_1 p364 (by first|exact q364|exact zod|(have e_:=(Kd.N_reads' HO_7.out).1;omega))
              obtain ⟨ua364_0,uc364_0,rfl,ul364_0,ge364_0⟩:=k31_openF hMe364
              have hv364_0:=hcc364 0 _ rfl
              rw [Nat.add_zero] at hv364_0
              replace hv364_0:=Option.some.inj (hv364_0.symm.trans hx364_0)
              injection hv364_0 with hva_ hvn_ hvc_
              rw [hva_] at ge364_0
              rw [hvc_] at ul364_0
              have HL364_0:=Aside0.mk (show Kd.V (Kd.int .i64) 3 _ w.heap.size _ _ ((rd_T31 t346 x17_1).f0) from Kd.V_mk ul364_0 ge364_0)
              clear hva_ hvn_ hvc_ ge364_0 ul364_0
              clear hcc364 hce364
              have HR364_0:=Aside0.mk hi364_0
              have HC364_0:=Aside0.mk hl364_0
              clear hi364_0 hl364_0
              replace p364:=eq_true p364
              replace q364:=eq_true q364
              have p365:0≤(x17_1:Int):=zod
              have q365:x17_1 < (t356.length:Int):=zod
              obtain ⟨ad365,A365_0,c365_0,e365,hx365_0,hx365_1,hl365_0,hi365_0⟩:=at_T31 (Kd.N_reads' HO_11.out).2.2 x17_1 p365 q365
              cases e365
              obtain ⟨ce365,hce365,hMe365,hcc365⟩:=Kd.N_get HO_11.out z31 x17_1 p365 (by first|exact q365|exact zod|(have e_:=(Kd.N_reads' HO_11.out).1;omega))
              obtain ⟨ua365_0,uc365_0,rfl,ul365_0,ge365_0⟩:=k31_openF hMe365
              have hv365_0:=hcc365 0 _ rfl
              rw [Nat.add_zero] at hv365_0
              replace hv365_0:=Option.some.inj (hv365_0.symm.trans hx365_0)
              injection hv365_0 with hva_ hvn_ hvc_
              rw [hva_] at ge365_0
              rw [hvc_] at ul365_0
              have HL365_0:=Aside0.mk (show Kd.V (Kd.int .i64) 3 _ w.heap.size _ _ ((rd_T31 t356 x17_1).f0) from Kd.V_mk ul365_0 ge365_0)
              clear hva_ hvn_ hvc_ ge365_0 ul365_0
              clear hcc365 hce365
              have HR365_0:=Aside0.mk hi365_0
              have HC365_0:=Aside0.mk hl365_0
              clear hi365_0 hl365_0
              replace p365:=eq_true p365
              replace q365:=eq_true q365
              go_wp2
              go_roundg k1
              case measure=>have:=HK1.out;omega
              case rel=>exact ⟨(wrap64 (x15_1 + ((rd_T31 t346 x17_1).f1))),(wrap64 (x16_1 + ((rd_T31 t356 x17_1).f1))),(wrap64 (x17_1 + 1)),(by first|rfl|(rw [HR_.out];first|done|rfl)|(simp;done)|(simp [*];done)),(by first|rfl|(rw [HR_.out];first|done|rfl)|(simp;done)|(simp [*];done)),(by first|rfl|(rw [HR_.out];first|done|rfl)|(simp;done)|(simp [*];done)),H',⟨by have:=HK1.out;omega⟩,⟨by (with_reducible repeat (first|apply Kd.N_alloc|apply Kd.N_drewN|apply Kd.N_drew));exact HO_3.out⟩,⟨by (with_reducible repeat (first|apply Kd.N_alloc|apply Kd.N_drewN|apply Kd.N_drew));exact HO_4.out⟩,⟨by (with_reducible repeat (first|apply Kd.N_alloc|apply Kd.N_drewN|apply Kd.N_drew));exact HO_7.out⟩,⟨by (with_reducible repeat (first|apply Kd.N_alloc|apply Kd.N_drewN|apply Kd.N_drew));exact HO_11.out⟩,⟨zhb⟩⟩
             ·rw [if_neg c31] at H
              exact absurd H (by simp)
            ·rw [if_neg c30] at H
             exact absurd H (by simp)
           ·rw [if_neg c29] at H
            have c29b0:decide (x17_1 < (t346.length:Int))=false:=decide_eq_false c29
            clear c29
            replace H:=Option.bind_eq_some_iff.mp H
            obtain ⟨t366,A320,H⟩:=H
            (try dsimp only at H)
            have A32:=Aside0.mk A320
            clear A320
            replace H:=Option.bind_eq_some_iff.mp H
            obtain ⟨⟨t369,t370⟩,A330,H⟩:=H
            (try dsimp only at H)
            have A33:=Aside0.mk A330
            clear A330
            by_cases c34:x15_1=x16_1
            ·rw [if_pos c34] at H
             have c34b0:(x15_1 == x16_1)=true:=beq_iff_eq.mpr c34
             have c34b1:(x15_1 != x16_1)=false:=bne_eq_false_iff_eq.mpr c34
             clear c34
             by_cases c35:t370=true
             ·subst c35
              have H1:((impl_ZNeg.f k1 t346).bind fun t373=>((impl_ZSame.f k1 t369 t373).bind fun t376=>(some t376)))=some r:=by rw [if_pos rfl] at H;exact H
              clear H
              have H:=H1
              clear H1
              replace H:=Option.bind_eq_some_iff.mp H
              obtain ⟨t373,A360,H⟩:=H
              (try dsimp only at H)
              have A36:=Aside0.mk A360
              clear A360
              replace H:=Option.bind_eq_some_iff.mp H
              obtain ⟨t376,A370,H⟩:=H
              (try dsimp only at H)
              have A37:=Aside0.mk A370
              clear A370
              obtain rfl:=Option.some.inj H
              go_wp2_with (first|((with_reducible refine gate_callee (f:=11) rfl ?_);refine goesL_ (some 122) rfl rfl Tryd.func11 (by kernel_rfl) rfl #[.slice Ao18 t338.length co18] rfl zar ?_;(with_reducible refine (impl_ZNeg.calls k1 _ _ t338 t366 _ ?side1 ?side2 A32.out).mono ?_);(case side1=>exact zC (Kd.N_reads' HO_3.out).2.2);(case side2=>exact (Kd.N_reads' HO_3.out).2.1);rintro e w38 ⟨v367,rfl,ho0,hb⟩;refine ⟨_,rfl,?_⟩;have n0_:=Aside0.mk (Kd.N_elder' (zN HO_3.out) (Kd.S_base ho0) hb);have n1_:=Aside0.mk (Kd.N_elder' (zN HO_4.out) (Kd.S_base ho0) hb);have n2_:=Aside0.mk (Kd.N_elder' (zN HO_7.out) (Kd.S_base ho0) hb);have n3_:=Aside0.mk (Kd.N_elder' (zN HO_11.out) (Kd.S_base ho0) hb);have n4_:=Aside0.mk (Kd.N_lower (Kd.N_mono (ok':=fun k_=>some k_≠(.slice Ao18 t338.length co18:Value).ownBlock∧some k_≠(.slice Ao19 t341.length co19:Value).ownBlock∧some k_≠(.slice Ao22 t346.length co22:Value).ownBlock∧some k_≠(.slice Ao27 t356.length co27:Value).ownBlock) (Kd.S_N (Kd.S_bound ho0)) (fun k_ hk_=>⟨(Kd.fresh' (Kd.N_lt (zN HO_3.out)) k_ hk_.2.1),(Kd.fresh' (Kd.N_lt (zN HO_4.out)) k_ hk_.2.1),(Kd.fresh' (Kd.N_lt (zN HO_7.out)) k_ hk_.2.1),(Kd.fresh' (Kd.N_lt (zN HO_11.out)) k_ hk_.2.1)⟩)) (below_size zhb));have n5_:=Aside0.mk (below_step zhb hb);clear HO_3;clear HO_4;clear HO_7;clear HO_11;clear HB;have HO_3:=n0_;have HO_4:=n1_;have HO_7:=n2_;have HO_11:=n3_;have HO368:=n4_;have HB:=n5_;clear n0_ n1_ n2_ n3_ n4_ n5_;(try clear hb);(try clear hb2);(try clear hk);(try clear hi);(try clear ho0);obtain ⟨Ao39,co39,eo39⟩:=Kd.N_slice HO368.out;subst eo39)|((with_reducible refine gate_callee (f:=8) rfl ?_);refine goesL_ (some 126) rfl rfl Tryd.func8 (by kernel_rfl) rfl #[.slice Ao39 t366.length co39,.slice Ao19 t341.length co19,.int .i64 t344,.int .i64 t345] rfl zar ?_;(with_reducible refine (impl_JoinOf.calls k1 _ _ t366 _ _ t341 t344 t345 t369 true _ ?side1 ?side2 ?side3 ?side4 A33.out).mono ?_);(case side1=>exact zC (Kd.N_reads' HO368.out).2.2);(case side2=>exact (Kd.N_reads' HO368.out).2.1);(case side3=>exact zC (Kd.N_reads' HO_4.out).2.2);(case side4=>exact (Kd.N_reads' HO_4.out).2.1);rintro e w40 ⟨v371,rfl,ho0,hb⟩;refine ⟨_,rfl,?_⟩;have n0_:=Aside0.mk (Kd.N_elder' (zN HO_3.out) (Kd.S_base ho0) hb);have n1_:=Aside0.mk (Kd.N_elder' (zN HO_4.out) (Kd.S_base ho0) hb);have n2_:=Aside0.mk (Kd.N_elder' (zN HO_7.out) (Kd.S_base ho0) hb);have n3_:=Aside0.mk (Kd.N_elder' (zN HO_11.out) (Kd.S_base ho0) hb);have n4_:=Aside0.mk (Kd.N_elder' (zN HO368.out) (Kd.S_base ho0) hb);have n5_:=Aside0.mk (Kd.N_lower (Kd.N_mono (ok':=fun k_=>some k_≠(.slice Ao18 t338.length co18:Value).ownBlock∧some k_≠(.slice Ao19 t341.length co19:Value).ownBlock∧some k_≠(.slice Ao22 t346.length co22:Value).ownBlock∧some k_≠(.slice Ao27 t356.length co27:Value).ownBlock∧some k_≠(.slice Ao39 t366.length co39:Value).ownBlock) (Kd.S_N (Kd.S_bound ho0)) (fun k_ hk_=>⟨(Kd.fresh' (Kd.N_lt (zN HO_3.out)) k_ hk_.2.1),(Kd.fresh' (Kd.N_lt (zN HO_4.out)) k_ hk_.2.1),(Kd.fresh' (Kd.N_lt (zN HO_7.out)) k_ hk_.2.1),(Kd.fresh' (Kd.N_lt (zN HO_11.out)) k_ hk_.2.1),(Kd.fresh' (Kd.N_lt (zN HO368.out)) k_ hk_.2.1)⟩)) (below_size zhb));have n6_:=Aside0.mk (below_step zhb hb);clear HO_3;clear HO_4;clear HO_7;clear HO_11;clear HO368;clear HB;have HO_3:=n0_;have HO_4:=n1_;have HO_7:=n2_;have HO_11:=n3_;have HO368:=n4_;have HO372:=n5_;have HB:=n6_;clear n0_ n1_ n2_ n3_ n4_ n5_ n6_;(try clear hb);(try clear hb2);(try clear hk);(try clear hi);(try clear ho0))|(go_at_call 11;(with_reducible refine (impl_ZNeg.calls k1 _ _ t346 t373 _ ?side1 ?side2 A36.out).mono ?_);(case side1=>exact zC (Kd.N_reads' HO_7.out).2.2);(case side2=>exact (Kd.N_reads' HO_7.out).2.1);rintro e w41 ⟨v374,rfl,ho0,hb⟩;have n0_:=Aside0.mk (Kd.N_elder' (zN HO_3.out) (Kd.S_base ho0) hb);have n1_:=Aside0.mk (Kd.N_elder' (zN HO_4.out) (Kd.S_base ho0) hb);have n2_:=Aside0.mk (Kd.N_elder' (zN HO_7.out) (Kd.S_base ho0) hb);have n3_:=Aside0.mk (Kd.N_elder' (zN HO_11.out) (Kd.S_base ho0) hb);have n4_:=Aside0.mk (Kd.N_elder' (zN HO368.out) (Kd.S_base ho0) hb);have n5_:=Aside0.mk (Kd.N_elder' (zN HO372.out) (Kd.S_base ho0) hb);have n6_:=Aside0.mk (Kd.N_lower (Kd.N_mono (ok':=fun k_=>some k_≠(.slice Ao18 t338.length co18:Value).ownBlock∧some k_≠(.slice Ao19 t341.length co19:Value).ownBlock∧some k_≠(.slice Ao22 t346.length co22:Value).ownBlock∧some k_≠(.slice Ao27 t356.length co27:Value).ownBlock∧some k_≠(.slice Ao39 t366.length co39:Value).ownBlock∧some k_≠(v371:Value).ownBlock) (Kd.S_N (Kd.S_bound ho0)) (fun k_ hk_=>⟨(Kd.fresh' (Kd.N_lt (zN HO_3.out)) k_ hk_.2.1),(Kd.fresh' (Kd.N_lt (zN HO_4.out)) k_ hk_.2.1),(Kd.fresh' (Kd.N_lt (zN HO_7.out)) k_ hk_.2.1),(Kd.fresh' (Kd.N_lt (zN HO_11.out)) k_ hk_.2.1),(Kd.fresh' (Kd.N_lt (zN HO368.out)) k_ hk_.2.1),(Kd.fresh' (Kd.N_lt (zN HO372.out)) k_ hk_.2.1)⟩)) (below_size zhb));have n7_:=Aside0.mk (below_step zhb hb);clear HO_3;clear HO_4;clear HO_7;clear HO_11;clear HO368;clear HO372;clear HB;have HO_3:=n0_;have HO_4:=n1_;have HO_7:=n2_;have HO_11:=n3_;have HO368:=n4_;have HO372:=n5_;have HO375:=n6_;have HB:=n7_;clear n0_ n1_ n2_ n3_ n4_ n5_ n6_ n7_;(try clear hb);(try clear hb2);(try clear hk);(try clear hi);(try clear ho0);obtain ⟨Ao42,co42,eo42⟩:=Kd.N_slice HO372.out;subst eo42;obtain ⟨Ao43,co43,eo43⟩:=Kd.N_slice HO375.out;subst eo43)|(go_at_call 10;(with_reducible refine (impl_ZSame.calls k1 _ _ t369 _ _ t373 t376 _ ?side1 ?side2 ?side3 ?side4 A37.out).mono ?_);(case side1=>exact zC (Kd.N_reads' HO372.out).2.2);(case side2=>exact (Kd.N_reads' HO372.out).2.1);(case side3=>exact zC (Kd.N_reads' HO375.out).2.2);(case side4=>exact (Kd.N_reads' HO375.out).2.1);rintro e w44 ⟨rfl,hb⟩;have n0_:=Aside0.mk (Kd.N_below (zN HO_3.out) hb);have n1_:=Aside0.mk (Kd.N_below (zN HO_4.out) hb);have n2_:=Aside0.mk (Kd.N_below (zN HO_7.out) hb);have n3_:=Aside0.mk (Kd.N_below (zN HO_11.out) hb);have n4_:=Aside0.mk (Kd.N_below (zN HO368.out) hb);have n5_:=Aside0.mk (Kd.N_below (zN HO372.out) hb);have n6_:=Aside0.mk (Kd.N_below (zN HO375.out) hb);have n7_:=Aside0.mk (below_step zhb hb);clear HO_3;clear HO_4;clear HO_7;clear HO_11;clear HO368;clear HO372;clear HO375;clear HB;have HO_3:=n0_;have HO_4:=n1_;have HO_7:=n2_;have HO_11:=n3_;have HO368:=n4_;have HO372:=n5_;have HO375:=n6_;have HB:=n7_;clear n0_ n1_ n2_ n3_ n4_ n5_ n6_ n7_;(try clear hb);(try clear hb2);(try clear hk);(try clear hi)))
              go_ret
              exact ⟨by first|rfl|(rw [HR_.out];first|done|rfl)|(simp [errW_none,errW_some] <;> rfl)|(simp [*,errW_none,errW_some] <;> rfl),zhb⟩
             ·replace c35:=Bool.eq_false_iff.mpr c35
              subst c35
              have H1:(some false)=some r:=by rw [if_neg (show ¬ (false=true) by decide)] at H;exact H
              clear H
              have H:=H1
              clear H1
              exact absurd ((Option.some.inj H).trans HR_.out) (by decide)
            ·rw [if_neg c34] at H
             have c34b0:(x15_1 == x16_1)=false:=beq_eq_false_iff_ne.mpr c34
             have c34b1:(x15_1 != x16_1)=true:=bne_iff_ne.mpr c34
             exact absurd ((Option.some.inj H).trans HR_.out) (by decide)
       ·replace c15:=Bool.eq_false_iff.mpr c15
        subst c15
        have H1:(some false)=some r:=by rw [if_neg (show ¬ (false=true) by decide)] at H;exact H
        clear H
        have H:=H1
        clear H1
        exact absurd ((Option.some.inj H).trans HR_.out) (by decide)
      ·rw [if_neg c14] at H
       have c14b0:((t356.length:Int) == (t346.length:Int))=false:=beq_eq_false_iff_ne.mpr c14
       have c14b1:((t356.length:Int) != (t346.length:Int))=true:=bne_iff_ne.mpr c14
       have c14b2:(t356.length == t346.length)=false:=by first|simpa using c14|(simp at c14 ⊢;omega)
       exact absurd ((Option.some.inj H).trans HR_.out) (by decide)
     ·replace c13:=Bool.eq_false_iff.mpr c13
      subst c13
      have H1:(some false)=some r:=by rw [if_neg (show ¬ (false=true) by decide)] at H;exact H
      clear H
      have H:=H1
      clear H1
      exact absurd ((Option.some.inj H).trans HR_.out) (by decide)
    ·replace c10:=Bool.eq_false_iff.mpr c10
     subst c10
     have H1:(if (false == t353)=true then ((impl_ZSame.f k t346 t350).bind fun t377=>(some t377)) else (some false))=some r:=by rw [if_neg (show ¬ (false=true) by decide)] at H;exact H
     clear H
     have H:=H1
     clear H1
     by_cases c45:(false == t353)=true
     ·rw [if_pos c45] at H
      have c45b0:(false == t353)=true:=c45
      (try (have c45b1:decide (false=t353)=true:=by simpa using c45))
      (try (have c45b2:(false == t353)=true:=by simpa using c45))
      clear c45
      replace H:=Option.bind_eq_some_iff.mp H
      obtain ⟨t377,A460,H⟩:=H
      (try dsimp only at H)
      have A46:=Aside0.mk A460
      clear A460
      obtain rfl:=Option.some.inj H
      (try (have e_:=Option.some.inj (A8.out.symm.trans A46.out);subst e_))
      go_enter Tryd.func4,Tryd.ntmps4
      go_wp2_with (first|((with_reducible refine gate_callee (f:=7) rfl ?_);refine goesL_ (some 25) rfl rfl Tryd.func7 (by kernel_rfl) rfl #[.slice A0 l0.length c0] rfl zar ?_;(with_reducible refine (spec_DrawJoinOf.calls k _ _ l0 t338 t341 t344 t345 _ ?side1 ?side2 A3.out).mono ?_);(case side1=>exact zC HR0.out);(case side2=>exact HC0.out);rintro e w47 ⟨v339,v342,rfl,ho0,ho1,hb⟩;refine ⟨_,rfl,?_⟩;have n0_:=Aside0.mk (Kd.N_lower (Kd.N_mono (ok':=fun k_=>some k_≠(v342:Value).ownBlock) ho0 (fun k_ hk_=>hk_.2)) (below_size zhb));have n1_:=Aside0.mk (Kd.N_lower (Kd.N_mono (ok':=fun k_=>some k_≠(v339:Value).ownBlock) ho1 (fun k_ hk_=>hk_.2)) (below_size zhb));have n2_:=Aside0.mk (below_step zhb hb);clear HB;have HO340:=n0_;have HO343:=n1_;have HB:=n2_;clear n0_ n1_ n2_;(try clear hb);(try clear hb2);(try clear hk);(try clear hi);(try clear ho0);(try clear ho1);obtain ⟨Ao48,co48,eo48⟩:=Kd.N_slice HO340.out;subst eo48;obtain ⟨Ao49,co49,eo49⟩:=Kd.N_slice HO343.out;subst eo49)|((with_reducible refine gate_callee (f:=8) rfl ?_);refine goesL_ (some 35) rfl rfl Tryd.func8 (by kernel_rfl) rfl #[.slice Ao48 t338.length co48,.slice Ao49 t341.length co49,.int .i64 t344,.int .i64 t345] rfl zar ?_;(with_reducible refine (impl_JoinOf.calls k _ _ t338 _ _ t341 t344 t345 t346 false _ ?side1 ?side2 ?side3 ?side4 A4.out).mono ?_);(case side1=>exact zC (Kd.N_reads' HO340.out).2.2);(case side2=>exact (Kd.N_reads' HO340.out).2.1);(case side3=>exact zC (Kd.N_reads' HO343.out).2.2);(case side4=>exact (Kd.N_reads' HO343.out).2.1);rintro e w50 ⟨v348,rfl,ho0,hb⟩;refine ⟨_,rfl,?_⟩;have n0_:=Aside0.mk (Kd.N_elder' (zN HO340.out) (Kd.S_base ho0) hb);have n1_:=Aside0.mk (Kd.N_elder' (zN HO343.out) (Kd.S_base ho0) hb);have n2_:=Aside0.mk (Kd.N_lower (Kd.N_mono (ok':=fun k_=>some k_≠(.slice Ao48 t338.length co48:Value).ownBlock∧some k_≠(.slice Ao49 t341.length co49:Value).ownBlock) (Kd.S_N (Kd.S_bound ho0)) (fun k_ hk_=>⟨(Kd.fresh' (Kd.N_lt (zN HO340.out)) k_ hk_.2.1),(Kd.fresh' (Kd.N_lt (zN HO343.out)) k_ hk_.2.1)⟩)) (below_size zhb));have n3_:=Aside0.mk (below_step zhb hb);clear HO340;clear HO343;clear HB;have HO340:=n0_;have HO343:=n1_;have HO349:=n2_;have HB:=n3_;clear n0_ n1_ n2_ n3_;(try clear hb);(try clear hb2);(try clear hk);(try clear hi);(try clear ho0))|((with_reducible refine gate_callee (f:=9) rfl ?_);refine goesL_ (some 43) rfl rfl Tryd.func9 (by kernel_rfl) rfl #[.slice Ao48 t338.length co48,.slice Ao49 t341.length co49,.int .i64 t344,.int .i64 t345] rfl zar ?_;(with_reducible refine (spec_JoinOf.calls k _ _ t338 _ _ t341 t344 t345 t350 t353 _ ?side1 ?side2 ?side3 ?side4 A5.out).mono ?_);(case side1=>exact zC (Kd.N_reads' HO340.out).2.2);(case side2=>exact (Kd.N_reads' HO340.out).2.1);(case side3=>exact zC (Kd.N_reads' HO343.out).2.2);(case side4=>exact (Kd.N_reads' HO343.out).2.1);rintro e w51 ⟨v351,rfl,ho0,hb⟩;refine ⟨_,rfl,?_⟩;have n0_:=Aside0.mk (Kd.N_below (zN HO340.out) hb);have n1_:=Aside0.mk (Kd.N_below (zN HO343.out) hb);have n2_:=Aside0.mk (Kd.N_below (zN HO349.out) hb);have n3_:=Aside0.mk (Kd.V_lower (Kd.V_mono (ok':=fun k_=>some k_≠(.slice Ao48 t338.length co48:Value).ownBlock∧some k_≠(.slice Ao49 t341.length co49:Value).ownBlock∧some k_≠(v348:Value).ownBlock) ho0 (fun k_ hk_=>⟨(Kd.fresh' (Kd.N_lt (zN HO340.out)) k_ hk_),(Kd.fresh' (Kd.N_lt (zN HO343.out)) k_ hk_),(Kd.fresh' (Kd.N_lt (zN HO349.out)) k_ hk_)⟩)) (below_size zhb));have n4_:=Aside0.mk (below_step zhb hb);clear HO340;clear HO343;clear HO349;clear HB;have HO340:=n0_;have HO343:=n1_;have HO349:=n2_;have HO352:=n3_;have HB:=n4_;clear n0_ n1_ n2_ n3_ n4_;(try clear hb);(try clear hb2);(try clear hk);(try clear hi);(try clear ho0);obtain ⟨Ao52,co52,eo52⟩:=Kd.N_slice HO349.out;subst eo52;obtain ⟨Ao53,co53,eo53⟩:=Kd.V_slice HO352.out;subst eo53)|(go_at_call 10;(with_reducible refine (impl_ZSame.calls k _ _ t346 _ _ t350 true _ ?side1 ?side2 ?side3 ?side4 A8.out).mono ?_);(case side1=>exact zC (Kd.N_reads' HO349.out).2.2);(case side2=>exact (Kd.N_reads' HO349.out).2.1);(case side3=>repeat (first|exact (Kd.V_reads' HO352.out).2.2|(with_reducible refine Kd.C_alloc ?_ _)|(with_reducible refine Kd.C_drewN ?_ _)|(with_reducible refine Kd.C_drew ?_)));(case side4=>exact (Kd.V_reads' HO352.out).2.1);rintro e w54 ⟨rfl,hb⟩;have n0_:=Aside0.mk (Kd.N_below (zN HO340.out) hb);have n1_:=Aside0.mk (Kd.N_below (zN HO343.out) hb);have n2_:=Aside0.mk (Kd.N_below (zN HO349.out) hb);have n3_:=Aside0.mk (Kd.V_below (zV HO352.out) hb);have n4_:=Aside0.mk (below_step zhb hb);clear HO340;clear HO343;clear HO349;clear HO352;clear HB;have HO340:=n0_;have HO343:=n1_;have HO349:=n2_;have HO352:=n3_;have HB:=n4_;clear n0_ n1_ n2_ n3_ n4_;(try clear hb);(try clear hb2);(try clear hk);(try clear hi))|(go_at_call 10;(with_reducible refine (impl_ZSame.calls k _ _ t346 _ _ t350 t377 _ ?side1 ?side2 ?side3 ?side4 A46.out).mono ?_);(case side1=>exact zC (Kd.N_reads' HO349.out).2.2);(case side2=>exact (Kd.N_reads' HO349.out).2.1);(case side3=>repeat (first|exact (Kd.V_reads' HO352.out).2.2|(with_reducible refine Kd.C_alloc ?_ _)|(with_reducible refine Kd.C_drewN ?_ _)|(with_reducible refine Kd.C_drew ?_)));(case side4=>exact (Kd.V_reads' HO352.out).2.1);rintro e w55 ⟨rfl,hb⟩;have n0_:=Aside0.mk (Kd.N_below (zN HO340.out) hb);have n1_:=Aside0.mk (Kd.N_below (zN HO343.out) hb);have n2_:=Aside0.mk (Kd.N_below (zN HO349.out) hb);have n3_:=Aside0.mk (Kd.V_below (zV HO352.out) hb);have n4_:=Aside0.mk (below_step zhb hb);clear HO340;clear HO343;clear HO349;clear HO352;clear HB;have HO340:=n0_;have HO343:=n1_;have HO349:=n2_;have HO352:=n3_;have HB:=n4_;clear n0_ n1_ n2_ n3_ n4_;(try clear hb);(try clear hb2);(try clear hk);(try clear hi)))
      go_ret
      exact ⟨by first|rfl|(rw [HR_.out];first|done|rfl)|(simp [errW_none,errW_some] <;> rfl)|(exact absurd ((Option.some.inj (A8.out.symm.trans A46.out)).trans HR_.out) (by decide))|(simp [*,errW_none,errW_some] <;> rfl),zhb⟩
     ·rw [if_neg c45] at H
      have c45b0:(false == t353)=false:=by simpa using c45
      (try (have c45b1:decide (false=t353)=false:=by simpa using c45))
      (try (have c45b2:(false == t353)=false:=by simpa using c45))
      (try (have c45b3 : ¬ (false=t353):=by simpa using c45))
      clear c45
      exact absurd ((Option.some.inj H).trans HR_.out) (by decide)
   ·replace c9:=Bool.eq_false_iff.mpr c9
    subst c9
    have H1:(if (t347 == t353)=true then ((impl_ZSame.f k t346 t350).bind fun t378=>(some t378)) else (some false))=some r:=by rw [if_neg (show ¬ (false=true) by decide)] at H;exact H
    clear H
    have H:=H1
    clear H1
    by_cases c56:(t347 == t353)=true
    ·rw [if_pos c56] at H
     have c56b0:(t347 == t353)=true:=c56
     (try (have c56b1:decide (t347=t353)=true:=by simpa using c56))
     (try (have c56b2:(t347 == t353)=true:=by simpa using c56))
     clear c56
     replace H:=Option.bind_eq_some_iff.mp H
     obtain ⟨t378,A570,H⟩:=H
     (try dsimp only at H)
     have A57:=Aside0.mk A570
     clear A570
     obtain rfl:=Option.some.inj H
     (try (have e_:=Option.some.inj (A8.out.symm.trans A57.out);subst e_))
     go_enter Tryd.func4,Tryd.ntmps4
     go_wp2_with (first|((with_reducible refine gate_callee (f:=7) rfl ?_);refine goesL_ (some 25) rfl rfl Tryd.func7 (by kernel_rfl) rfl #[.slice A0 l0.length c0] rfl zar ?_;(with_reducible refine (spec_DrawJoinOf.calls k _ _ l0 t338 t341 t344 t345 _ ?side1 ?side2 A3.out).mono ?_);(case side1=>exact zC HR0.out);(case side2=>exact HC0.out);rintro e w58 ⟨v339,v342,rfl,ho0,ho1,hb⟩;refine ⟨_,rfl,?_⟩;have n0_:=Aside0.mk (Kd.N_lower (Kd.N_mono (ok':=fun k_=>some k_≠(v342:Value).ownBlock) ho0 (fun k_ hk_=>hk_.2)) (below_size zhb));have n1_:=Aside0.mk (Kd.N_lower (Kd.N_mono (ok':=fun k_=>some k_≠(v339:Value).ownBlock) ho1 (fun k_ hk_=>hk_.2)) (below_size zhb));have n2_:=Aside0.mk (below_step zhb hb);clear HB;have HO340:=n0_;have HO343:=n1_;have HB:=n2_;clear n0_ n1_ n2_;(try clear hb);(try clear hb2);(try clear hk);(try clear hi);(try clear ho0);(try clear ho1);obtain ⟨Ao59,co59,eo59⟩:=Kd.N_slice HO340.out;subst eo59;obtain ⟨Ao60,co60,eo60⟩:=Kd.N_slice HO343.out;subst eo60)|((with_reducible refine gate_callee (f:=8) rfl ?_);refine goesL_ (some 35) rfl rfl Tryd.func8 (by kernel_rfl) rfl #[.slice Ao59 t338.length co59,.slice Ao60 t341.length co60,.int .i64 t344,.int .i64 t345] rfl zar ?_;(with_reducible refine (impl_JoinOf.calls k _ _ t338 _ _ t341 t344 t345 t346 t347 _ ?side1 ?side2 ?side3 ?side4 A4.out).mono ?_);(case side1=>exact zC (Kd.N_reads' HO340.out).2.2);(case side2=>exact (Kd.N_reads' HO340.out).2.1);(case side3=>exact zC (Kd.N_reads' HO343.out).2.2);(case side4=>exact (Kd.N_reads' HO343.out).2.1);rintro e w61 ⟨v348,rfl,ho0,hb⟩;refine ⟨_,rfl,?_⟩;have n0_:=Aside0.mk (Kd.N_elder' (zN HO340.out) (Kd.S_base ho0) hb);have n1_:=Aside0.mk (Kd.N_elder' (zN HO343.out) (Kd.S_base ho0) hb);have n2_:=Aside0.mk (Kd.N_lower (Kd.N_mono (ok':=fun k_=>some k_≠(.slice Ao59 t338.length co59:Value).ownBlock∧some k_≠(.slice Ao60 t341.length co60:Value).ownBlock) (Kd.S_N (Kd.S_bound ho0)) (fun k_ hk_=>⟨(Kd.fresh' (Kd.N_lt (zN HO340.out)) k_ hk_.2.1),(Kd.fresh' (Kd.N_lt (zN HO343.out)) k_ hk_.2.1)⟩)) (below_size zhb));have n3_:=Aside0.mk (below_step zhb hb);clear HO340;clear HO343;clear HB;have HO340:=n0_;have HO343:=n1_;have HO349:=n2_;have HB:=n3_;clear n0_ n1_ n2_ n3_;(try clear hb);(try clear hb2);(try clear hk);(try clear hi);(try clear ho0))|((with_reducible refine gate_callee (f:=9) rfl ?_);refine goesL_ (some 43) rfl rfl Tryd.func9 (by kernel_rfl) rfl #[.slice Ao59 t338.length co59,.slice Ao60 t341.length co60,.int .i64 t344,.int .i64 t345] rfl zar ?_;(with_reducible refine (spec_JoinOf.calls k _ _ t338 _ _ t341 t344 t345 t350 t353 _ ?side1 ?side2 ?side3 ?side4 A5.out).mono ?_);(case side1=>exact zC (Kd.N_reads' HO340.out).2.2);(case side2=>exact (Kd.N_reads' HO340.out).2.1);(case side3=>exact zC (Kd.N_reads' HO343.out).2.2);(case side4=>exact (Kd.N_reads' HO343.out).2.1);rintro e w62 ⟨v351,rfl,ho0,hb⟩;refine ⟨_,rfl,?_⟩;have n0_:=Aside0.mk (Kd.N_below (zN HO340.out) hb);have n1_:=Aside0.mk (Kd.N_below (zN HO343.out) hb);have n2_:=Aside0.mk (Kd.N_below (zN HO349.out) hb);have n3_:=Aside0.mk (Kd.V_lower (Kd.V_mono (ok':=fun k_=>some k_≠(.slice Ao59 t338.length co59:Value).ownBlock∧some k_≠(.slice Ao60 t341.length co60:Value).ownBlock∧some k_≠(v348:Value).ownBlock) ho0 (fun k_ hk_=>⟨(Kd.fresh' (Kd.N_lt (zN HO340.out)) k_ hk_),(Kd.fresh' (Kd.N_lt (zN HO343.out)) k_ hk_),(Kd.fresh' (Kd.N_lt (zN HO349.out)) k_ hk_)⟩)) (below_size zhb));have n4_:=Aside0.mk (below_step zhb hb);clear HO340;clear HO343;clear HO349;clear HB;have HO340:=n0_;have HO343:=n1_;have HO349:=n2_;have HO352:=n3_;have HB:=n4_;clear n0_ n1_ n2_ n3_ n4_;(try clear hb);(try clear hb2);(try clear hk);(try clear hi);(try clear ho0);obtain ⟨Ao63,co63,eo63⟩:=Kd.N_slice HO349.out;subst eo63;obtain ⟨Ao64,co64,eo64⟩:=Kd.V_slice HO352.out;subst eo64)|(go_at_call 10;(with_reducible refine (impl_ZSame.calls k _ _ t346 _ _ t350 false _ ?side1 ?side2 ?side3 ?side4 A8.out).mono ?_);(case side1=>exact zC (Kd.N_reads' HO349.out).2.2);(case side2=>exact (Kd.N_reads' HO349.out).2.1);(case side3=>repeat (first|exact (Kd.V_reads' HO352.out).2.2|(with_reducible refine Kd.C_alloc ?_ _)|(with_reducible refine Kd.C_drewN ?_ _)|(with_reducible refine Kd.C_drew ?_)));(case side4=>exact (Kd.V_reads' HO352.out).2.1);rintro e w65 ⟨rfl,hb⟩;have n0_:=Aside0.mk (Kd.N_below (zN HO340.out) hb);have n1_:=Aside0.mk (Kd.N_below (zN HO343.out) hb);have n2_:=Aside0.mk (Kd.N_below (zN HO349.out) hb);have n3_:=Aside0.mk (Kd.V_below (zV HO352.out) hb);have n4_:=Aside0.mk (below_step zhb hb);clear HO340;clear HO343;clear HO349;clear HO352;clear HB;have HO340:=n0_;have HO343:=n1_;have HO349:=n2_;have HO352:=n3_;have HB:=n4_;clear n0_ n1_ n2_ n3_ n4_;(try clear hb);(try clear hb2);(try clear hk);(try clear hi))|(go_at_call 10;(with_reducible refine (impl_ZSame.calls k _ _ t346 _ _ t350 t378 _ ?side1 ?side2 ?side3 ?side4 A57.out).mono ?_);(case side1=>exact zC (Kd.N_reads' HO349.out).2.2);(case side2=>exact (Kd.N_reads' HO349.out).2.1);(case side3=>repeat (first|exact (Kd.V_reads' HO352.out).2.2|(with_reducible refine Kd.C_alloc ?_ _)|(with_reducible refine Kd.C_drewN ?_ _)|(with_reducible refine Kd.C_drew ?_)));(case side4=>exact (Kd.V_reads' HO352.out).2.1);rintro e w66 ⟨rfl,hb⟩;have n0_:=Aside0.mk (Kd.N_below (zN HO340.out) hb);have n1_:=Aside0.mk (Kd.N_below (zN HO343.out) hb);have n2_:=Aside0.mk (Kd.N_below (zN HO349.out) hb);have n3_:=Aside0.mk (Kd.V_below (zV HO352.out) hb);have n4_:=Aside0.mk (below_step zhb hb);clear HO340;clear HO343;clear HO349;clear HO352;clear HB;have HO340:=n0_;have HO343:=n1_;have HO349:=n2_;have HO352:=n3_;have HB:=n4_;clear n0_ n1_ n2_ n3_ n4_;(try clear hb);(try clear hb2);(try clear hk);(try clear hi)))
     go_ret
     exact ⟨by first|rfl|(rw [HR_.out];first|done|rfl)|(simp [errW_none,errW_some] <;> rfl)|(exact absurd ((Option.some.inj (A8.out.symm.trans A57.out)).trans HR_.out) (by decide))|(simp [*,errW_none,errW_some] <;> rfl),zhb⟩
    ·rw [if_neg c56] at H
     have c56b0:(t347 == t353)=false:=by simpa using c56
     (try (have c56b1:decide (t347=t353)=false:=by simpa using c56))
     (try (have c56b2:(t347 == t353)=false:=by simpa using c56))
     (try (have c56b3 : ¬ (t347=t353):=by simpa using c56))
     clear c56
     exact absurd ((Option.some.inj H).trans HR_.out) (by decide)

/-- THE ONE PURE STATEMENT of laws_FnJoinSwap: yours. -/
def laws_FnJoinSwap.Pure:Prop:=∀ (l0:List Int),l0.length≤maxLen→l0.length * 1≤140737488351232→(∀ x ∈ l0,(Lit.int .u8 x).wf=true)→∃ k,laws_FnJoinSwap.f k l0=some true
theorem laws_FnJoinSwap.walk (P : laws_FnJoinSwap.Pure) (a0 : Option Addr) (len0 cap0 : Nat) (z0 : List Int) (w : World) (w0 : (a0 = none ∧ len0 = 0 ∧ cap0 = 0 ∧ z0 = []) ∨ ∃ x, a0 = some x ∧ len0 ≤ cap0 ∧ cap0 ≤ maxLen ∧ z0.length = cap0 ∧ (∀ i, i < z0.length → w.cell? (x.add i) = some (.int .u8 (z0.getD i 0))) ∧ ∀ n ∈ z0, (Lit.int .u8 n).wf = true) (y0 : len0 * 1 ≤ 140737488351232) (hT : Lib.TabIs Tryd.prog w "internal/strconv.uint64pow10" .u64 Lib.pow10Tab) :
  Calls Tryd.prog 4 #[.slice a0 len0 cap0] w fun e w'=>e=.returned (.bool true)∧Below w.heap.size w w':=by
 obtain ⟨l0,rfl,hr0,hm0,hw0,hc0⟩:=ReadsInt.ofRowC w0
 obtain ⟨k,h⟩:=P l0 hm0 y0 hw0
 refine (laws_FnJoinSwap.calls k _ _ l0 true w (Kd.C_of_reads (d:=(0:Int)) (h1:=fun _=>rfl) hr0) hc0 h rfl hT).mono ?_
 rintro e w' ⟨rfl,hd⟩
 exact ⟨rfl,hd⟩

end Go.Proofs.YtlknceioincaeaaDoor.PFnJoinSwap
