-- Written by wip/tools/pp.py, a program of this session over the kit's printer: not the kit's own print
import Derived.Test.YtlknceioincaeaaDoorPFnJoinx0
import Derived.Test.YtlknceioincaeaaDoorPFnJoinx3
import Derived.Test.YtlknceioincaeaaDoorPFnJoinx4
import Derived.Test.YtlknceioincaeaaDoorPFnJoinx7
import Derived.Test.YtlknceioincaeaaDoorPFnJoinx12
import Derived.Test.YtlknceioincaeaaDoorPFnJoinx13
import Derived.Test.YtlknceioincaeaaDoorPFnJoinx15
namespace Go.Proofs.YtlknceioincaeaaDoor.PFnJoin
open Go.RowKit Go.Proofs.YtlknceioincaeaaDoorW.PrintWords Go.Proofs.YtlknceioincaeaaDoorW.PrintLast Go.Proofs.YtlknceioincaeaaDoorW.PrintMore
attribute [local go_sem] max2_int min2_int max_two min_two max_three min_three max_four min_four   -- for this text's walks alone
set_option linter.unusedVariables false
set_option linter.unusedSimpArgs false

/-! ### laws_FnJoin: function 6 -/
mutual
def laws_FnJoin.l0:Nat→List Int→List (S31)→List (S31)→Int→Int→List (S31)→Int→Int→Option (Bool)
 | 0,_,_,_,_,_,_,_,_=>none
 | k + 1,x1,x5,x6,x7,x8,x9,x13,x14=>if x14 < (x5.length:Int) then (laws_FnJoin.l1 k x1 x5 x6 x7 x8 x9 x13 x14 0) else ((spec_DrawJoinOf.f k x1).bind fun bt450=>((impl_ZAdd.f k x6 bt450.1).bind fun bt458=>((impl_JoinOf.f k x5 bt450.1 x7 x8).bind fun bt462=>((impl_JoinOf.f k x5 bt458.1 x7 x8).bind fun bt466=>((impl_ZAdd.f k x9 bt462.1).bind fun bt470=>(if (x9.length:Int)≤x13 then (if bt458.2=true then (if bt462.2=true then (if bt466.2=true then (if bt470.2=true then ((impl_ZSame.f k bt470.1 bt466.1).bind fun t474=>(some t474)) else (some true)) else (some true)) else (some true)) else (some true)) else (some false)))))))
def laws_FnJoin.l1:Nat→List Int→List (S31)→List (S31)→Int→Int→List (S31)→Int→Int→Int→Option (Bool)
 | 0,_,_,_,_,_,_,_,_,_=>none
 | k + 1,x1,x5,x6,x7,x8,x9,x13,x14,x15=>if x15 < (x6.length:Int) then (if 0≤x14 then (if x14 < (x5.length:Int) then (if 0≤x7 then (if x7 < (((rd_T31 x5 x14).f0).length:Int) then (if 0≤x15 then (if 0≤x8 then (if x8 < (((rd_T31 x6 x15).f0).length:Int) then (if (rd ((rd_T31 x5 x14).f0) x7)=(rd ((rd_T31 x6 x15).f0) x8) then (if 0 < (x5.length:Int) then (if (((rd_T31 x5 x14).f0).length:Int)=(((rd_T31 x5 0).f0).length:Int) then (if 0 < (x6.length:Int) then (if (((rd_T31 x6 x15).f0).length:Int)=(((rd_T31 x6 0).f0).length:Int) then (if (wrap64 (((rd_T31 x5 0).f1) * ((rd_T31 x6 0).f1)))=0 then (laws_FnJoin.l1 k x1 x5 x6 x7 x8 x9 (wrap64 (x13 + 1)) x14 (wrap64 (x15 + 1))) else ((impl_RowJoin.f k ((rd_T31 x5 x14).f0) ((rd_T31 x6 x15).f0)).bind fun t446=>((impl_ZGet.f k x9 t446).bind fun t449=>(if t449=0 then (if (x5.length:Int) < 2 then (some false) else (laws_FnJoin.l1 k x1 x5 x6 x7 x8 x9 (wrap64 (x13 + 1)) x14 (wrap64 (x15 + 1)))) else (laws_FnJoin.l1 k x1 x5 x6 x7 x8 x9 (wrap64 (x13 + 1)) x14 (wrap64 (x15 + 1))))))) else (laws_FnJoin.l1 k x1 x5 x6 x7 x8 x9 (wrap64 (x13 + 1)) x14 (wrap64 (x15 + 1)))) else (none)) else (laws_FnJoin.l1 k x1 x5 x6 x7 x8 x9 (wrap64 (x13 + 1)) x14 (wrap64 (x15 + 1)))) else (none)) else (laws_FnJoin.l1 k x1 x5 x6 x7 x8 x9 x13 x14 (wrap64 (x15 + 1)))) else (none)) else (none)) else (none)) else (none)) else (none)) else (none)) else (none)) else (laws_FnJoin.l0 k x1 x5 x6 x7 x8 x9 x13 (wrap64 (x14 + 1)))
end
def laws_FnJoin.f (k:Nat) (l0:List Int) (l1:List Int):Option (Bool):=if (l0.length:Int) > 1048576 then (some true) else (if (l1.length:Int) > 1048576 then (some true) else ((spec_DrawJoinOf.f k l0).bind fun bt417=>((impl_JoinOf.f k bt417.1 bt417.2.1 bt417.2.2.1 bt417.2.2.2).bind fun bt425=>((spec_JoinOf.f k bt417.1 bt417.2.1 bt417.2.2.1 bt417.2.2.2).bind fun bt429=>(if (bt425.2 != bt429.2)=true then (some false) else ((impl_ZSame.f k bt425.1 bt429.1).bind fun t433=>(if t433=true then (if bt425.2=true then (laws_FnJoin.l0 k l1 bt417.1 bt417.2.1 bt417.2.2.1 bt417.2.2.2 bt425.1 0 0) else (some ((bt425.1.length:Int) == 0))) else (some false))))))))
theorem laws_FnJoin.mono_l : ∀ k,(∀ y0 y1 y2 y3 y4 y5 y6 y7,LeO (laws_FnJoin.l0 k y0 y1 y2 y3 y4 y5 y6 y7) (laws_FnJoin.l0 (k + 1) y0 y1 y2 y3 y4 y5 y6 y7))∧(∀ y0 y1 y2 y3 y4 y5 y6 y7 y8,LeO (laws_FnJoin.l1 k y0 y1 y2 y3 y4 y5 y6 y7 y8) (laws_FnJoin.l1 (k + 1) y0 y1 y2 y3 y4 y5 y6 y7 y8))
 | 0=>⟨fun _ _ _ _ _ _ _ _ r h=>by simp [laws_FnJoin.l0] at h,fun _ _ _ _ _ _ _ _ _ r h=>by simp [laws_FnJoin.l1] at h⟩
 | k + 1=>by
  obtain ⟨ih0,ih1⟩:=laws_FnJoin.mono_l k
  refine ⟨?_,?_⟩
  ·intro y0 y1 y2 y3 y4 y5 y6 y7
   unfold laws_FnJoin.l0
   repeat' first
   | (with_reducible exact ih0 _ _ _ _ _ _ _ _)
   | (with_reducible exact ih1 _ _ _ _ _ _ _ _ _)
   | (with_reducible exact impl_JoinOf.mono _ _ _ _ _)
   | (with_reducible exact impl_RowJoin.mono _ _ _)
   | (with_reducible exact impl_ZAdd.mono _ _ _)
   | (with_reducible exact impl_ZGet.mono _ _ _)
   | (with_reducible exact impl_ZSame.mono _ _ _)
   | (with_reducible exact spec_DrawJoinOf.mono _ _)
   | (with_reducible exact spec_JoinOf.mono _ _ _ _ _)
   | (with_reducible exact LeO.refl _)
   | (with_reducible exact LeO.none _)
   | (with_reducible refine LeO.ite ?_ ?_)
   | (with_reducible refine LeO.bind ?_ (fun _=>?_))
   | exact LeO.none _
   | refine LeO.ite ?_ ?_
   | refine LeO.bind ?_ (fun _=>?_)
  ·intro y0 y1 y2 y3 y4 y5 y6 y7 y8
   unfold laws_FnJoin.l1
   repeat' first
   | (with_reducible exact ih0 _ _ _ _ _ _ _ _)
   | (with_reducible exact ih1 _ _ _ _ _ _ _ _ _)
   | (with_reducible exact impl_JoinOf.mono _ _ _ _ _)
   | (with_reducible exact impl_RowJoin.mono _ _ _)
   | (with_reducible exact impl_ZAdd.mono _ _ _)
   | (with_reducible exact impl_ZGet.mono _ _ _)
   | (with_reducible exact impl_ZSame.mono _ _ _)
   | (with_reducible exact spec_DrawJoinOf.mono _ _)
   | (with_reducible exact spec_JoinOf.mono _ _ _ _ _)
   | (with_reducible exact LeO.refl _)
   | (with_reducible exact LeO.none _)
   | (with_reducible refine LeO.ite ?_ ?_)
   | (with_reducible refine LeO.bind ?_ (fun _=>?_))
   | exact LeO.none _
   | refine LeO.ite ?_ ?_
   | refine LeO.bind ?_ (fun _=>?_)
theorem laws_FnJoin.mono : ∀ a0 a1 k,LeO (laws_FnJoin.f k a0 a1) (laws_FnJoin.f (k + 1) a0 a1):=by
 intro a0 a1 k
 obtain ⟨ih0,ih1⟩:=laws_FnJoin.mono_l k
 unfold laws_FnJoin.f
 repeat' first
   | (with_reducible exact ih0 _ _ _ _ _ _ _ _)
   | (with_reducible exact ih1 _ _ _ _ _ _ _ _ _)
   | (with_reducible exact impl_JoinOf.mono _ _ _ _ _)
   | (with_reducible exact impl_RowJoin.mono _ _ _)
   | (with_reducible exact impl_ZAdd.mono _ _ _)
   | (with_reducible exact impl_ZGet.mono _ _ _)
   | (with_reducible exact impl_ZSame.mono _ _ _)
   | (with_reducible exact spec_DrawJoinOf.mono _ _)
   | (with_reducible exact spec_JoinOf.mono _ _ _ _ _)
   | (with_reducible exact LeO.refl _)
   | (with_reducible exact LeO.none _)
   | (with_reducible refine LeO.ite ?_ ?_)
   | (with_reducible refine LeO.bind ?_ (fun _=>?_))
   | exact LeO.none _
   | refine LeO.ite ?_ ?_
   | refine LeO.bind ?_ (fun _=>?_)
def laws_FnJoin.T17:Bool × List (List Nat × List Nat):=(true,[([],[]),([],[]),([0,1],[0,1]),([2],[2]),([3],[3]),([],[]),([4,5],[4,5]),([6],[6]),([],[]),([],[]),([8,9],[8,9]),([10],[10]),([11],[11]),([],[]),([12,13],[12,13]),([14],[14]),([7,15],[7,15])])
def laws_FnJoin.B17:List Nat:=[0,0,3,7,15,0,63,127,0,0,768,1792,3840,0,16128,32512,65535]
theorem laws_FnJoin.tab17:rtab .any (opsOf Tryd.f6 17)=laws_FnJoin.T17:=by kernel_rfl
theorem laws_FnJoin.bits17:waitsOk laws_FnJoin.T17.2 laws_FnJoin.B17=true:=by kernel_rfl
def laws_FnJoin.T19:Bool × List (List Nat × List Nat):=(true,[([],[]),([],[]),([0,1],[0,1]),([2],[2]),([3],[3]),([4],[4]),([],[]),([6],[6]),([7],[7]),([8],[8]),([9],[9]),([5,10],[5,10]),([11],[11]),([12],[12]),([12],[12]),([13,14,12],[12,13,14]),([15,12],[12,15]),([16,12],[12,16]),([17,12],[12,17]),([12],[12]),([19,12],[12,19]),([20,12],[12,20]),([21,12],[12,21]),([22,12],[12,22]),([18,23,12],[12,18,23]),([12,24],[12,24]),([25,12],[25]),([26],[26]),([27,26],[26,27]),([28,26],[26,28]),([29,26],[26,29]),([26],[26]),([31,26],[26,31]),([32,26],[26,32]),([33,26],[26,33]),([30,34,26],[26,30,34]),([35,26],[26,35]),([26,36],[26,36]),([37,26],[37]),([38],[38]),([38],[38]),([38],[38]),([40,41,38],[38,40,41]),([42,38],[38,42]),([43,38],[38,43]),([38],[38]),([38],[38]),([45,46,38],[38,45,46]),([47,38],[38,47]),([48,38],[38,48]),([44,49,38,38],[38,44,49]),([39,50,50,38],[38,39,50]),([51,38],[38,51]),([38,52],[38,52]),([53,51],[53]),([54],[54]),([55,54],[54,55]),([56,54],[54,56]),([54,57],[54,57])])
def laws_FnJoin.B19:List Nat:=[0,0,3,7,15,31,0,64,192,448,960,2047,4095,8191,8191,32767,65535,131071,262143,8191,532479,1581055,3678207,7872511,16777215,33554431,67108863,134217727,268435455,536870911,1073741823,134217727,2281701375,6576668671,15166603263,34359738367,68719476735,137438953471,274877906943,549755813887,549755813887,549755813887,3848290697215,8246337208319,17042430230527,549755813887,549755813887,106102872080383,246840360435711,528315337146367,1125350151028735,2251799813685247,4503599627370495,9007199254740991,18014398509481983,36028797018963967,72057594037927935,144115188075855871,288230376151711743]
theorem laws_FnJoin.tab19:rtab .any (opsOf Tryd.f6 19)=laws_FnJoin.T19:=by kernel_rfl
theorem laws_FnJoin.bits19:waitsOk laws_FnJoin.T19.2 laws_FnJoin.B19=true:=by kernel_rfl
set_option maxHeartbeats 8000000 in
set_option maxRecDepth 100000 in
noncomputable def laws_FnJoin.cut : PSigma fun G0 : Prop => PSigma fun G1 : Prop => PSigma fun G2 : Prop => PSigma fun G3 : Prop => PSigma fun G4 : Prop => PSigma fun G5 : Prop => ∀ (k : Nat) (A0 : Option Addr) (c0 : Nat) (l0 : List Int) (A1 : Option Addr) (c1 : Nat) (l1 : List Int) (r : Bool) (w : World) (hr0 : Kd.C (Kd.int .u8) w A0 l0.length l0) (hc0 : l0.length ≤ c0) (hr1 : Kd.C (Kd.int .u8) w A1 l1.length l1) (hc1 : l1.length ≤ c1) (h : laws_FnJoin.f k l0 l1 = some r) (hr_ : r = true) (hT : Lib.TabIs Tryd.prog w "internal/strconv.uint64pow10" .u64 Lib.pow10Tab := by first | exact TxtW.tab (TxtW.on HT0.out zhb) | exact tab_on HT0.out zhb), PLift G0 → PLift G1 → PLift G2 → PLift G3 → PLift G4 → PLift G5 → Calls Tryd.prog 6 #[.slice A0 l0.length c0,.slice A1 l1.length c1] w fun e w'=>e=.returned (.bool r)∧Below w.heap.size w w' := by
 apply PSigma.mk
 apply PSigma.mk
 apply PSigma.mk
 apply PSigma.mk
 apply PSigma.mk
 apply PSigma.mk
 ·intro k A0 c0 l0 A1 c1 l1 r w hr0 hc0 hr1 hc1 h hr_ hT hG0_ hG1_ hG2_ hG3_ hG4_ hG5_
  have HT0:=Aside0.mk hT
  clear hT
  have HR_:=Aside0.mk hr_
  clear hr_
  have HR0:=Aside0.mk hr0
  have HC0:=Aside0.mk hc0
  clear hr0 hc0
  have HR1:=Aside0.mk hr1
  have HC1:=Aside0.mk hc1
  clear hr1 hc1
  have HB:=Aside0.mk (Below.refl w.heap.size w)
  have H:(if (l0.length:Int) > 1048576 then (some true) else (if (l1.length:Int) > 1048576 then (some true) else ((spec_DrawJoinOf.f k l0).bind fun bt417=>((impl_JoinOf.f k bt417.1 bt417.2.1 bt417.2.2.1 bt417.2.2.2).bind fun bt425=>((spec_JoinOf.f k bt417.1 bt417.2.1 bt417.2.2.1 bt417.2.2.2).bind fun bt429=>(if (bt425.2 != bt429.2)=true then (some false) else ((impl_ZSame.f k bt425.1 bt429.1).bind fun t433=>(if t433=true then (if bt425.2=true then (laws_FnJoin.l0 k l1 bt417.1 bt417.2.1 bt417.2.2.1 bt417.2.2.2 bt425.1 0 0) else (some ((bt425.1.length:Int) == 0))) else (some false)))))))))=some r:=h
  clear h
  by_cases c3:(l0.length:Int) > 1048576
  ·rw [if_pos c3] at H
   have c3b0:decide (1048576 < (l0.length:Int))=true:=decide_eq_true c3
   have c3b1:decide (1048576 < l0.length)=true:=decide_eq_true (by omega)
   clear c3
   obtain rfl:=Option.some.inj H
   go_enter Tryd.func6,Tryd.ntmps6
   go_wp2
   go_ret
   exact ⟨by first|rfl|(rw [HR_.out];first|done|rfl)|(simp [errW_none,errW_some] <;> rfl)|(simp [*,errW_none,errW_some] <;> rfl),zhb⟩
  rw [if_neg c3] at H
  have c3b0:decide (1048576 < (l0.length:Int))=false:=decide_eq_false c3
  have c3b1:decide (1048576 < l0.length)=false:=decide_eq_false (by omega)
  clear c3
  by_cases c4:(l1.length:Int) > 1048576
  ·rw [if_pos c4] at H
   have c4b0:decide (1048576 < (l1.length:Int))=true:=decide_eq_true c4
   have c4b1:decide (1048576 < l1.length)=true:=decide_eq_true (by omega)
   clear c4
   obtain rfl:=Option.some.inj H
   go_enter Tryd.func6,Tryd.ntmps6
   go_wp2
   go_ret
   exact ⟨by first|rfl|(rw [HR_.out];first|done|rfl)|(simp [errW_none,errW_some] <;> rfl)|(simp [*,errW_none,errW_some] <;> rfl),zhb⟩
  rw [if_neg c4] at H
  have c4b0:decide (1048576 < (l1.length:Int))=false:=decide_eq_false c4
  have c4b1:decide (1048576 < l1.length)=false:=decide_eq_false (by omega)
  clear c4
  replace H:=Option.bind_eq_some_iff.mp H
  obtain ⟨⟨t417,t420,t423,t424⟩,A50,H⟩:=H
  (try dsimp only at H)
  have A5:=Aside0.mk A50
  clear A50
  replace H:=Option.bind_eq_some_iff.mp H
  obtain ⟨⟨t425,t426⟩,A60,H⟩:=H
  (try dsimp only at H)
  have A6:=Aside0.mk A60
  clear A60
  replace H:=Option.bind_eq_some_iff.mp H
  obtain ⟨⟨t429,t432⟩,A70,H⟩:=H
  (try dsimp only at H)
  have A7:=Aside0.mk A70
  clear A70
  by_cases c8:(t426 != t432)=true
  ·rw [if_pos c8] at H
   have c8b0:(t426 != t432)=true:=c8
   (try (have c8b1:decide (t426=t432)=false:=by simpa using c8))
   (try (have c8b2:(t426 == t432)=false:=by simpa using c8))
   (try (have c8b3 : ¬ (t426=t432):=by simpa using c8))
   clear c8
   exact absurd ((Option.some.inj H).trans HR_.out) (by decide)
  rw [if_neg c8] at H
  have c8b0:(t426 != t432)=false:=by simpa using c8
  (try (have c8b1:decide (t426=t432)=true:=by simpa using c8))
  (try (have c8b2:(t426 == t432)=true:=by simpa using c8))
  clear c8
  replace H:=Option.bind_eq_some_iff.mp H
  obtain ⟨t433,A90,H⟩:=H
  (try dsimp only at H)
  have A9:=Aside0.mk A90
  clear A90
  by_cases c10:t433=true
  rotate_left
  ·replace c10:=Bool.eq_false_iff.mpr c10
   subst c10
   have H1:(some false)=some r:=by rw [if_neg (show ¬ (false=true) by decide)] at H;exact H
   clear H
   have H:=H1
   clear H1
   exact absurd ((Option.some.inj H).trans HR_.out) (by decide)

  subst c10
  have H1:(if t426=true then (laws_FnJoin.l0 k l1 t417 t420 t423 t424 t425 0 0) else (some ((t425.length:Int) == 0)))=some r:=by rw [if_pos rfl] at H;exact H
  clear H
  have H:=H1
  clear H1
  by_cases c11:t426=true
  rotate_left
  ·replace c11:=Bool.eq_false_iff.mpr c11
   subst c11
   have H1:(some ((t425.length:Int) == 0))=some r:=by rw [if_neg (show ¬ (false=true) by decide)] at H;exact H
   clear H
   have H:=H1
   clear H1
   obtain rfl:=Option.some.inj H
   go_enter Tryd.func6,Tryd.ntmps6
   go_wp2_with (first|((with_reducible refine gate_callee (f:=7) rfl ?_);refine goesL_ (some 38) rfl rfl Tryd.func7 (by kernel_rfl) rfl #[.slice A0 l0.length c0] rfl zar ?_;(with_reducible refine (spec_DrawJoinOf.calls k _ _ l0 t417 t420 t423 t424 _ ?side1 ?side2 A5.out).mono ?_);(case side1=>exact zC HR0.out);(case side2=>exact HC0.out);rintro e w110 ⟨v418,v421,rfl,ho0,ho1,hb⟩;refine ⟨_,rfl,?_⟩;have n0_:=Aside0.mk (Kd.N_lower (Kd.N_mono (ok':=fun k_=>some k_≠(v421:Value).ownBlock) ho0 (fun k_ hk_=>hk_.2)) (below_size zhb));have n1_:=Aside0.mk (Kd.N_lower (Kd.N_mono (ok':=fun k_=>some k_≠(v418:Value).ownBlock) ho1 (fun k_ hk_=>hk_.2)) (below_size zhb));have n2_:=Aside0.mk (below_step zhb hb);clear HB;have HO419:=n0_;have HO422:=n1_;have HB:=n2_;clear n0_ n1_ n2_;(try clear hb);(try clear hb2);(try clear hk);(try clear hi);(try clear ho0);(try clear ho1);obtain ⟨Ao111,co111,eo111⟩:=Kd.N_slice HO419.out;subst eo111;obtain ⟨Ao112,co112,eo112⟩:=Kd.N_slice HO422.out;subst eo112)|((with_reducible refine gate_callee (f:=8) rfl ?_);refine goesL_ (some 48) rfl rfl Tryd.func8 (by kernel_rfl) rfl #[.slice Ao111 t417.length co111,.slice Ao112 t420.length co112,.int .i64 t423,.int .i64 t424] rfl zar ?_;(with_reducible refine (impl_JoinOf.calls k _ _ t417 _ _ t420 t423 t424 t425 false _ ?side1 ?side2 ?side3 ?side4 A6.out).mono ?_);(case side1=>exact zC (Kd.N_reads' HO419.out).2.2);(case side2=>exact (Kd.N_reads' HO419.out).2.1);(case side3=>exact zC (Kd.N_reads' HO422.out).2.2);(case side4=>exact (Kd.N_reads' HO422.out).2.1);rintro e w113 ⟨v427,rfl,ho0,hb⟩;refine ⟨_,rfl,?_⟩;have n0_:=Aside0.mk (Kd.N_elder' (zN HO419.out) (Kd.S_base ho0) hb);have n1_:=Aside0.mk (Kd.N_elder' (zN HO422.out) (Kd.S_base ho0) hb);have n2_:=Aside0.mk (Kd.N_lower (Kd.N_mono (ok':=fun k_=>some k_≠(.slice Ao111 t417.length co111:Value).ownBlock∧some k_≠(.slice Ao112 t420.length co112:Value).ownBlock) (Kd.S_N (Kd.S_bound ho0)) (fun k_ hk_=>⟨(Kd.fresh' (Kd.N_lt (zN HO419.out)) k_ hk_.2.1),(Kd.fresh' (Kd.N_lt (zN HO422.out)) k_ hk_.2.1)⟩)) (below_size zhb));have n3_:=Aside0.mk (below_step zhb hb);clear HO419;clear HO422;clear HB;have HO419:=n0_;have HO422:=n1_;have HO428:=n2_;have HB:=n3_;clear n0_ n1_ n2_ n3_;(try clear hb);(try clear hb2);(try clear hk);(try clear hi);(try clear ho0))|((with_reducible refine gate_callee (f:=9) rfl ?_);refine goesL_ (some 56) rfl rfl Tryd.func9 (by kernel_rfl) rfl #[.slice Ao111 t417.length co111,.slice Ao112 t420.length co112,.int .i64 t423,.int .i64 t424] rfl zar ?_;(with_reducible refine (spec_JoinOf.calls k _ _ t417 _ _ t420 t423 t424 t429 t432 _ ?side1 ?side2 ?side3 ?side4 A7.out).mono ?_);(case side1=>exact zC (Kd.N_reads' HO419.out).2.2);(case side2=>exact (Kd.N_reads' HO419.out).2.1);(case side3=>exact zC (Kd.N_reads' HO422.out).2.2);(case side4=>exact (Kd.N_reads' HO422.out).2.1);rintro e w114 ⟨v430,rfl,ho0,hb⟩;refine ⟨_,rfl,?_⟩;have n0_:=Aside0.mk (Kd.N_below (zN HO419.out) hb);have n1_:=Aside0.mk (Kd.N_below (zN HO422.out) hb);have n2_:=Aside0.mk (Kd.N_below (zN HO428.out) hb);have n3_:=Aside0.mk (Kd.V_lower (Kd.V_mono (ok':=fun k_=>some k_≠(.slice Ao111 t417.length co111:Value).ownBlock∧some k_≠(.slice Ao112 t420.length co112:Value).ownBlock∧some k_≠(v427:Value).ownBlock) ho0 (fun k_ hk_=>⟨(Kd.fresh' (Kd.N_lt (zN HO419.out)) k_ hk_),(Kd.fresh' (Kd.N_lt (zN HO422.out)) k_ hk_),(Kd.fresh' (Kd.N_lt (zN HO428.out)) k_ hk_)⟩)) (below_size zhb));have n4_:=Aside0.mk (below_step zhb hb);clear HO419;clear HO422;clear HO428;clear HB;have HO419:=n0_;have HO422:=n1_;have HO428:=n2_;have HO431:=n3_;have HB:=n4_;clear n0_ n1_ n2_ n3_ n4_;(try clear hb);(try clear hb2);(try clear hk);(try clear hi);(try clear ho0);obtain ⟨Ao115,co115,eo115⟩:=Kd.N_slice HO428.out;subst eo115;obtain ⟨Ao116,co116,eo116⟩:=Kd.V_slice HO431.out;subst eo116)|(go_at_call 10;(with_reducible refine (impl_ZSame.calls k _ _ t425 _ _ t429 true _ ?side1 ?side2 ?side3 ?side4 A9.out).mono ?_);(case side1=>exact zC (Kd.N_reads' HO428.out).2.2);(case side2=>exact (Kd.N_reads' HO428.out).2.1);(case side3=>repeat (first|exact (Kd.V_reads' HO431.out).2.2|(with_reducible refine Kd.C_alloc ?_ _)|(with_reducible refine Kd.C_drewN ?_ _)|(with_reducible refine Kd.C_drew ?_)));(case side4=>exact (Kd.V_reads' HO431.out).2.1);rintro e w117 ⟨rfl,hb⟩;have n0_:=Aside0.mk (Kd.N_below (zN HO419.out) hb);have n1_:=Aside0.mk (Kd.N_below (zN HO422.out) hb);have n2_:=Aside0.mk (Kd.N_below (zN HO428.out) hb);have n3_:=Aside0.mk (Kd.V_below (zV HO431.out) hb);have n4_:=Aside0.mk (below_step zhb hb);clear HO419;clear HO422;clear HO428;clear HO431;clear HB;have HO419:=n0_;have HO422:=n1_;have HO428:=n2_;have HO431:=n3_;have HB:=n4_;clear n0_ n1_ n2_ n3_ n4_;(try clear hb);(try clear hb2);(try clear hk);(try clear hi)))
   go_ret
   exact ⟨by first|rfl|(rw [HR_.out];first|done|rfl)|(simp [errW_none,errW_some] <;> rfl)|(simp [*,errW_none,errW_some] <;> rfl),zhb⟩
  subst c11
  have H1:(laws_FnJoin.l0 k l1 t417 t420 t423 t424 t425 0 0)=some r:=by rw [if_pos rfl] at H;exact H
  clear H
  have H:=H1
  clear H1
  have H':=Aside0.mk H
  clear H
  go_enter Tryd.func6,Tryd.ntmps6
  go_wp2_with (first|((with_reducible refine gate_callee (f:=7) rfl ?_);refine goesL_ (some 38) rfl rfl Tryd.func7 (by kernel_rfl) rfl #[.slice A0 l0.length c0] rfl zar ?_;(with_reducible refine (spec_DrawJoinOf.calls k _ _ l0 t417 t420 t423 t424 _ ?side1 ?side2 A5.out).mono ?_);(case side1=>exact zC HR0.out);(case side2=>exact HC0.out);rintro e w12 ⟨v418,v421,rfl,ho0,ho1,hb⟩;refine ⟨_,rfl,?_⟩;have n0_:=Aside0.mk (Kd.N_lower (Kd.N_mono (ok':=fun k_=>some k_≠(v421:Value).ownBlock) ho0 (fun k_ hk_=>hk_.2)) (below_size zhb));have n1_:=Aside0.mk (Kd.N_lower (Kd.N_mono (ok':=fun k_=>some k_≠(v418:Value).ownBlock) ho1 (fun k_ hk_=>hk_.2)) (below_size zhb));have n2_:=Aside0.mk (below_step zhb hb);clear HB;have HO419:=n0_;have HO422:=n1_;have HB:=n2_;clear n0_ n1_ n2_;(try clear hb);(try clear hb2);(try clear hk);(try clear hi);(try clear ho0);(try clear ho1);obtain ⟨Ao13,co13,eo13⟩:=Kd.N_slice HO419.out;subst eo13;obtain ⟨Ao14,co14,eo14⟩:=Kd.N_slice HO422.out;subst eo14)|((with_reducible refine gate_callee (f:=8) rfl ?_);refine goesL_ (some 48) rfl rfl Tryd.func8 (by kernel_rfl) rfl #[.slice Ao13 t417.length co13,.slice Ao14 t420.length co14,.int .i64 t423,.int .i64 t424] rfl zar ?_;(with_reducible refine (impl_JoinOf.calls k _ _ t417 _ _ t420 t423 t424 t425 true _ ?side1 ?side2 ?side3 ?side4 A6.out).mono ?_);(case side1=>exact zC (Kd.N_reads' HO419.out).2.2);(case side2=>exact (Kd.N_reads' HO419.out).2.1);(case side3=>exact zC (Kd.N_reads' HO422.out).2.2);(case side4=>exact (Kd.N_reads' HO422.out).2.1);rintro e w15 ⟨v427,rfl,ho0,hb⟩;refine ⟨_,rfl,?_⟩;have n0_:=Aside0.mk (Kd.N_elder' (zN HO419.out) (Kd.S_base ho0) hb);have n1_:=Aside0.mk (Kd.N_elder' (zN HO422.out) (Kd.S_base ho0) hb);have n2_:=Aside0.mk (Kd.N_lower (Kd.N_mono (ok':=fun k_=>some k_≠(.slice Ao13 t417.length co13:Value).ownBlock∧some k_≠(.slice Ao14 t420.length co14:Value).ownBlock) (Kd.S_N (Kd.S_bound ho0)) (fun k_ hk_=>⟨(Kd.fresh' (Kd.N_lt (zN HO419.out)) k_ hk_.2.1),(Kd.fresh' (Kd.N_lt (zN HO422.out)) k_ hk_.2.1)⟩)) (below_size zhb));have n3_:=Aside0.mk (below_step zhb hb);clear HO419;clear HO422;clear HB;have HO419:=n0_;have HO422:=n1_;have HO428:=n2_;have HB:=n3_;clear n0_ n1_ n2_ n3_;(try clear hb);(try clear hb2);(try clear hk);(try clear hi);(try clear ho0))|((with_reducible refine gate_callee (f:=9) rfl ?_);refine goesL_ (some 56) rfl rfl Tryd.func9 (by kernel_rfl) rfl #[.slice Ao13 t417.length co13,.slice Ao14 t420.length co14,.int .i64 t423,.int .i64 t424] rfl zar ?_;(with_reducible refine (spec_JoinOf.calls k _ _ t417 _ _ t420 t423 t424 t429 t432 _ ?side1 ?side2 ?side3 ?side4 A7.out).mono ?_);(case side1=>exact zC (Kd.N_reads' HO419.out).2.2);(case side2=>exact (Kd.N_reads' HO419.out).2.1);(case side3=>exact zC (Kd.N_reads' HO422.out).2.2);(case side4=>exact (Kd.N_reads' HO422.out).2.1);rintro e w16 ⟨v430,rfl,ho0,hb⟩;refine ⟨_,rfl,?_⟩;have n0_:=Aside0.mk (Kd.N_below (zN HO419.out) hb);have n1_:=Aside0.mk (Kd.N_below (zN HO422.out) hb);have n2_:=Aside0.mk (Kd.N_below (zN HO428.out) hb);have n3_:=Aside0.mk (Kd.V_lower (Kd.V_mono (ok':=fun k_=>some k_≠(.slice Ao13 t417.length co13:Value).ownBlock∧some k_≠(.slice Ao14 t420.length co14:Value).ownBlock∧some k_≠(v427:Value).ownBlock) ho0 (fun k_ hk_=>⟨(Kd.fresh' (Kd.N_lt (zN HO419.out)) k_ hk_),(Kd.fresh' (Kd.N_lt (zN HO422.out)) k_ hk_),(Kd.fresh' (Kd.N_lt (zN HO428.out)) k_ hk_)⟩)) (below_size zhb));have n4_:=Aside0.mk (below_step zhb hb);clear HO419;clear HO422;clear HO428;clear HB;have HO419:=n0_;have HO422:=n1_;have HO428:=n2_;have HO431:=n3_;have HB:=n4_;clear n0_ n1_ n2_ n3_ n4_;(try clear hb);(try clear hb2);(try clear hk);(try clear hi);(try clear ho0);obtain ⟨Ao17,co17,eo17⟩:=Kd.N_slice HO428.out;subst eo17;obtain ⟨Ao18,co18,eo18⟩:=Kd.V_slice HO431.out;subst eo18)|(go_at_call 10;(with_reducible refine (impl_ZSame.calls k _ _ t425 _ _ t429 true _ ?side1 ?side2 ?side3 ?side4 A9.out).mono ?_);(case side1=>exact zC (Kd.N_reads' HO428.out).2.2);(case side2=>exact (Kd.N_reads' HO428.out).2.1);(case side3=>repeat (first|exact (Kd.V_reads' HO431.out).2.2|(with_reducible refine Kd.C_alloc ?_ _)|(with_reducible refine Kd.C_drewN ?_ _)|(with_reducible refine Kd.C_drew ?_)));(case side4=>exact (Kd.V_reads' HO431.out).2.1);rintro e w19 ⟨rfl,hb⟩;have n0_:=Aside0.mk (Kd.N_below (zN HO419.out) hb);have n1_:=Aside0.mk (Kd.N_below (zN HO422.out) hb);have n2_:=Aside0.mk (Kd.N_below (zN HO428.out) hb);have n3_:=Aside0.mk (Kd.V_below (zV HO431.out) hb);have n4_:=Aside0.mk (below_step zhb hb);clear HO419;clear HO422;clear HO428;clear HO431;clear HB;have HO419:=n0_;have HO422:=n1_;have HO428:=n2_;have HO431:=n3_;have HB:=n4_;clear n0_ n1_ n2_ n3_ n4_;(try clear hb);(try clear hb2);(try clear hk);(try clear hi)))
  go_loopg [13,14] k (fun kq v13 v14 w'=>∃ (x13_1:Int) (x14_1:Int),v13=.int .i64 x13_1∧v14=.int .i64 x14_1∧Aside0 (laws_FnJoin.l0 kq l1 t417 t420 t423 t424 t425 x13_1 x14_1=some r)∧Aside0 (kq≤k)∧Aside0 (Kd.N k31 31 w' w.heap.size (fun k_=>some k_≠((.slice Ao14 t420.length co14):Value).ownBlock∧some k_≠((.slice Ao17 t425.length co17):Value).ownBlock) (.slice Ao13 t417.length co13) t417)∧Aside0 (Kd.N k31 31 w' w.heap.size (fun k_=>some k_≠((.slice Ao13 t417.length co13):Value).ownBlock∧some k_≠((.slice Ao17 t425.length co17):Value).ownBlock) (.slice Ao14 t420.length co14) t420)∧Aside0 (Kd.N k31 31 w' w.heap.size (fun k_=>some k_≠((.slice Ao13 t417.length co13):Value).ownBlock∧some k_≠((.slice Ao14 t420.length co14):Value).ownBlock) (.slice Ao17 t425.length co17) t425)∧Aside0 (Below w.heap.size w w'))
  case atStart=>exact ⟨(0),(0),(by first|rfl|(rw [HR_.out];first|done|rfl)|(simp;done)|(simp [*];done)),(by first|rfl|(rw [HR_.out];first|done|rfl)|(simp;done)|(simp [*];done)),H',⟨Nat.le_refl _⟩,⟨by (with_reducible repeat (first|apply Kd.N_alloc|apply Kd.N_drewN|apply Kd.N_drew));exact HO419.out⟩,⟨by (with_reducible repeat (first|apply Kd.N_alloc|apply Kd.N_drewN|apply Kd.N_drew));exact HO422.out⟩,⟨by (with_reducible repeat (first|apply Kd.N_alloc|apply Kd.N_drewN|apply Kd.N_drew));exact HO428.out⟩,⟨zhb⟩⟩
  case round =>
   clear H'
   try clear c1
   try clear p2
   try clear c3
   try clear c3b0
   try clear c3b1
   try clear c4
   try clear c4b0
   try clear c4b1
   try clear c6
   try clear c7
   try clear c8
   try clear c8b0
   try clear c8b1
   try clear c8b2
   try clear c9
   try clear c10
   try clear c11
   obtain ⟨x13_1,x14_1,rfl,rfl,HA,HK1,HO_5,HO_6,HO_9,HB⟩:=hrel
   cases gk with
   | zero=>exact absurd HA.out (by simp [laws_FnJoin.l0])
   | succ k1 =>
    have H:=HA.out
    clear HA
    simp only [laws_FnJoin.l0] at H
    by_cases c20:x14_1 < (t417.length:Int)
    rotate_left
    ·rw [if_neg c20] at H
     have c20b0:decide (x14_1 < (t417.length:Int))=false:=decide_eq_false c20
     clear c20
     replace H:=Option.bind_eq_some_iff.mp H
     obtain ⟨⟨t450,t453,t456,t457⟩,A560,H⟩:=H
     (try dsimp only at H)
     have A56:=Aside0.mk A560
     clear A560
     replace H:=Option.bind_eq_some_iff.mp H
     obtain ⟨⟨t458,t459⟩,A570,H⟩:=H
     (try dsimp only at H)
     have A57:=Aside0.mk A570
     clear A570
     replace H:=Option.bind_eq_some_iff.mp H
     obtain ⟨⟨t462,t463⟩,A580,H⟩:=H
     (try dsimp only at H)
     have A58:=Aside0.mk A580
     clear A580
     replace H:=Option.bind_eq_some_iff.mp H
     obtain ⟨⟨t466,t467⟩,A590,H⟩:=H
     (try dsimp only at H)
     have A59:=Aside0.mk A590
     clear A590
     replace H:=Option.bind_eq_some_iff.mp H
     obtain ⟨⟨t470,t471⟩,A600,H⟩:=H
     (try dsimp only at H)
     have A60:=Aside0.mk A600
     clear A600
     by_cases c61:(t425.length:Int)≤x13_1
     rotate_left
     ·rw [if_neg c61] at H
      have c61b0:decide ((t425.length:Int)≤x13_1)=false:=decide_eq_false c61
      clear c61
      exact absurd ((Option.some.inj H).trans HR_.out) (by decide)
     rw [if_pos c61] at H
     have c61b0:decide ((t425.length:Int)≤x13_1)=true:=decide_eq_true c61
     clear c61
     by_cases c62:t459=true
     rotate_left
     ·replace c62:=Bool.eq_false_iff.mpr c62
      subst c62
      have H1:(some true)=some r:=by rw [if_neg (show ¬ (false=true) by decide)] at H;exact H
      clear H
      have H:=H1
      clear H1
      obtain rfl:=Option.some.inj H
      go_wp2_with (first|((with_reducible refine gate_callee (f:=7) rfl ?_);refine goesL_ (some 165) rfl rfl Tryd.func7 (by kernel_rfl) rfl #[.slice A1 l1.length c1] rfl zar ?_;(with_reducible refine (spec_DrawJoinOf.calls k1 _ _ l1 t450 t453 t456 t457 _ ?side1 ?side2 A56.out).mono ?_);(case side1=>exact zC (Kd.C_below HR1.out HB.out));(case side2=>exact HC1.out);rintro e w102 ⟨v451,v454,rfl,ho0,ho1,hb⟩;refine ⟨_,rfl,?_⟩;have n0_:=Aside0.mk (Kd.N_mono (Kd.N_told (Kd.N_told (Kd.N_old (zN HO_5.out) hb) (Kd.N_base ho0)) (Kd.N_base ho1)) (fun _ h_=>h_.1));have n1_:=Aside0.mk (Kd.N_mono (Kd.N_told (Kd.N_told (Kd.N_old (zN HO_6.out) hb) (Kd.N_base ho0)) (Kd.N_base ho1)) (fun _ h_=>h_.1));have n2_:=Aside0.mk (Kd.N_mono (Kd.N_told (Kd.N_told (Kd.N_old (zN HO_9.out) hb) (Kd.N_base ho0)) (Kd.N_base ho1)) (fun _ h_=>h_.1));have n3_:=Aside0.mk (Kd.N_lower (Kd.N_mono (ok':=fun k_=>some k_≠(v454:Value).ownBlock∧some k_≠(.slice Ao13 t417.length co13:Value).ownBlock∧some k_≠(.slice Ao14 t420.length co14:Value).ownBlock∧some k_≠(.slice Ao17 t425.length co17:Value).ownBlock) ho0 (fun k_ hk_=>⟨hk_.2,(Kd.fresh' (Kd.N_lt (zN HO_5.out)) k_ hk_.1),(Kd.fresh' (Kd.N_lt (zN HO_6.out)) k_ hk_.1),(Kd.fresh' (Kd.N_lt (zN HO_9.out)) k_ hk_.1)⟩)) (below_size zhb));have n4_:=Aside0.mk (Kd.N_lower (Kd.N_mono (ok':=fun k_=>some k_≠(v451:Value).ownBlock∧some k_≠(.slice Ao13 t417.length co13:Value).ownBlock∧some k_≠(.slice Ao14 t420.length co14:Value).ownBlock∧some k_≠(.slice Ao17 t425.length co17:Value).ownBlock) ho1 (fun k_ hk_=>⟨hk_.2,(Kd.fresh' (Kd.N_lt (zN HO_5.out)) k_ hk_.1),(Kd.fresh' (Kd.N_lt (zN HO_6.out)) k_ hk_.1),(Kd.fresh' (Kd.N_lt (zN HO_9.out)) k_ hk_.1)⟩)) (below_size zhb));have n5_:=Aside0.mk (below_step zhb hb);clear HO_5;clear HO_6;clear HO_9;clear HB;have HO_5:=n0_;have HO_6:=n1_;have HO_9:=n2_;have HO452:=n3_;have HO455:=n4_;have HB:=n5_;clear n0_ n1_ n2_ n3_ n4_ n5_;(try clear hb);(try clear hb2);(try clear hk);(try clear hi);(try clear ho0);(try clear ho1);obtain ⟨Ao103,co103,eo103⟩:=Kd.N_slice HO452.out;subst eo103)|((with_reducible refine gate_callee (f:=19) rfl ?_);refine goesL_ (some 173) rfl rfl Tryd.func19 (by kernel_rfl) rfl #[.slice Ao14 t420.length co14,.slice Ao103 t450.length co103] rfl zar ?_;(with_reducible refine (impl_ZAdd.calls k1 _ _ t420 _ _ t450 t458 false _ ?side1 ?side2 ?side3 ?side4 A57.out).mono ?_);(case side1=>exact zC (Kd.N_reads' HO_6.out).2.2);(case side2=>exact (Kd.N_reads' HO_6.out).2.1);(case side3=>exact zC (Kd.N_reads' HO452.out).2.2);(case side4=>exact (Kd.N_reads' HO452.out).2.1);rintro e w104 ⟨v460,rfl,ho0,hb⟩;refine ⟨_,rfl,?_⟩;have n0_:=Aside0.mk (Kd.N_elder' (zN HO_5.out) (Kd.S_base ho0) hb);have n1_:=Aside0.mk (Kd.N_elder' (zN HO_6.out) (Kd.S_base ho0) hb);have n2_:=Aside0.mk (Kd.N_elder' (zN HO_9.out) (Kd.S_base ho0) hb);have n3_:=Aside0.mk (Kd.N_elder' (zN HO452.out) (Kd.S_base ho0) hb);have n4_:=Aside0.mk (Kd.N_elder' (zN HO455.out) (Kd.S_base ho0) hb);have n5_:=Aside0.mk (Kd.N_lower (Kd.N_mono (ok':=fun k_=>some k_≠(.slice Ao13 t417.length co13:Value).ownBlock∧some k_≠(.slice Ao14 t420.length co14:Value).ownBlock∧some k_≠(.slice Ao17 t425.length co17:Value).ownBlock∧some k_≠(.slice Ao103 t450.length co103:Value).ownBlock∧some k_≠(v454:Value).ownBlock) (Kd.S_N (Kd.S_bound ho0)) (fun k_ hk_=>⟨(Kd.fresh' (Kd.N_lt (zN HO_5.out)) k_ hk_.2.1),(Kd.fresh' (Kd.N_lt (zN HO_6.out)) k_ hk_.2.1),(Kd.fresh' (Kd.N_lt (zN HO_9.out)) k_ hk_.2.1),(Kd.fresh' (Kd.N_lt (zN HO452.out)) k_ hk_.2.1),(Kd.fresh' (Kd.N_lt (zN HO455.out)) k_ hk_.2.1)⟩)) (below_size zhb));have n6_:=Aside0.mk (below_step zhb hb);clear HO_5;clear HO_6;clear HO_9;clear HO452;clear HO455;clear HB;have HO_5:=n0_;have HO_6:=n1_;have HO_9:=n2_;have HO452:=n3_;have HO455:=n4_;have HO461:=n5_;have HB:=n6_;clear n0_ n1_ n2_ n3_ n4_ n5_ n6_;(try clear hb);(try clear hb2);(try clear hk);(try clear hi);(try clear ho0))|((with_reducible refine gate_callee (f:=8) rfl ?_);refine goesL_ (some 181) rfl rfl Tryd.func8 (by kernel_rfl) rfl #[.slice Ao13 t417.length co13,.slice Ao103 t450.length co103,.int .i64 t423,.int .i64 t424] rfl zar ?_;(with_reducible refine (impl_JoinOf.calls k1 _ _ t417 _ _ t450 t423 t424 t462 t463 _ ?side1 ?side2 ?side3 ?side4 A58.out).mono ?_);(case side1=>exact zC (Kd.N_reads' HO_5.out).2.2);(case side2=>exact (Kd.N_reads' HO_5.out).2.1);(case side3=>exact zC (Kd.N_reads' HO452.out).2.2);(case side4=>exact (Kd.N_reads' HO452.out).2.1);rintro e w105 ⟨v464,rfl,ho0,hb⟩;refine ⟨_,rfl,?_⟩;have n0_:=Aside0.mk (Kd.N_elder' (zN HO_5.out) (Kd.S_base ho0) hb);have n1_:=Aside0.mk (Kd.N_elder' (zN HO_6.out) (Kd.S_base ho0) hb);have n2_:=Aside0.mk (Kd.N_elder' (zN HO_9.out) (Kd.S_base ho0) hb);have n3_:=Aside0.mk (Kd.N_elder' (zN HO452.out) (Kd.S_base ho0) hb);have n4_:=Aside0.mk (Kd.N_elder' (zN HO455.out) (Kd.S_base ho0) hb);have n5_:=Aside0.mk (Kd.N_elder' (zN HO461.out) (Kd.S_base ho0) hb);have n6_:=Aside0.mk (Kd.N_lower (Kd.N_mono (ok':=fun k_=>some k_≠(.slice Ao13 t417.length co13:Value).ownBlock∧some k_≠(.slice Ao14 t420.length co14:Value).ownBlock∧some k_≠(.slice Ao17 t425.length co17:Value).ownBlock∧some k_≠(.slice Ao103 t450.length co103:Value).ownBlock∧some k_≠(v454:Value).ownBlock∧some k_≠(v460:Value).ownBlock) (Kd.S_N (Kd.S_bound ho0)) (fun k_ hk_=>⟨(Kd.fresh' (Kd.N_lt (zN HO_5.out)) k_ hk_.2.1),(Kd.fresh' (Kd.N_lt (zN HO_6.out)) k_ hk_.2.1),(Kd.fresh' (Kd.N_lt (zN HO_9.out)) k_ hk_.2.1),(Kd.fresh' (Kd.N_lt (zN HO452.out)) k_ hk_.2.1),(Kd.fresh' (Kd.N_lt (zN HO455.out)) k_ hk_.2.1),(Kd.fresh' (Kd.N_lt (zN HO461.out)) k_ hk_.2.1)⟩)) (below_size zhb));have n7_:=Aside0.mk (below_step zhb hb);clear HO_5;clear HO_6;clear HO_9;clear HO452;clear HO455;clear HO461;clear HB;have HO_5:=n0_;have HO_6:=n1_;have HO_9:=n2_;have HO452:=n3_;have HO455:=n4_;have HO461:=n5_;have HO465:=n6_;have HB:=n7_;clear n0_ n1_ n2_ n3_ n4_ n5_ n6_ n7_;(try clear hb);(try clear hb2);(try clear hk);(try clear hi);(try clear ho0);obtain ⟨Ao106,co106,eo106⟩:=Kd.N_slice HO461.out;subst eo106)|((with_reducible refine gate_callee (f:=8) rfl ?_);refine goesL_ (some 189) rfl rfl Tryd.func8 (by kernel_rfl) rfl #[.slice Ao13 t417.length co13,.slice Ao106 t458.length co106,.int .i64 t423,.int .i64 t424] rfl zar ?_;(with_reducible refine (impl_JoinOf.calls k1 _ _ t417 _ _ t458 t423 t424 t466 t467 _ ?side1 ?side2 ?side3 ?side4 A59.out).mono ?_);(case side1=>exact zC (Kd.N_reads' HO_5.out).2.2);(case side2=>exact (Kd.N_reads' HO_5.out).2.1);(case side3=>exact zC (Kd.N_reads' HO461.out).2.2);(case side4=>exact (Kd.N_reads' HO461.out).2.1);rintro e w107 ⟨v468,rfl,ho0,hb⟩;refine ⟨_,rfl,?_⟩;have n0_:=Aside0.mk (Kd.N_elder' (zN HO_5.out) (Kd.S_base ho0) hb);have n1_:=Aside0.mk (Kd.N_elder' (zN HO_6.out) (Kd.S_base ho0) hb);have n2_:=Aside0.mk (Kd.N_elder' (zN HO_9.out) (Kd.S_base ho0) hb);have n3_:=Aside0.mk (Kd.N_elder' (zN HO452.out) (Kd.S_base ho0) hb);have n4_:=Aside0.mk (Kd.N_elder' (zN HO455.out) (Kd.S_base ho0) hb);have n5_:=Aside0.mk (Kd.N_elder' (zN HO461.out) (Kd.S_base ho0) hb);have n6_:=Aside0.mk (Kd.N_elder' (zN HO465.out) (Kd.S_base ho0) hb);have n7_:=Aside0.mk (Kd.N_lower (Kd.N_mono (ok':=fun k_=>some k_≠(.slice Ao13 t417.length co13:Value).ownBlock∧some k_≠(.slice Ao14 t420.length co14:Value).ownBlock∧some k_≠(.slice Ao17 t425.length co17:Value).ownBlock∧some k_≠(.slice Ao103 t450.length co103:Value).ownBlock∧some k_≠(v454:Value).ownBlock∧some k_≠(.slice Ao106 t458.length co106:Value).ownBlock∧some k_≠(v464:Value).ownBlock) (Kd.S_N (Kd.S_bound ho0)) (fun k_ hk_=>⟨(Kd.fresh' (Kd.N_lt (zN HO_5.out)) k_ hk_.2.1),(Kd.fresh' (Kd.N_lt (zN HO_6.out)) k_ hk_.2.1),(Kd.fresh' (Kd.N_lt (zN HO_9.out)) k_ hk_.2.1),(Kd.fresh' (Kd.N_lt (zN HO452.out)) k_ hk_.2.1),(Kd.fresh' (Kd.N_lt (zN HO455.out)) k_ hk_.2.1),(Kd.fresh' (Kd.N_lt (zN HO461.out)) k_ hk_.2.1),(Kd.fresh' (Kd.N_lt (zN HO465.out)) k_ hk_.2.1)⟩)) (below_size zhb));have n8_:=Aside0.mk (below_step zhb hb);clear HO_5;clear HO_6;clear HO_9;clear HO452;clear HO455;clear HO461;clear HO465;clear HB;have HO_5:=n0_;have HO_6:=n1_;have HO_9:=n2_;have HO452:=n3_;have HO455:=n4_;have HO461:=n5_;have HO465:=n6_;have HO469:=n7_;have HB:=n8_;clear n0_ n1_ n2_ n3_ n4_ n5_ n6_ n7_ n8_;(try clear hb);(try clear hb2);(try clear hk);(try clear hi);(try clear ho0);obtain ⟨Ao108,co108,eo108⟩:=Kd.N_slice HO465.out;subst eo108)|((with_reducible refine gate_callee (f:=19) rfl ?_);refine goesL_ (some 195) rfl rfl Tryd.func19 (by kernel_rfl) rfl #[.slice Ao17 t425.length co17,.slice Ao108 t462.length co108] rfl zar ?_;(with_reducible refine (impl_ZAdd.calls k1 _ _ t425 _ _ t462 t470 t471 _ ?side1 ?side2 ?side3 ?side4 A60.out).mono ?_);(case side1=>exact zC (Kd.N_reads' HO_9.out).2.2);(case side2=>exact (Kd.N_reads' HO_9.out).2.1);(case side3=>exact zC (Kd.N_reads' HO465.out).2.2);(case side4=>exact (Kd.N_reads' HO465.out).2.1);rintro e w109 ⟨v472,rfl,ho0,hb⟩;refine ⟨_,rfl,?_⟩;have n0_:=Aside0.mk (Kd.N_elder' (zN HO_5.out) (Kd.S_base ho0) hb);have n1_:=Aside0.mk (Kd.N_elder' (zN HO_6.out) (Kd.S_base ho0) hb);have n2_:=Aside0.mk (Kd.N_elder' (zN HO_9.out) (Kd.S_base ho0) hb);have n3_:=Aside0.mk (Kd.N_elder' (zN HO452.out) (Kd.S_base ho0) hb);have n4_:=Aside0.mk (Kd.N_elder' (zN HO455.out) (Kd.S_base ho0) hb);have n5_:=Aside0.mk (Kd.N_elder' (zN HO461.out) (Kd.S_base ho0) hb);have n6_:=Aside0.mk (Kd.N_elder' (zN HO465.out) (Kd.S_base ho0) hb);have n7_:=Aside0.mk (Kd.N_elder' (zN HO469.out) (Kd.S_base ho0) hb);have n8_:=Aside0.mk (Kd.N_lower (Kd.N_mono (ok':=fun k_=>some k_≠(.slice Ao13 t417.length co13:Value).ownBlock∧some k_≠(.slice Ao14 t420.length co14:Value).ownBlock∧some k_≠(.slice Ao17 t425.length co17:Value).ownBlock∧some k_≠(.slice Ao103 t450.length co103:Value).ownBlock∧some k_≠(v454:Value).ownBlock∧some k_≠(.slice Ao106 t458.length co106:Value).ownBlock∧some k_≠(.slice Ao108 t462.length co108:Value).ownBlock∧some k_≠(v468:Value).ownBlock) (Kd.S_N (Kd.S_bound ho0)) (fun k_ hk_=>⟨(Kd.fresh' (Kd.N_lt (zN HO_5.out)) k_ hk_.2.1),(Kd.fresh' (Kd.N_lt (zN HO_6.out)) k_ hk_.2.1),(Kd.fresh' (Kd.N_lt (zN HO_9.out)) k_ hk_.2.1),(Kd.fresh' (Kd.N_lt (zN HO452.out)) k_ hk_.2.1),(Kd.fresh' (Kd.N_lt (zN HO455.out)) k_ hk_.2.1),(Kd.fresh' (Kd.N_lt (zN HO461.out)) k_ hk_.2.1),(Kd.fresh' (Kd.N_lt (zN HO465.out)) k_ hk_.2.1),(Kd.fresh' (Kd.N_lt (zN HO469.out)) k_ hk_.2.1)⟩)) (below_size zhb));have n9_:=Aside0.mk (below_step zhb hb);clear HO_5;clear HO_6;clear HO_9;clear HO452;clear HO455;clear HO461;clear HO465;clear HO469;clear HB;have HO_5:=n0_;have HO_6:=n1_;have HO_9:=n2_;have HO452:=n3_;have HO455:=n4_;have HO461:=n5_;have HO465:=n6_;have HO469:=n7_;have HO473:=n8_;have HB:=n9_;clear n0_ n1_ n2_ n3_ n4_ n5_ n6_ n7_ n8_ n9_;(try clear hb);(try clear hb2);(try clear hk);(try clear hi);(try clear ho0)))
      go_ret
      exact ⟨by first|rfl|(rw [HR_.out];first|done|rfl)|(simp [errW_none,errW_some] <;> rfl)|(simp [*,errW_none,errW_some] <;> rfl),zhb⟩
     subst c62
     have H1:(if t463=true then (if t467=true then (if t471=true then ((impl_ZSame.f k1 t470 t466).bind fun t474=>(some t474)) else (some true)) else (some true)) else (some true))=some r:=by rw [if_pos rfl] at H;exact H
     clear H
     have H:=H1
     clear H1
     by_cases c63:t463=true
     rotate_left
     ·replace c63:=Bool.eq_false_iff.mpr c63
      subst c63
      have H1:(some true)=some r:=by rw [if_neg (show ¬ (false=true) by decide)] at H;exact H
      clear H
      have H:=H1
      clear H1
      obtain rfl:=Option.some.inj H
      go_wp2_with (first|((with_reducible refine gate_callee (f:=7) rfl ?_);refine goesL_ (some 165) rfl rfl Tryd.func7 (by kernel_rfl) rfl #[.slice A1 l1.length c1] rfl zar ?_;(with_reducible refine (spec_DrawJoinOf.calls k1 _ _ l1 t450 t453 t456 t457 _ ?side1 ?side2 A56.out).mono ?_);(case side1=>exact zC (Kd.C_below HR1.out HB.out));(case side2=>exact HC1.out);rintro e w94 ⟨v451,v454,rfl,ho0,ho1,hb⟩;refine ⟨_,rfl,?_⟩;have n0_:=Aside0.mk (Kd.N_mono (Kd.N_told (Kd.N_told (Kd.N_old (zN HO_5.out) hb) (Kd.N_base ho0)) (Kd.N_base ho1)) (fun _ h_=>h_.1));have n1_:=Aside0.mk (Kd.N_mono (Kd.N_told (Kd.N_told (Kd.N_old (zN HO_6.out) hb) (Kd.N_base ho0)) (Kd.N_base ho1)) (fun _ h_=>h_.1));have n2_:=Aside0.mk (Kd.N_mono (Kd.N_told (Kd.N_told (Kd.N_old (zN HO_9.out) hb) (Kd.N_base ho0)) (Kd.N_base ho1)) (fun _ h_=>h_.1));have n3_:=Aside0.mk (Kd.N_lower (Kd.N_mono (ok':=fun k_=>some k_≠(v454:Value).ownBlock∧some k_≠(.slice Ao13 t417.length co13:Value).ownBlock∧some k_≠(.slice Ao14 t420.length co14:Value).ownBlock∧some k_≠(.slice Ao17 t425.length co17:Value).ownBlock) ho0 (fun k_ hk_=>⟨hk_.2,(Kd.fresh' (Kd.N_lt (zN HO_5.out)) k_ hk_.1),(Kd.fresh' (Kd.N_lt (zN HO_6.out)) k_ hk_.1),(Kd.fresh' (Kd.N_lt (zN HO_9.out)) k_ hk_.1)⟩)) (below_size zhb));have n4_:=Aside0.mk (Kd.N_lower (Kd.N_mono (ok':=fun k_=>some k_≠(v451:Value).ownBlock∧some k_≠(.slice Ao13 t417.length co13:Value).ownBlock∧some k_≠(.slice Ao14 t420.length co14:Value).ownBlock∧some k_≠(.slice Ao17 t425.length co17:Value).ownBlock) ho1 (fun k_ hk_=>⟨hk_.2,(Kd.fresh' (Kd.N_lt (zN HO_5.out)) k_ hk_.1),(Kd.fresh' (Kd.N_lt (zN HO_6.out)) k_ hk_.1),(Kd.fresh' (Kd.N_lt (zN HO_9.out)) k_ hk_.1)⟩)) (below_size zhb));have n5_:=Aside0.mk (below_step zhb hb);clear HO_5;clear HO_6;clear HO_9;clear HB;have HO_5:=n0_;have HO_6:=n1_;have HO_9:=n2_;have HO452:=n3_;have HO455:=n4_;have HB:=n5_;clear n0_ n1_ n2_ n3_ n4_ n5_;(try clear hb);(try clear hb2);(try clear hk);(try clear hi);(try clear ho0);(try clear ho1);obtain ⟨Ao95,co95,eo95⟩:=Kd.N_slice HO452.out;subst eo95)|((with_reducible refine gate_callee (f:=19) rfl ?_);refine goesL_ (some 173) rfl rfl Tryd.func19 (by kernel_rfl) rfl #[.slice Ao14 t420.length co14,.slice Ao95 t450.length co95] rfl zar ?_;(with_reducible refine (impl_ZAdd.calls k1 _ _ t420 _ _ t450 t458 true _ ?side1 ?side2 ?side3 ?side4 A57.out).mono ?_);(case side1=>exact zC (Kd.N_reads' HO_6.out).2.2);(case side2=>exact (Kd.N_reads' HO_6.out).2.1);(case side3=>exact zC (Kd.N_reads' HO452.out).2.2);(case side4=>exact (Kd.N_reads' HO452.out).2.1);rintro e w96 ⟨v460,rfl,ho0,hb⟩;refine ⟨_,rfl,?_⟩;have n0_:=Aside0.mk (Kd.N_elder' (zN HO_5.out) (Kd.S_base ho0) hb);have n1_:=Aside0.mk (Kd.N_elder' (zN HO_6.out) (Kd.S_base ho0) hb);have n2_:=Aside0.mk (Kd.N_elder' (zN HO_9.out) (Kd.S_base ho0) hb);have n3_:=Aside0.mk (Kd.N_elder' (zN HO452.out) (Kd.S_base ho0) hb);have n4_:=Aside0.mk (Kd.N_elder' (zN HO455.out) (Kd.S_base ho0) hb);have n5_:=Aside0.mk (Kd.N_lower (Kd.N_mono (ok':=fun k_=>some k_≠(.slice Ao13 t417.length co13:Value).ownBlock∧some k_≠(.slice Ao14 t420.length co14:Value).ownBlock∧some k_≠(.slice Ao17 t425.length co17:Value).ownBlock∧some k_≠(.slice Ao95 t450.length co95:Value).ownBlock∧some k_≠(v454:Value).ownBlock) (Kd.S_N (Kd.S_bound ho0)) (fun k_ hk_=>⟨(Kd.fresh' (Kd.N_lt (zN HO_5.out)) k_ hk_.2.1),(Kd.fresh' (Kd.N_lt (zN HO_6.out)) k_ hk_.2.1),(Kd.fresh' (Kd.N_lt (zN HO_9.out)) k_ hk_.2.1),(Kd.fresh' (Kd.N_lt (zN HO452.out)) k_ hk_.2.1),(Kd.fresh' (Kd.N_lt (zN HO455.out)) k_ hk_.2.1)⟩)) (below_size zhb));have n6_:=Aside0.mk (below_step zhb hb);clear HO_5;clear HO_6;clear HO_9;clear HO452;clear HO455;clear HB;have HO_5:=n0_;have HO_6:=n1_;have HO_9:=n2_;have HO452:=n3_;have HO455:=n4_;have HO461:=n5_;have HB:=n6_;clear n0_ n1_ n2_ n3_ n4_ n5_ n6_;(try clear hb);(try clear hb2);(try clear hk);(try clear hi);(try clear ho0))|((with_reducible refine gate_callee (f:=8) rfl ?_);refine goesL_ (some 181) rfl rfl Tryd.func8 (by kernel_rfl) rfl #[.slice Ao13 t417.length co13,.slice Ao95 t450.length co95,.int .i64 t423,.int .i64 t424] rfl zar ?_;(with_reducible refine (impl_JoinOf.calls k1 _ _ t417 _ _ t450 t423 t424 t462 false _ ?side1 ?side2 ?side3 ?side4 A58.out).mono ?_);(case side1=>exact zC (Kd.N_reads' HO_5.out).2.2);(case side2=>exact (Kd.N_reads' HO_5.out).2.1);(case side3=>exact zC (Kd.N_reads' HO452.out).2.2);(case side4=>exact (Kd.N_reads' HO452.out).2.1);rintro e w97 ⟨v464,rfl,ho0,hb⟩;refine ⟨_,rfl,?_⟩;have n0_:=Aside0.mk (Kd.N_elder' (zN HO_5.out) (Kd.S_base ho0) hb);have n1_:=Aside0.mk (Kd.N_elder' (zN HO_6.out) (Kd.S_base ho0) hb);have n2_:=Aside0.mk (Kd.N_elder' (zN HO_9.out) (Kd.S_base ho0) hb);have n3_:=Aside0.mk (Kd.N_elder' (zN HO452.out) (Kd.S_base ho0) hb);have n4_:=Aside0.mk (Kd.N_elder' (zN HO455.out) (Kd.S_base ho0) hb);have n5_:=Aside0.mk (Kd.N_elder' (zN HO461.out) (Kd.S_base ho0) hb);have n6_:=Aside0.mk (Kd.N_lower (Kd.N_mono (ok':=fun k_=>some k_≠(.slice Ao13 t417.length co13:Value).ownBlock∧some k_≠(.slice Ao14 t420.length co14:Value).ownBlock∧some k_≠(.slice Ao17 t425.length co17:Value).ownBlock∧some k_≠(.slice Ao95 t450.length co95:Value).ownBlock∧some k_≠(v454:Value).ownBlock∧some k_≠(v460:Value).ownBlock) (Kd.S_N (Kd.S_bound ho0)) (fun k_ hk_=>⟨(Kd.fresh' (Kd.N_lt (zN HO_5.out)) k_ hk_.2.1),(Kd.fresh' (Kd.N_lt (zN HO_6.out)) k_ hk_.2.1),(Kd.fresh' (Kd.N_lt (zN HO_9.out)) k_ hk_.2.1),(Kd.fresh' (Kd.N_lt (zN HO452.out)) k_ hk_.2.1),(Kd.fresh' (Kd.N_lt (zN HO455.out)) k_ hk_.2.1),(Kd.fresh' (Kd.N_lt (zN HO461.out)) k_ hk_.2.1)⟩)) (below_size zhb));have n7_:=Aside0.mk (below_step zhb hb);clear HO_5;clear HO_6;clear HO_9;clear HO452;clear HO455;clear HO461;clear HB;have HO_5:=n0_;have HO_6:=n1_;have HO_9:=n2_;have HO452:=n3_;have HO455:=n4_;have HO461:=n5_;have HO465:=n6_;have HB:=n7_;clear n0_ n1_ n2_ n3_ n4_ n5_ n6_ n7_;(try clear hb);(try clear hb2);(try clear hk);(try clear hi);(try clear ho0);obtain ⟨Ao98,co98,eo98⟩:=Kd.N_slice HO461.out;subst eo98)|((with_reducible refine gate_callee (f:=8) rfl ?_);refine goesL_ (some 189) rfl rfl Tryd.func8 (by kernel_rfl) rfl #[.slice Ao13 t417.length co13,.slice Ao98 t458.length co98,.int .i64 t423,.int .i64 t424] rfl zar ?_;(with_reducible refine (impl_JoinOf.calls k1 _ _ t417 _ _ t458 t423 t424 t466 t467 _ ?side1 ?side2 ?side3 ?side4 A59.out).mono ?_);(case side1=>exact zC (Kd.N_reads' HO_5.out).2.2);(case side2=>exact (Kd.N_reads' HO_5.out).2.1);(case side3=>exact zC (Kd.N_reads' HO461.out).2.2);(case side4=>exact (Kd.N_reads' HO461.out).2.1);rintro e w99 ⟨v468,rfl,ho0,hb⟩;refine ⟨_,rfl,?_⟩;have n0_:=Aside0.mk (Kd.N_elder' (zN HO_5.out) (Kd.S_base ho0) hb);have n1_:=Aside0.mk (Kd.N_elder' (zN HO_6.out) (Kd.S_base ho0) hb);have n2_:=Aside0.mk (Kd.N_elder' (zN HO_9.out) (Kd.S_base ho0) hb);have n3_:=Aside0.mk (Kd.N_elder' (zN HO452.out) (Kd.S_base ho0) hb);have n4_:=Aside0.mk (Kd.N_elder' (zN HO455.out) (Kd.S_base ho0) hb);have n5_:=Aside0.mk (Kd.N_elder' (zN HO461.out) (Kd.S_base ho0) hb);have n6_:=Aside0.mk (Kd.N_elder' (zN HO465.out) (Kd.S_base ho0) hb);have n7_:=Aside0.mk (Kd.N_lower (Kd.N_mono (ok':=fun k_=>some k_≠(.slice Ao13 t417.length co13:Value).ownBlock∧some k_≠(.slice Ao14 t420.length co14:Value).ownBlock∧some k_≠(.slice Ao17 t425.length co17:Value).ownBlock∧some k_≠(.slice Ao95 t450.length co95:Value).ownBlock∧some k_≠(v454:Value).ownBlock∧some k_≠(.slice Ao98 t458.length co98:Value).ownBlock∧some k_≠(v464:Value).ownBlock) (Kd.S_N (Kd.S_bound ho0)) (fun k_ hk_=>⟨(Kd.fresh' (Kd.N_lt (zN HO_5.out)) k_ hk_.2.1),(Kd.fresh' (Kd.N_lt (zN HO_6.out)) k_ hk_.2.1),(Kd.fresh' (Kd.N_lt (zN HO_9.out)) k_ hk_.2.1),(Kd.fresh' (Kd.N_lt (zN HO452.out)) k_ hk_.2.1),(Kd.fresh' (Kd.N_lt (zN HO455.out)) k_ hk_.2.1),(Kd.fresh' (Kd.N_lt (zN HO461.out)) k_ hk_.2.1),(Kd.fresh' (Kd.N_lt (zN HO465.out)) k_ hk_.2.1)⟩)) (below_size zhb));have n8_:=Aside0.mk (below_step zhb hb);clear HO_5;clear HO_6;clear HO_9;clear HO452;clear HO455;clear HO461;clear HO465;clear HB;have HO_5:=n0_;have HO_6:=n1_;have HO_9:=n2_;have HO452:=n3_;have HO455:=n4_;have HO461:=n5_;have HO465:=n6_;have HO469:=n7_;have HB:=n8_;clear n0_ n1_ n2_ n3_ n4_ n5_ n6_ n7_ n8_;(try clear hb);(try clear hb2);(try clear hk);(try clear hi);(try clear ho0);obtain ⟨Ao100,co100,eo100⟩:=Kd.N_slice HO465.out;subst eo100)|((with_reducible refine gate_callee (f:=19) rfl ?_);refine goesL_ (some 195) rfl rfl Tryd.func19 (by kernel_rfl) rfl #[.slice Ao17 t425.length co17,.slice Ao100 t462.length co100] rfl zar ?_;(with_reducible refine (impl_ZAdd.calls k1 _ _ t425 _ _ t462 t470 t471 _ ?side1 ?side2 ?side3 ?side4 A60.out).mono ?_);(case side1=>exact zC (Kd.N_reads' HO_9.out).2.2);(case side2=>exact (Kd.N_reads' HO_9.out).2.1);(case side3=>exact zC (Kd.N_reads' HO465.out).2.2);(case side4=>exact (Kd.N_reads' HO465.out).2.1);rintro e w101 ⟨v472,rfl,ho0,hb⟩;refine ⟨_,rfl,?_⟩;have n0_:=Aside0.mk (Kd.N_elder' (zN HO_5.out) (Kd.S_base ho0) hb);have n1_:=Aside0.mk (Kd.N_elder' (zN HO_6.out) (Kd.S_base ho0) hb);have n2_:=Aside0.mk (Kd.N_elder' (zN HO_9.out) (Kd.S_base ho0) hb);have n3_:=Aside0.mk (Kd.N_elder' (zN HO452.out) (Kd.S_base ho0) hb);have n4_:=Aside0.mk (Kd.N_elder' (zN HO455.out) (Kd.S_base ho0) hb);have n5_:=Aside0.mk (Kd.N_elder' (zN HO461.out) (Kd.S_base ho0) hb);have n6_:=Aside0.mk (Kd.N_elder' (zN HO465.out) (Kd.S_base ho0) hb);have n7_:=Aside0.mk (Kd.N_elder' (zN HO469.out) (Kd.S_base ho0) hb);have n8_:=Aside0.mk (Kd.N_lower (Kd.N_mono (ok':=fun k_=>some k_≠(.slice Ao13 t417.length co13:Value).ownBlock∧some k_≠(.slice Ao14 t420.length co14:Value).ownBlock∧some k_≠(.slice Ao17 t425.length co17:Value).ownBlock∧some k_≠(.slice Ao95 t450.length co95:Value).ownBlock∧some k_≠(v454:Value).ownBlock∧some k_≠(.slice Ao98 t458.length co98:Value).ownBlock∧some k_≠(.slice Ao100 t462.length co100:Value).ownBlock∧some k_≠(v468:Value).ownBlock) (Kd.S_N (Kd.S_bound ho0)) (fun k_ hk_=>⟨(Kd.fresh' (Kd.N_lt (zN HO_5.out)) k_ hk_.2.1),(Kd.fresh' (Kd.N_lt (zN HO_6.out)) k_ hk_.2.1),(Kd.fresh' (Kd.N_lt (zN HO_9.out)) k_ hk_.2.1),(Kd.fresh' (Kd.N_lt (zN HO452.out)) k_ hk_.2.1),(Kd.fresh' (Kd.N_lt (zN HO455.out)) k_ hk_.2.1),(Kd.fresh' (Kd.N_lt (zN HO461.out)) k_ hk_.2.1),(Kd.fresh' (Kd.N_lt (zN HO465.out)) k_ hk_.2.1),(Kd.fresh' (Kd.N_lt (zN HO469.out)) k_ hk_.2.1)⟩)) (below_size zhb));have n9_:=Aside0.mk (below_step zhb hb);clear HO_5;clear HO_6;clear HO_9;clear HO452;clear HO455;clear HO461;clear HO465;clear HO469;clear HB;have HO_5:=n0_;have HO_6:=n1_;have HO_9:=n2_;have HO452:=n3_;have HO455:=n4_;have HO461:=n5_;have HO465:=n6_;have HO469:=n7_;have HO473:=n8_;have HB:=n9_;clear n0_ n1_ n2_ n3_ n4_ n5_ n6_ n7_ n8_ n9_;(try clear hb);(try clear hb2);(try clear hk);(try clear hi);(try clear ho0)))
      go_ret
      exact ⟨by first|rfl|(rw [HR_.out];first|done|rfl)|(simp [errW_none,errW_some] <;> rfl)|(simp [*,errW_none,errW_some] <;> rfl),zhb⟩
     subst c63
     have H1:(if t467=true then (if t471=true then ((impl_ZSame.f k1 t470 t466).bind fun t474=>(some t474)) else (some true)) else (some true))=some r:=by rw [if_pos rfl] at H;exact H
     clear H
     have H:=H1
     clear H1
     by_cases c64:t467=true
     rotate_left
     ·replace c64:=Bool.eq_false_iff.mpr c64
      subst c64
      have H1:(some true)=some r:=by rw [if_neg (show ¬ (false=true) by decide)] at H;exact H
      clear H
      have H:=H1
      clear H1
      obtain rfl:=Option.some.inj H
      go_wp2_with (first|((with_reducible refine gate_callee (f:=7) rfl ?_);refine goesL_ (some 165) rfl rfl Tryd.func7 (by kernel_rfl) rfl #[.slice A1 l1.length c1] rfl zar ?_;(with_reducible refine (spec_DrawJoinOf.calls k1 _ _ l1 t450 t453 t456 t457 _ ?side1 ?side2 A56.out).mono ?_);(case side1=>exact zC (Kd.C_below HR1.out HB.out));(case side2=>exact HC1.out);rintro e w86 ⟨v451,v454,rfl,ho0,ho1,hb⟩;refine ⟨_,rfl,?_⟩;have n0_:=Aside0.mk (Kd.N_mono (Kd.N_told (Kd.N_told (Kd.N_old (zN HO_5.out) hb) (Kd.N_base ho0)) (Kd.N_base ho1)) (fun _ h_=>h_.1));have n1_:=Aside0.mk (Kd.N_mono (Kd.N_told (Kd.N_told (Kd.N_old (zN HO_6.out) hb) (Kd.N_base ho0)) (Kd.N_base ho1)) (fun _ h_=>h_.1));have n2_:=Aside0.mk (Kd.N_mono (Kd.N_told (Kd.N_told (Kd.N_old (zN HO_9.out) hb) (Kd.N_base ho0)) (Kd.N_base ho1)) (fun _ h_=>h_.1));have n3_:=Aside0.mk (Kd.N_lower (Kd.N_mono (ok':=fun k_=>some k_≠(v454:Value).ownBlock∧some k_≠(.slice Ao13 t417.length co13:Value).ownBlock∧some k_≠(.slice Ao14 t420.length co14:Value).ownBlock∧some k_≠(.slice Ao17 t425.length co17:Value).ownBlock) ho0 (fun k_ hk_=>⟨hk_.2,(Kd.fresh' (Kd.N_lt (zN HO_5.out)) k_ hk_.1),(Kd.fresh' (Kd.N_lt (zN HO_6.out)) k_ hk_.1),(Kd.fresh' (Kd.N_lt (zN HO_9.out)) k_ hk_.1)⟩)) (below_size zhb));have n4_:=Aside0.mk (Kd.N_lower (Kd.N_mono (ok':=fun k_=>some k_≠(v451:Value).ownBlock∧some k_≠(.slice Ao13 t417.length co13:Value).ownBlock∧some k_≠(.slice Ao14 t420.length co14:Value).ownBlock∧some k_≠(.slice Ao17 t425.length co17:Value).ownBlock) ho1 (fun k_ hk_=>⟨hk_.2,(Kd.fresh' (Kd.N_lt (zN HO_5.out)) k_ hk_.1),(Kd.fresh' (Kd.N_lt (zN HO_6.out)) k_ hk_.1),(Kd.fresh' (Kd.N_lt (zN HO_9.out)) k_ hk_.1)⟩)) (below_size zhb));have n5_:=Aside0.mk (below_step zhb hb);clear HO_5;clear HO_6;clear HO_9;clear HB;have HO_5:=n0_;have HO_6:=n1_;have HO_9:=n2_;have HO452:=n3_;have HO455:=n4_;have HB:=n5_;clear n0_ n1_ n2_ n3_ n4_ n5_;(try clear hb);(try clear hb2);(try clear hk);(try clear hi);(try clear ho0);(try clear ho1);obtain ⟨Ao87,co87,eo87⟩:=Kd.N_slice HO452.out;subst eo87)|((with_reducible refine gate_callee (f:=19) rfl ?_);refine goesL_ (some 173) rfl rfl Tryd.func19 (by kernel_rfl) rfl #[.slice Ao14 t420.length co14,.slice Ao87 t450.length co87] rfl zar ?_;(with_reducible refine (impl_ZAdd.calls k1 _ _ t420 _ _ t450 t458 true _ ?side1 ?side2 ?side3 ?side4 A57.out).mono ?_);(case side1=>exact zC (Kd.N_reads' HO_6.out).2.2);(case side2=>exact (Kd.N_reads' HO_6.out).2.1);(case side3=>exact zC (Kd.N_reads' HO452.out).2.2);(case side4=>exact (Kd.N_reads' HO452.out).2.1);rintro e w88 ⟨v460,rfl,ho0,hb⟩;refine ⟨_,rfl,?_⟩;have n0_:=Aside0.mk (Kd.N_elder' (zN HO_5.out) (Kd.S_base ho0) hb);have n1_:=Aside0.mk (Kd.N_elder' (zN HO_6.out) (Kd.S_base ho0) hb);have n2_:=Aside0.mk (Kd.N_elder' (zN HO_9.out) (Kd.S_base ho0) hb);have n3_:=Aside0.mk (Kd.N_elder' (zN HO452.out) (Kd.S_base ho0) hb);have n4_:=Aside0.mk (Kd.N_elder' (zN HO455.out) (Kd.S_base ho0) hb);have n5_:=Aside0.mk (Kd.N_lower (Kd.N_mono (ok':=fun k_=>some k_≠(.slice Ao13 t417.length co13:Value).ownBlock∧some k_≠(.slice Ao14 t420.length co14:Value).ownBlock∧some k_≠(.slice Ao17 t425.length co17:Value).ownBlock∧some k_≠(.slice Ao87 t450.length co87:Value).ownBlock∧some k_≠(v454:Value).ownBlock) (Kd.S_N (Kd.S_bound ho0)) (fun k_ hk_=>⟨(Kd.fresh' (Kd.N_lt (zN HO_5.out)) k_ hk_.2.1),(Kd.fresh' (Kd.N_lt (zN HO_6.out)) k_ hk_.2.1),(Kd.fresh' (Kd.N_lt (zN HO_9.out)) k_ hk_.2.1),(Kd.fresh' (Kd.N_lt (zN HO452.out)) k_ hk_.2.1),(Kd.fresh' (Kd.N_lt (zN HO455.out)) k_ hk_.2.1)⟩)) (below_size zhb));have n6_:=Aside0.mk (below_step zhb hb);clear HO_5;clear HO_6;clear HO_9;clear HO452;clear HO455;clear HB;have HO_5:=n0_;have HO_6:=n1_;have HO_9:=n2_;have HO452:=n3_;have HO455:=n4_;have HO461:=n5_;have HB:=n6_;clear n0_ n1_ n2_ n3_ n4_ n5_ n6_;(try clear hb);(try clear hb2);(try clear hk);(try clear hi);(try clear ho0))|((with_reducible refine gate_callee (f:=8) rfl ?_);refine goesL_ (some 181) rfl rfl Tryd.func8 (by kernel_rfl) rfl #[.slice Ao13 t417.length co13,.slice Ao87 t450.length co87,.int .i64 t423,.int .i64 t424] rfl zar ?_;(with_reducible refine (impl_JoinOf.calls k1 _ _ t417 _ _ t450 t423 t424 t462 true _ ?side1 ?side2 ?side3 ?side4 A58.out).mono ?_);(case side1=>exact zC (Kd.N_reads' HO_5.out).2.2);(case side2=>exact (Kd.N_reads' HO_5.out).2.1);(case side3=>exact zC (Kd.N_reads' HO452.out).2.2);(case side4=>exact (Kd.N_reads' HO452.out).2.1);rintro e w89 ⟨v464,rfl,ho0,hb⟩;refine ⟨_,rfl,?_⟩;have n0_:=Aside0.mk (Kd.N_elder' (zN HO_5.out) (Kd.S_base ho0) hb);have n1_:=Aside0.mk (Kd.N_elder' (zN HO_6.out) (Kd.S_base ho0) hb);have n2_:=Aside0.mk (Kd.N_elder' (zN HO_9.out) (Kd.S_base ho0) hb);have n3_:=Aside0.mk (Kd.N_elder' (zN HO452.out) (Kd.S_base ho0) hb);have n4_:=Aside0.mk (Kd.N_elder' (zN HO455.out) (Kd.S_base ho0) hb);have n5_:=Aside0.mk (Kd.N_elder' (zN HO461.out) (Kd.S_base ho0) hb);have n6_:=Aside0.mk (Kd.N_lower (Kd.N_mono (ok':=fun k_=>some k_≠(.slice Ao13 t417.length co13:Value).ownBlock∧some k_≠(.slice Ao14 t420.length co14:Value).ownBlock∧some k_≠(.slice Ao17 t425.length co17:Value).ownBlock∧some k_≠(.slice Ao87 t450.length co87:Value).ownBlock∧some k_≠(v454:Value).ownBlock∧some k_≠(v460:Value).ownBlock) (Kd.S_N (Kd.S_bound ho0)) (fun k_ hk_=>⟨(Kd.fresh' (Kd.N_lt (zN HO_5.out)) k_ hk_.2.1),(Kd.fresh' (Kd.N_lt (zN HO_6.out)) k_ hk_.2.1),(Kd.fresh' (Kd.N_lt (zN HO_9.out)) k_ hk_.2.1),(Kd.fresh' (Kd.N_lt (zN HO452.out)) k_ hk_.2.1),(Kd.fresh' (Kd.N_lt (zN HO455.out)) k_ hk_.2.1),(Kd.fresh' (Kd.N_lt (zN HO461.out)) k_ hk_.2.1)⟩)) (below_size zhb));have n7_:=Aside0.mk (below_step zhb hb);clear HO_5;clear HO_6;clear HO_9;clear HO452;clear HO455;clear HO461;clear HB;have HO_5:=n0_;have HO_6:=n1_;have HO_9:=n2_;have HO452:=n3_;have HO455:=n4_;have HO461:=n5_;have HO465:=n6_;have HB:=n7_;clear n0_ n1_ n2_ n3_ n4_ n5_ n6_ n7_;(try clear hb);(try clear hb2);(try clear hk);(try clear hi);(try clear ho0);obtain ⟨Ao90,co90,eo90⟩:=Kd.N_slice HO461.out;subst eo90)|((with_reducible refine gate_callee (f:=8) rfl ?_);refine goesL_ (some 189) rfl rfl Tryd.func8 (by kernel_rfl) rfl #[.slice Ao13 t417.length co13,.slice Ao90 t458.length co90,.int .i64 t423,.int .i64 t424] rfl zar ?_;(with_reducible refine (impl_JoinOf.calls k1 _ _ t417 _ _ t458 t423 t424 t466 false _ ?side1 ?side2 ?side3 ?side4 A59.out).mono ?_);(case side1=>exact zC (Kd.N_reads' HO_5.out).2.2);(case side2=>exact (Kd.N_reads' HO_5.out).2.1);(case side3=>exact zC (Kd.N_reads' HO461.out).2.2);(case side4=>exact (Kd.N_reads' HO461.out).2.1);rintro e w91 ⟨v468,rfl,ho0,hb⟩;refine ⟨_,rfl,?_⟩;have n0_:=Aside0.mk (Kd.N_elder' (zN HO_5.out) (Kd.S_base ho0) hb);have n1_:=Aside0.mk (Kd.N_elder' (zN HO_6.out) (Kd.S_base ho0) hb);have n2_:=Aside0.mk (Kd.N_elder' (zN HO_9.out) (Kd.S_base ho0) hb);have n3_:=Aside0.mk (Kd.N_elder' (zN HO452.out) (Kd.S_base ho0) hb);have n4_:=Aside0.mk (Kd.N_elder' (zN HO455.out) (Kd.S_base ho0) hb);have n5_:=Aside0.mk (Kd.N_elder' (zN HO461.out) (Kd.S_base ho0) hb);have n6_:=Aside0.mk (Kd.N_elder' (zN HO465.out) (Kd.S_base ho0) hb);have n7_:=Aside0.mk (Kd.N_lower (Kd.N_mono (ok':=fun k_=>some k_≠(.slice Ao13 t417.length co13:Value).ownBlock∧some k_≠(.slice Ao14 t420.length co14:Value).ownBlock∧some k_≠(.slice Ao17 t425.length co17:Value).ownBlock∧some k_≠(.slice Ao87 t450.length co87:Value).ownBlock∧some k_≠(v454:Value).ownBlock∧some k_≠(.slice Ao90 t458.length co90:Value).ownBlock∧some k_≠(v464:Value).ownBlock) (Kd.S_N (Kd.S_bound ho0)) (fun k_ hk_=>⟨(Kd.fresh' (Kd.N_lt (zN HO_5.out)) k_ hk_.2.1),(Kd.fresh' (Kd.N_lt (zN HO_6.out)) k_ hk_.2.1),(Kd.fresh' (Kd.N_lt (zN HO_9.out)) k_ hk_.2.1),(Kd.fresh' (Kd.N_lt (zN HO452.out)) k_ hk_.2.1),(Kd.fresh' (Kd.N_lt (zN HO455.out)) k_ hk_.2.1),(Kd.fresh' (Kd.N_lt (zN HO461.out)) k_ hk_.2.1),(Kd.fresh' (Kd.N_lt (zN HO465.out)) k_ hk_.2.1)⟩)) (below_size zhb));have n8_:=Aside0.mk (below_step zhb hb);clear HO_5;clear HO_6;clear HO_9;clear HO452;clear HO455;clear HO461;clear HO465;clear HB;have HO_5:=n0_;have HO_6:=n1_;have HO_9:=n2_;have HO452:=n3_;have HO455:=n4_;have HO461:=n5_;have HO465:=n6_;have HO469:=n7_;have HB:=n8_;clear n0_ n1_ n2_ n3_ n4_ n5_ n6_ n7_ n8_;(try clear hb);(try clear hb2);(try clear hk);(try clear hi);(try clear ho0);obtain ⟨Ao92,co92,eo92⟩:=Kd.N_slice HO465.out;subst eo92)|((with_reducible refine gate_callee (f:=19) rfl ?_);refine goesL_ (some 195) rfl rfl Tryd.func19 (by kernel_rfl) rfl #[.slice Ao17 t425.length co17,.slice Ao92 t462.length co92] rfl zar ?_;(with_reducible refine (impl_ZAdd.calls k1 _ _ t425 _ _ t462 t470 t471 _ ?side1 ?side2 ?side3 ?side4 A60.out).mono ?_);(case side1=>exact zC (Kd.N_reads' HO_9.out).2.2);(case side2=>exact (Kd.N_reads' HO_9.out).2.1);(case side3=>exact zC (Kd.N_reads' HO465.out).2.2);(case side4=>exact (Kd.N_reads' HO465.out).2.1);rintro e w93 ⟨v472,rfl,ho0,hb⟩;refine ⟨_,rfl,?_⟩;have n0_:=Aside0.mk (Kd.N_elder' (zN HO_5.out) (Kd.S_base ho0) hb);have n1_:=Aside0.mk (Kd.N_elder' (zN HO_6.out) (Kd.S_base ho0) hb);have n2_:=Aside0.mk (Kd.N_elder' (zN HO_9.out) (Kd.S_base ho0) hb);have n3_:=Aside0.mk (Kd.N_elder' (zN HO452.out) (Kd.S_base ho0) hb);have n4_:=Aside0.mk (Kd.N_elder' (zN HO455.out) (Kd.S_base ho0) hb);have n5_:=Aside0.mk (Kd.N_elder' (zN HO461.out) (Kd.S_base ho0) hb);have n6_:=Aside0.mk (Kd.N_elder' (zN HO465.out) (Kd.S_base ho0) hb);have n7_:=Aside0.mk (Kd.N_elder' (zN HO469.out) (Kd.S_base ho0) hb);have n8_:=Aside0.mk (Kd.N_lower (Kd.N_mono (ok':=fun k_=>some k_≠(.slice Ao13 t417.length co13:Value).ownBlock∧some k_≠(.slice Ao14 t420.length co14:Value).ownBlock∧some k_≠(.slice Ao17 t425.length co17:Value).ownBlock∧some k_≠(.slice Ao87 t450.length co87:Value).ownBlock∧some k_≠(v454:Value).ownBlock∧some k_≠(.slice Ao90 t458.length co90:Value).ownBlock∧some k_≠(.slice Ao92 t462.length co92:Value).ownBlock∧some k_≠(v468:Value).ownBlock) (Kd.S_N (Kd.S_bound ho0)) (fun k_ hk_=>⟨(Kd.fresh' (Kd.N_lt (zN HO_5.out)) k_ hk_.2.1),(Kd.fresh' (Kd.N_lt (zN HO_6.out)) k_ hk_.2.1),(Kd.fresh' (Kd.N_lt (zN HO_9.out)) k_ hk_.2.1),(Kd.fresh' (Kd.N_lt (zN HO452.out)) k_ hk_.2.1),(Kd.fresh' (Kd.N_lt (zN HO455.out)) k_ hk_.2.1),(Kd.fresh' (Kd.N_lt (zN HO461.out)) k_ hk_.2.1),(Kd.fresh' (Kd.N_lt (zN HO465.out)) k_ hk_.2.1),(Kd.fresh' (Kd.N_lt (zN HO469.out)) k_ hk_.2.1)⟩)) (below_size zhb));have n9_:=Aside0.mk (below_step zhb hb);clear HO_5;clear HO_6;clear HO_9;clear HO452;clear HO455;clear HO461;clear HO465;clear HO469;clear HB;have HO_5:=n0_;have HO_6:=n1_;have HO_9:=n2_;have HO452:=n3_;have HO455:=n4_;have HO461:=n5_;have HO465:=n6_;have HO469:=n7_;have HO473:=n8_;have HB:=n9_;clear n0_ n1_ n2_ n3_ n4_ n5_ n6_ n7_ n8_ n9_;(try clear hb);(try clear hb2);(try clear hk);(try clear hi);(try clear ho0)))
      go_ret
      exact ⟨by first|rfl|(rw [HR_.out];first|done|rfl)|(simp [errW_none,errW_some] <;> rfl)|(simp [*,errW_none,errW_some] <;> rfl),zhb⟩
     subst c64
     have H1:(if t471=true then ((impl_ZSame.f k1 t470 t466).bind fun t474=>(some t474)) else (some true))=some r:=by rw [if_pos rfl] at H;exact H
     clear H
     have H:=H1
     clear H1
     by_cases c65:t471=true
     rotate_left
     ·replace c65:=Bool.eq_false_iff.mpr c65
      subst c65
      have H1:(some true)=some r:=by rw [if_neg (show ¬ (false=true) by decide)] at H;exact H
      clear H
      have H:=H1
      clear H1
      obtain rfl:=Option.some.inj H
      go_wp2_with (first|((with_reducible refine gate_callee (f:=7) rfl ?_);refine goesL_ (some 165) rfl rfl Tryd.func7 (by kernel_rfl) rfl #[.slice A1 l1.length c1] rfl zar ?_;(with_reducible refine (spec_DrawJoinOf.calls k1 _ _ l1 t450 t453 t456 t457 _ ?side1 ?side2 A56.out).mono ?_);(case side1=>exact zC (Kd.C_below HR1.out HB.out));(case side2=>exact HC1.out);rintro e w78 ⟨v451,v454,rfl,ho0,ho1,hb⟩;refine ⟨_,rfl,?_⟩;have n0_:=Aside0.mk (Kd.N_mono (Kd.N_told (Kd.N_told (Kd.N_old (zN HO_5.out) hb) (Kd.N_base ho0)) (Kd.N_base ho1)) (fun _ h_=>h_.1));have n1_:=Aside0.mk (Kd.N_mono (Kd.N_told (Kd.N_told (Kd.N_old (zN HO_6.out) hb) (Kd.N_base ho0)) (Kd.N_base ho1)) (fun _ h_=>h_.1));have n2_:=Aside0.mk (Kd.N_mono (Kd.N_told (Kd.N_told (Kd.N_old (zN HO_9.out) hb) (Kd.N_base ho0)) (Kd.N_base ho1)) (fun _ h_=>h_.1));have n3_:=Aside0.mk (Kd.N_lower (Kd.N_mono (ok':=fun k_=>some k_≠(v454:Value).ownBlock∧some k_≠(.slice Ao13 t417.length co13:Value).ownBlock∧some k_≠(.slice Ao14 t420.length co14:Value).ownBlock∧some k_≠(.slice Ao17 t425.length co17:Value).ownBlock) ho0 (fun k_ hk_=>⟨hk_.2,(Kd.fresh' (Kd.N_lt (zN HO_5.out)) k_ hk_.1),(Kd.fresh' (Kd.N_lt (zN HO_6.out)) k_ hk_.1),(Kd.fresh' (Kd.N_lt (zN HO_9.out)) k_ hk_.1)⟩)) (below_size zhb));have n4_:=Aside0.mk (Kd.N_lower (Kd.N_mono (ok':=fun k_=>some k_≠(v451:Value).ownBlock∧some k_≠(.slice Ao13 t417.length co13:Value).ownBlock∧some k_≠(.slice Ao14 t420.length co14:Value).ownBlock∧some k_≠(.slice Ao17 t425.length co17:Value).ownBlock) ho1 (fun k_ hk_=>⟨hk_.2,(Kd.fresh' (Kd.N_lt (zN HO_5.out)) k_ hk_.1),(Kd.fresh' (Kd.N_lt (zN HO_6.out)) k_ hk_.1),(Kd.fresh' (Kd.N_lt (zN HO_9.out)) k_ hk_.1)⟩)) (below_size zhb));have n5_:=Aside0.mk (below_step zhb hb);clear HO_5;clear HO_6;clear HO_9;clear HB;have HO_5:=n0_;have HO_6:=n1_;have HO_9:=n2_;have HO452:=n3_;have HO455:=n4_;have HB:=n5_;clear n0_ n1_ n2_ n3_ n4_ n5_;(try clear hb);(try clear hb2);(try clear hk);(try clear hi);(try clear ho0);(try clear ho1);obtain ⟨Ao79,co79,eo79⟩:=Kd.N_slice HO452.out;subst eo79)|((with_reducible refine gate_callee (f:=19) rfl ?_);refine goesL_ (some 173) rfl rfl Tryd.func19 (by kernel_rfl) rfl #[.slice Ao14 t420.length co14,.slice Ao79 t450.length co79] rfl zar ?_;(with_reducible refine (impl_ZAdd.calls k1 _ _ t420 _ _ t450 t458 true _ ?side1 ?side2 ?side3 ?side4 A57.out).mono ?_);(case side1=>exact zC (Kd.N_reads' HO_6.out).2.2);(case side2=>exact (Kd.N_reads' HO_6.out).2.1);(case side3=>exact zC (Kd.N_reads' HO452.out).2.2);(case side4=>exact (Kd.N_reads' HO452.out).2.1);rintro e w80 ⟨v460,rfl,ho0,hb⟩;refine ⟨_,rfl,?_⟩;have n0_:=Aside0.mk (Kd.N_elder' (zN HO_5.out) (Kd.S_base ho0) hb);have n1_:=Aside0.mk (Kd.N_elder' (zN HO_6.out) (Kd.S_base ho0) hb);have n2_:=Aside0.mk (Kd.N_elder' (zN HO_9.out) (Kd.S_base ho0) hb);have n3_:=Aside0.mk (Kd.N_elder' (zN HO452.out) (Kd.S_base ho0) hb);have n4_:=Aside0.mk (Kd.N_elder' (zN HO455.out) (Kd.S_base ho0) hb);have n5_:=Aside0.mk (Kd.N_lower (Kd.N_mono (ok':=fun k_=>some k_≠(.slice Ao13 t417.length co13:Value).ownBlock∧some k_≠(.slice Ao14 t420.length co14:Value).ownBlock∧some k_≠(.slice Ao17 t425.length co17:Value).ownBlock∧some k_≠(.slice Ao79 t450.length co79:Value).ownBlock∧some k_≠(v454:Value).ownBlock) (Kd.S_N (Kd.S_bound ho0)) (fun k_ hk_=>⟨(Kd.fresh' (Kd.N_lt (zN HO_5.out)) k_ hk_.2.1),(Kd.fresh' (Kd.N_lt (zN HO_6.out)) k_ hk_.2.1),(Kd.fresh' (Kd.N_lt (zN HO_9.out)) k_ hk_.2.1),(Kd.fresh' (Kd.N_lt (zN HO452.out)) k_ hk_.2.1),(Kd.fresh' (Kd.N_lt (zN HO455.out)) k_ hk_.2.1)⟩)) (below_size zhb));have n6_:=Aside0.mk (below_step zhb hb);clear HO_5;clear HO_6;clear HO_9;clear HO452;clear HO455;clear HB;have HO_5:=n0_;have HO_6:=n1_;have HO_9:=n2_;have HO452:=n3_;have HO455:=n4_;have HO461:=n5_;have HB:=n6_;clear n0_ n1_ n2_ n3_ n4_ n5_ n6_;(try clear hb);(try clear hb2);(try clear hk);(try clear hi);(try clear ho0))|((with_reducible refine gate_callee (f:=8) rfl ?_);refine goesL_ (some 181) rfl rfl Tryd.func8 (by kernel_rfl) rfl #[.slice Ao13 t417.length co13,.slice Ao79 t450.length co79,.int .i64 t423,.int .i64 t424] rfl zar ?_;(with_reducible refine (impl_JoinOf.calls k1 _ _ t417 _ _ t450 t423 t424 t462 true _ ?side1 ?side2 ?side3 ?side4 A58.out).mono ?_);(case side1=>exact zC (Kd.N_reads' HO_5.out).2.2);(case side2=>exact (Kd.N_reads' HO_5.out).2.1);(case side3=>exact zC (Kd.N_reads' HO452.out).2.2);(case side4=>exact (Kd.N_reads' HO452.out).2.1);rintro e w81 ⟨v464,rfl,ho0,hb⟩;refine ⟨_,rfl,?_⟩;have n0_:=Aside0.mk (Kd.N_elder' (zN HO_5.out) (Kd.S_base ho0) hb);have n1_:=Aside0.mk (Kd.N_elder' (zN HO_6.out) (Kd.S_base ho0) hb);have n2_:=Aside0.mk (Kd.N_elder' (zN HO_9.out) (Kd.S_base ho0) hb);have n3_:=Aside0.mk (Kd.N_elder' (zN HO452.out) (Kd.S_base ho0) hb);have n4_:=Aside0.mk (Kd.N_elder' (zN HO455.out) (Kd.S_base ho0) hb);have n5_:=Aside0.mk (Kd.N_elder' (zN HO461.out) (Kd.S_base ho0) hb);have n6_:=Aside0.mk (Kd.N_lower (Kd.N_mono (ok':=fun k_=>some k_≠(.slice Ao13 t417.length co13:Value).ownBlock∧some k_≠(.slice Ao14 t420.length co14:Value).ownBlock∧some k_≠(.slice Ao17 t425.length co17:Value).ownBlock∧some k_≠(.slice Ao79 t450.length co79:Value).ownBlock∧some k_≠(v454:Value).ownBlock∧some k_≠(v460:Value).ownBlock) (Kd.S_N (Kd.S_bound ho0)) (fun k_ hk_=>⟨(Kd.fresh' (Kd.N_lt (zN HO_5.out)) k_ hk_.2.1),(Kd.fresh' (Kd.N_lt (zN HO_6.out)) k_ hk_.2.1),(Kd.fresh' (Kd.N_lt (zN HO_9.out)) k_ hk_.2.1),(Kd.fresh' (Kd.N_lt (zN HO452.out)) k_ hk_.2.1),(Kd.fresh' (Kd.N_lt (zN HO455.out)) k_ hk_.2.1),(Kd.fresh' (Kd.N_lt (zN HO461.out)) k_ hk_.2.1)⟩)) (below_size zhb));have n7_:=Aside0.mk (below_step zhb hb);clear HO_5;clear HO_6;clear HO_9;clear HO452;clear HO455;clear HO461;clear HB;have HO_5:=n0_;have HO_6:=n1_;have HO_9:=n2_;have HO452:=n3_;have HO455:=n4_;have HO461:=n5_;have HO465:=n6_;have HB:=n7_;clear n0_ n1_ n2_ n3_ n4_ n5_ n6_ n7_;(try clear hb);(try clear hb2);(try clear hk);(try clear hi);(try clear ho0);obtain ⟨Ao82,co82,eo82⟩:=Kd.N_slice HO461.out;subst eo82)|((with_reducible refine gate_callee (f:=8) rfl ?_);refine goesL_ (some 189) rfl rfl Tryd.func8 (by kernel_rfl) rfl #[.slice Ao13 t417.length co13,.slice Ao82 t458.length co82,.int .i64 t423,.int .i64 t424] rfl zar ?_;(with_reducible refine (impl_JoinOf.calls k1 _ _ t417 _ _ t458 t423 t424 t466 true _ ?side1 ?side2 ?side3 ?side4 A59.out).mono ?_);(case side1=>exact zC (Kd.N_reads' HO_5.out).2.2);(case side2=>exact (Kd.N_reads' HO_5.out).2.1);(case side3=>exact zC (Kd.N_reads' HO461.out).2.2);(case side4=>exact (Kd.N_reads' HO461.out).2.1);rintro e w83 ⟨v468,rfl,ho0,hb⟩;refine ⟨_,rfl,?_⟩;have n0_:=Aside0.mk (Kd.N_elder' (zN HO_5.out) (Kd.S_base ho0) hb);have n1_:=Aside0.mk (Kd.N_elder' (zN HO_6.out) (Kd.S_base ho0) hb);have n2_:=Aside0.mk (Kd.N_elder' (zN HO_9.out) (Kd.S_base ho0) hb);have n3_:=Aside0.mk (Kd.N_elder' (zN HO452.out) (Kd.S_base ho0) hb);have n4_:=Aside0.mk (Kd.N_elder' (zN HO455.out) (Kd.S_base ho0) hb);have n5_:=Aside0.mk (Kd.N_elder' (zN HO461.out) (Kd.S_base ho0) hb);have n6_:=Aside0.mk (Kd.N_elder' (zN HO465.out) (Kd.S_base ho0) hb);have n7_:=Aside0.mk (Kd.N_lower (Kd.N_mono (ok':=fun k_=>some k_≠(.slice Ao13 t417.length co13:Value).ownBlock∧some k_≠(.slice Ao14 t420.length co14:Value).ownBlock∧some k_≠(.slice Ao17 t425.length co17:Value).ownBlock∧some k_≠(.slice Ao79 t450.length co79:Value).ownBlock∧some k_≠(v454:Value).ownBlock∧some k_≠(.slice Ao82 t458.length co82:Value).ownBlock∧some k_≠(v464:Value).ownBlock) (Kd.S_N (Kd.S_bound ho0)) (fun k_ hk_=>⟨(Kd.fresh' (Kd.N_lt (zN HO_5.out)) k_ hk_.2.1),(Kd.fresh' (Kd.N_lt (zN HO_6.out)) k_ hk_.2.1),(Kd.fresh' (Kd.N_lt (zN HO_9.out)) k_ hk_.2.1),(Kd.fresh' (Kd.N_lt (zN HO452.out)) k_ hk_.2.1),(Kd.fresh' (Kd.N_lt (zN HO455.out)) k_ hk_.2.1),(Kd.fresh' (Kd.N_lt (zN HO461.out)) k_ hk_.2.1),(Kd.fresh' (Kd.N_lt (zN HO465.out)) k_ hk_.2.1)⟩)) (below_size zhb));have n8_:=Aside0.mk (below_step zhb hb);clear HO_5;clear HO_6;clear HO_9;clear HO452;clear HO455;clear HO461;clear HO465;clear HB;have HO_5:=n0_;have HO_6:=n1_;have HO_9:=n2_;have HO452:=n3_;have HO455:=n4_;have HO461:=n5_;have HO465:=n6_;have HO469:=n7_;have HB:=n8_;clear n0_ n1_ n2_ n3_ n4_ n5_ n6_ n7_ n8_;(try clear hb);(try clear hb2);(try clear hk);(try clear hi);(try clear ho0);obtain ⟨Ao84,co84,eo84⟩:=Kd.N_slice HO465.out;subst eo84)|((with_reducible refine gate_callee (f:=19) rfl ?_);refine goesL_ (some 195) rfl rfl Tryd.func19 (by kernel_rfl) rfl #[.slice Ao17 t425.length co17,.slice Ao84 t462.length co84] rfl zar ?_;(with_reducible refine (impl_ZAdd.calls k1 _ _ t425 _ _ t462 t470 false _ ?side1 ?side2 ?side3 ?side4 A60.out).mono ?_);(case side1=>exact zC (Kd.N_reads' HO_9.out).2.2);(case side2=>exact (Kd.N_reads' HO_9.out).2.1);(case side3=>exact zC (Kd.N_reads' HO465.out).2.2);(case side4=>exact (Kd.N_reads' HO465.out).2.1);rintro e w85 ⟨v472,rfl,ho0,hb⟩;refine ⟨_,rfl,?_⟩;have n0_:=Aside0.mk (Kd.N_elder' (zN HO_5.out) (Kd.S_base ho0) hb);have n1_:=Aside0.mk (Kd.N_elder' (zN HO_6.out) (Kd.S_base ho0) hb);have n2_:=Aside0.mk (Kd.N_elder' (zN HO_9.out) (Kd.S_base ho0) hb);have n3_:=Aside0.mk (Kd.N_elder' (zN HO452.out) (Kd.S_base ho0) hb);have n4_:=Aside0.mk (Kd.N_elder' (zN HO455.out) (Kd.S_base ho0) hb);have n5_:=Aside0.mk (Kd.N_elder' (zN HO461.out) (Kd.S_base ho0) hb);have n6_:=Aside0.mk (Kd.N_elder' (zN HO465.out) (Kd.S_base ho0) hb);have n7_:=Aside0.mk (Kd.N_elder' (zN HO469.out) (Kd.S_base ho0) hb);have n8_:=Aside0.mk (Kd.N_lower (Kd.N_mono (ok':=fun k_=>some k_≠(.slice Ao13 t417.length co13:Value).ownBlock∧some k_≠(.slice Ao14 t420.length co14:Value).ownBlock∧some k_≠(.slice Ao17 t425.length co17:Value).ownBlock∧some k_≠(.slice Ao79 t450.length co79:Value).ownBlock∧some k_≠(v454:Value).ownBlock∧some k_≠(.slice Ao82 t458.length co82:Value).ownBlock∧some k_≠(.slice Ao84 t462.length co84:Value).ownBlock∧some k_≠(v468:Value).ownBlock) (Kd.S_N (Kd.S_bound ho0)) (fun k_ hk_=>⟨(Kd.fresh' (Kd.N_lt (zN HO_5.out)) k_ hk_.2.1),(Kd.fresh' (Kd.N_lt (zN HO_6.out)) k_ hk_.2.1),(Kd.fresh' (Kd.N_lt (zN HO_9.out)) k_ hk_.2.1),(Kd.fresh' (Kd.N_lt (zN HO452.out)) k_ hk_.2.1),(Kd.fresh' (Kd.N_lt (zN HO455.out)) k_ hk_.2.1),(Kd.fresh' (Kd.N_lt (zN HO461.out)) k_ hk_.2.1),(Kd.fresh' (Kd.N_lt (zN HO465.out)) k_ hk_.2.1),(Kd.fresh' (Kd.N_lt (zN HO469.out)) k_ hk_.2.1)⟩)) (below_size zhb));have n9_:=Aside0.mk (below_step zhb hb);clear HO_5;clear HO_6;clear HO_9;clear HO452;clear HO455;clear HO461;clear HO465;clear HO469;clear HB;have HO_5:=n0_;have HO_6:=n1_;have HO_9:=n2_;have HO452:=n3_;have HO455:=n4_;have HO461:=n5_;have HO465:=n6_;have HO469:=n7_;have HO473:=n8_;have HB:=n9_;clear n0_ n1_ n2_ n3_ n4_ n5_ n6_ n7_ n8_ n9_;(try clear hb);(try clear hb2);(try clear hk);(try clear hi);(try clear ho0)))
      go_ret
      exact ⟨by first|rfl|(rw [HR_.out];first|done|rfl)|(simp [errW_none,errW_some] <;> rfl)|(simp [*,errW_none,errW_some] <;> rfl),zhb⟩
     subst c65
     have H1:((impl_ZSame.f k1 t470 t466).bind fun t474=>(some t474))=some r:=by rw [if_pos rfl] at H;exact H
     clear H
     have H:=H1
     clear H1
     replace H:=Option.bind_eq_some_iff.mp H
     obtain ⟨t474,A660,H⟩:=H
     (try dsimp only at H)
     have A66:=Aside0.mk A660
     clear A660
     obtain rfl:=Option.some.inj H
     go_wp2_with (first|((with_reducible refine gate_callee (f:=7) rfl ?_);refine goesL_ (some 165) rfl rfl Tryd.func7 (by kernel_rfl) rfl #[.slice A1 l1.length c1] rfl zar ?_;(with_reducible refine (spec_DrawJoinOf.calls k1 _ _ l1 t450 t453 t456 t457 _ ?side1 ?side2 A56.out).mono ?_);(case side1=>exact zC (Kd.C_below HR1.out HB.out));(case side2=>exact HC1.out);rintro e w67 ⟨v451,v454,rfl,ho0,ho1,hb⟩;refine ⟨_,rfl,?_⟩;have n0_:=Aside0.mk (Kd.N_mono (Kd.N_told (Kd.N_told (Kd.N_old (zN HO_5.out) hb) (Kd.N_base ho0)) (Kd.N_base ho1)) (fun _ h_=>h_.1));have n1_:=Aside0.mk (Kd.N_mono (Kd.N_told (Kd.N_told (Kd.N_old (zN HO_6.out) hb) (Kd.N_base ho0)) (Kd.N_base ho1)) (fun _ h_=>h_.1));have n2_:=Aside0.mk (Kd.N_mono (Kd.N_told (Kd.N_told (Kd.N_old (zN HO_9.out) hb) (Kd.N_base ho0)) (Kd.N_base ho1)) (fun _ h_=>h_.1));have n3_:=Aside0.mk (Kd.N_lower (Kd.N_mono (ok':=fun k_=>some k_≠(v454:Value).ownBlock∧some k_≠(.slice Ao13 t417.length co13:Value).ownBlock∧some k_≠(.slice Ao14 t420.length co14:Value).ownBlock∧some k_≠(.slice Ao17 t425.length co17:Value).ownBlock) ho0 (fun k_ hk_=>⟨hk_.2,(Kd.fresh' (Kd.N_lt (zN HO_5.out)) k_ hk_.1),(Kd.fresh' (Kd.N_lt (zN HO_6.out)) k_ hk_.1),(Kd.fresh' (Kd.N_lt (zN HO_9.out)) k_ hk_.1)⟩)) (below_size zhb));have n4_:=Aside0.mk (Kd.N_lower (Kd.N_mono (ok':=fun k_=>some k_≠(v451:Value).ownBlock∧some k_≠(.slice Ao13 t417.length co13:Value).ownBlock∧some k_≠(.slice Ao14 t420.length co14:Value).ownBlock∧some k_≠(.slice Ao17 t425.length co17:Value).ownBlock) ho1 (fun k_ hk_=>⟨hk_.2,(Kd.fresh' (Kd.N_lt (zN HO_5.out)) k_ hk_.1),(Kd.fresh' (Kd.N_lt (zN HO_6.out)) k_ hk_.1),(Kd.fresh' (Kd.N_lt (zN HO_9.out)) k_ hk_.1)⟩)) (below_size zhb));have n5_:=Aside0.mk (below_step zhb hb);clear HO_5;clear HO_6;clear HO_9;clear HB;have HO_5:=n0_;have HO_6:=n1_;have HO_9:=n2_;have HO452:=n3_;have HO455:=n4_;have HB:=n5_;clear n0_ n1_ n2_ n3_ n4_ n5_;(try clear hb);(try clear hb2);(try clear hk);(try clear hi);(try clear ho0);(try clear ho1);obtain ⟨Ao68,co68,eo68⟩:=Kd.N_slice HO452.out;subst eo68)|((with_reducible refine gate_callee (f:=19) rfl ?_);refine goesL_ (some 173) rfl rfl Tryd.func19 (by kernel_rfl) rfl #[.slice Ao14 t420.length co14,.slice Ao68 t450.length co68] rfl zar ?_;(with_reducible refine (impl_ZAdd.calls k1 _ _ t420 _ _ t450 t458 true _ ?side1 ?side2 ?side3 ?side4 A57.out).mono ?_);(case side1=>exact zC (Kd.N_reads' HO_6.out).2.2);(case side2=>exact (Kd.N_reads' HO_6.out).2.1);(case side3=>exact zC (Kd.N_reads' HO452.out).2.2);(case side4=>exact (Kd.N_reads' HO452.out).2.1);rintro e w69 ⟨v460,rfl,ho0,hb⟩;refine ⟨_,rfl,?_⟩;have n0_:=Aside0.mk (Kd.N_elder' (zN HO_5.out) (Kd.S_base ho0) hb);have n1_:=Aside0.mk (Kd.N_elder' (zN HO_6.out) (Kd.S_base ho0) hb);have n2_:=Aside0.mk (Kd.N_elder' (zN HO_9.out) (Kd.S_base ho0) hb);have n3_:=Aside0.mk (Kd.N_elder' (zN HO452.out) (Kd.S_base ho0) hb);have n4_:=Aside0.mk (Kd.N_elder' (zN HO455.out) (Kd.S_base ho0) hb);have n5_:=Aside0.mk (Kd.N_lower (Kd.N_mono (ok':=fun k_=>some k_≠(.slice Ao13 t417.length co13:Value).ownBlock∧some k_≠(.slice Ao14 t420.length co14:Value).ownBlock∧some k_≠(.slice Ao17 t425.length co17:Value).ownBlock∧some k_≠(.slice Ao68 t450.length co68:Value).ownBlock∧some k_≠(v454:Value).ownBlock) (Kd.S_N (Kd.S_bound ho0)) (fun k_ hk_=>⟨(Kd.fresh' (Kd.N_lt (zN HO_5.out)) k_ hk_.2.1),(Kd.fresh' (Kd.N_lt (zN HO_6.out)) k_ hk_.2.1),(Kd.fresh' (Kd.N_lt (zN HO_9.out)) k_ hk_.2.1),(Kd.fresh' (Kd.N_lt (zN HO452.out)) k_ hk_.2.1),(Kd.fresh' (Kd.N_lt (zN HO455.out)) k_ hk_.2.1)⟩)) (below_size zhb));have n6_:=Aside0.mk (below_step zhb hb);clear HO_5;clear HO_6;clear HO_9;clear HO452;clear HO455;clear HB;have HO_5:=n0_;have HO_6:=n1_;have HO_9:=n2_;have HO452:=n3_;have HO455:=n4_;have HO461:=n5_;have HB:=n6_;clear n0_ n1_ n2_ n3_ n4_ n5_ n6_;(try clear hb);(try clear hb2);(try clear hk);(try clear hi);(try clear ho0))|((with_reducible refine gate_callee (f:=8) rfl ?_);refine goesL_ (some 181) rfl rfl Tryd.func8 (by kernel_rfl) rfl #[.slice Ao13 t417.length co13,.slice Ao68 t450.length co68,.int .i64 t423,.int .i64 t424] rfl zar ?_;(with_reducible refine (impl_JoinOf.calls k1 _ _ t417 _ _ t450 t423 t424 t462 true _ ?side1 ?side2 ?side3 ?side4 A58.out).mono ?_);(case side1=>exact zC (Kd.N_reads' HO_5.out).2.2);(case side2=>exact (Kd.N_reads' HO_5.out).2.1);(case side3=>exact zC (Kd.N_reads' HO452.out).2.2);(case side4=>exact (Kd.N_reads' HO452.out).2.1);rintro e w70 ⟨v464,rfl,ho0,hb⟩;refine ⟨_,rfl,?_⟩;have n0_:=Aside0.mk (Kd.N_elder' (zN HO_5.out) (Kd.S_base ho0) hb);have n1_:=Aside0.mk (Kd.N_elder' (zN HO_6.out) (Kd.S_base ho0) hb);have n2_:=Aside0.mk (Kd.N_elder' (zN HO_9.out) (Kd.S_base ho0) hb);have n3_:=Aside0.mk (Kd.N_elder' (zN HO452.out) (Kd.S_base ho0) hb);have n4_:=Aside0.mk (Kd.N_elder' (zN HO455.out) (Kd.S_base ho0) hb);have n5_:=Aside0.mk (Kd.N_elder' (zN HO461.out) (Kd.S_base ho0) hb);have n6_:=Aside0.mk (Kd.N_lower (Kd.N_mono (ok':=fun k_=>some k_≠(.slice Ao13 t417.length co13:Value).ownBlock∧some k_≠(.slice Ao14 t420.length co14:Value).ownBlock∧some k_≠(.slice Ao17 t425.length co17:Value).ownBlock∧some k_≠(.slice Ao68 t450.length co68:Value).ownBlock∧some k_≠(v454:Value).ownBlock∧some k_≠(v460:Value).ownBlock) (Kd.S_N (Kd.S_bound ho0)) (fun k_ hk_=>⟨(Kd.fresh' (Kd.N_lt (zN HO_5.out)) k_ hk_.2.1),(Kd.fresh' (Kd.N_lt (zN HO_6.out)) k_ hk_.2.1),(Kd.fresh' (Kd.N_lt (zN HO_9.out)) k_ hk_.2.1),(Kd.fresh' (Kd.N_lt (zN HO452.out)) k_ hk_.2.1),(Kd.fresh' (Kd.N_lt (zN HO455.out)) k_ hk_.2.1),(Kd.fresh' (Kd.N_lt (zN HO461.out)) k_ hk_.2.1)⟩)) (below_size zhb));have n7_:=Aside0.mk (below_step zhb hb);clear HO_5;clear HO_6;clear HO_9;clear HO452;clear HO455;clear HO461;clear HB;have HO_5:=n0_;have HO_6:=n1_;have HO_9:=n2_;have HO452:=n3_;have HO455:=n4_;have HO461:=n5_;have HO465:=n6_;have HB:=n7_;clear n0_ n1_ n2_ n3_ n4_ n5_ n6_ n7_;(try clear hb);(try clear hb2);(try clear hk);(try clear hi);(try clear ho0);obtain ⟨Ao71,co71,eo71⟩:=Kd.N_slice HO461.out;subst eo71)|((with_reducible refine gate_callee (f:=8) rfl ?_);refine goesL_ (some 189) rfl rfl Tryd.func8 (by kernel_rfl) rfl #[.slice Ao13 t417.length co13,.slice Ao71 t458.length co71,.int .i64 t423,.int .i64 t424] rfl zar ?_;(with_reducible refine (impl_JoinOf.calls k1 _ _ t417 _ _ t458 t423 t424 t466 true _ ?side1 ?side2 ?side3 ?side4 A59.out).mono ?_);(case side1=>exact zC (Kd.N_reads' HO_5.out).2.2);(case side2=>exact (Kd.N_reads' HO_5.out).2.1);(case side3=>exact zC (Kd.N_reads' HO461.out).2.2);(case side4=>exact (Kd.N_reads' HO461.out).2.1);rintro e w72 ⟨v468,rfl,ho0,hb⟩;refine ⟨_,rfl,?_⟩;have n0_:=Aside0.mk (Kd.N_elder' (zN HO_5.out) (Kd.S_base ho0) hb);have n1_:=Aside0.mk (Kd.N_elder' (zN HO_6.out) (Kd.S_base ho0) hb);have n2_:=Aside0.mk (Kd.N_elder' (zN HO_9.out) (Kd.S_base ho0) hb);have n3_:=Aside0.mk (Kd.N_elder' (zN HO452.out) (Kd.S_base ho0) hb);have n4_:=Aside0.mk (Kd.N_elder' (zN HO455.out) (Kd.S_base ho0) hb);have n5_:=Aside0.mk (Kd.N_elder' (zN HO461.out) (Kd.S_base ho0) hb);have n6_:=Aside0.mk (Kd.N_elder' (zN HO465.out) (Kd.S_base ho0) hb);have n7_:=Aside0.mk (Kd.N_lower (Kd.N_mono (ok':=fun k_=>some k_≠(.slice Ao13 t417.length co13:Value).ownBlock∧some k_≠(.slice Ao14 t420.length co14:Value).ownBlock∧some k_≠(.slice Ao17 t425.length co17:Value).ownBlock∧some k_≠(.slice Ao68 t450.length co68:Value).ownBlock∧some k_≠(v454:Value).ownBlock∧some k_≠(.slice Ao71 t458.length co71:Value).ownBlock∧some k_≠(v464:Value).ownBlock) (Kd.S_N (Kd.S_bound ho0)) (fun k_ hk_=>⟨(Kd.fresh' (Kd.N_lt (zN HO_5.out)) k_ hk_.2.1),(Kd.fresh' (Kd.N_lt (zN HO_6.out)) k_ hk_.2.1),(Kd.fresh' (Kd.N_lt (zN HO_9.out)) k_ hk_.2.1),(Kd.fresh' (Kd.N_lt (zN HO452.out)) k_ hk_.2.1),(Kd.fresh' (Kd.N_lt (zN HO455.out)) k_ hk_.2.1),(Kd.fresh' (Kd.N_lt (zN HO461.out)) k_ hk_.2.1),(Kd.fresh' (Kd.N_lt (zN HO465.out)) k_ hk_.2.1)⟩)) (below_size zhb));have n8_:=Aside0.mk (below_step zhb hb);clear HO_5;clear HO_6;clear HO_9;clear HO452;clear HO455;clear HO461;clear HO465;clear HB;have HO_5:=n0_;have HO_6:=n1_;have HO_9:=n2_;have HO452:=n3_;have HO455:=n4_;have HO461:=n5_;have HO465:=n6_;have HO469:=n7_;have HB:=n8_;clear n0_ n1_ n2_ n3_ n4_ n5_ n6_ n7_ n8_;(try clear hb);(try clear hb2);(try clear hk);(try clear hi);(try clear ho0);obtain ⟨Ao73,co73,eo73⟩:=Kd.N_slice HO465.out;subst eo73)|((with_reducible refine gate_callee (f:=19) rfl ?_);refine goesL_ (some 195) rfl rfl Tryd.func19 (by kernel_rfl) rfl #[.slice Ao17 t425.length co17,.slice Ao73 t462.length co73] rfl zar ?_;(with_reducible refine (impl_ZAdd.calls k1 _ _ t425 _ _ t462 t470 true _ ?side1 ?side2 ?side3 ?side4 A60.out).mono ?_);(case side1=>exact zC (Kd.N_reads' HO_9.out).2.2);(case side2=>exact (Kd.N_reads' HO_9.out).2.1);(case side3=>exact zC (Kd.N_reads' HO465.out).2.2);(case side4=>exact (Kd.N_reads' HO465.out).2.1);rintro e w74 ⟨v472,rfl,ho0,hb⟩;refine ⟨_,rfl,?_⟩;have n0_:=Aside0.mk (Kd.N_elder' (zN HO_5.out) (Kd.S_base ho0) hb);have n1_:=Aside0.mk (Kd.N_elder' (zN HO_6.out) (Kd.S_base ho0) hb);have n2_:=Aside0.mk (Kd.N_elder' (zN HO_9.out) (Kd.S_base ho0) hb);have n3_:=Aside0.mk (Kd.N_elder' (zN HO452.out) (Kd.S_base ho0) hb);have n4_:=Aside0.mk (Kd.N_elder' (zN HO455.out) (Kd.S_base ho0) hb);have n5_:=Aside0.mk (Kd.N_elder' (zN HO461.out) (Kd.S_base ho0) hb);have n6_:=Aside0.mk (Kd.N_elder' (zN HO465.out) (Kd.S_base ho0) hb);have n7_:=Aside0.mk (Kd.N_elder' (zN HO469.out) (Kd.S_base ho0) hb);have n8_:=Aside0.mk (Kd.N_lower (Kd.N_mono (ok':=fun k_=>some k_≠(.slice Ao13 t417.length co13:Value).ownBlock∧some k_≠(.slice Ao14 t420.length co14:Value).ownBlock∧some k_≠(.slice Ao17 t425.length co17:Value).ownBlock∧some k_≠(.slice Ao68 t450.length co68:Value).ownBlock∧some k_≠(v454:Value).ownBlock∧some k_≠(.slice Ao71 t458.length co71:Value).ownBlock∧some k_≠(.slice Ao73 t462.length co73:Value).ownBlock∧some k_≠(v468:Value).ownBlock) (Kd.S_N (Kd.S_bound ho0)) (fun k_ hk_=>⟨(Kd.fresh' (Kd.N_lt (zN HO_5.out)) k_ hk_.2.1),(Kd.fresh' (Kd.N_lt (zN HO_6.out)) k_ hk_.2.1),(Kd.fresh' (Kd.N_lt (zN HO_9.out)) k_ hk_.2.1),(Kd.fresh' (Kd.N_lt (zN HO452.out)) k_ hk_.2.1),(Kd.fresh' (Kd.N_lt (zN HO455.out)) k_ hk_.2.1),(Kd.fresh' (Kd.N_lt (zN HO461.out)) k_ hk_.2.1),(Kd.fresh' (Kd.N_lt (zN HO465.out)) k_ hk_.2.1),(Kd.fresh' (Kd.N_lt (zN HO469.out)) k_ hk_.2.1)⟩)) (below_size zhb));have n9_:=Aside0.mk (below_step zhb hb);clear HO_5;clear HO_6;clear HO_9;clear HO452;clear HO455;clear HO461;clear HO465;clear HO469;clear HB;have HO_5:=n0_;have HO_6:=n1_;have HO_9:=n2_;have HO452:=n3_;have HO455:=n4_;have HO461:=n5_;have HO465:=n6_;have HO469:=n7_;have HO473:=n8_;have HB:=n9_;clear n0_ n1_ n2_ n3_ n4_ n5_ n6_ n7_ n8_ n9_;(try clear hb);(try clear hb2);(try clear hk);(try clear hi);(try clear ho0);obtain ⟨Ao75,co75,eo75⟩:=Kd.N_slice HO473.out;subst eo75;obtain ⟨Ao76,co76,eo76⟩:=Kd.N_slice HO469.out;subst eo76)|(go_at_call 10;(with_reducible refine (impl_ZSame.calls k1 _ _ t470 _ _ t466 t474 _ ?side1 ?side2 ?side3 ?side4 A66.out).mono ?_);(case side1=>exact zC (Kd.N_reads' HO473.out).2.2);(case side2=>exact (Kd.N_reads' HO473.out).2.1);(case side3=>exact zC (Kd.N_reads' HO469.out).2.2);(case side4=>exact (Kd.N_reads' HO469.out).2.1);rintro e w77 ⟨rfl,hb⟩;have n0_:=Aside0.mk (Kd.N_below (zN HO_5.out) hb);have n1_:=Aside0.mk (Kd.N_below (zN HO_6.out) hb);have n2_:=Aside0.mk (Kd.N_below (zN HO_9.out) hb);have n3_:=Aside0.mk (Kd.N_below (zN HO452.out) hb);have n4_:=Aside0.mk (Kd.N_below (zN HO455.out) hb);have n5_:=Aside0.mk (Kd.N_below (zN HO461.out) hb);have n6_:=Aside0.mk (Kd.N_below (zN HO465.out) hb);have n7_:=Aside0.mk (Kd.N_below (zN HO469.out) hb);have n8_:=Aside0.mk (Kd.N_below (zN HO473.out) hb);have n9_:=Aside0.mk (below_step zhb hb);clear HO_5;clear HO_6;clear HO_9;clear HO452;clear HO455;clear HO461;clear HO465;clear HO469;clear HO473;clear HB;have HO_5:=n0_;have HO_6:=n1_;have HO_9:=n2_;have HO452:=n3_;have HO455:=n4_;have HO461:=n5_;have HO465:=n6_;have HO469:=n7_;have HO473:=n8_;have HB:=n9_;clear n0_ n1_ n2_ n3_ n4_ n5_ n6_ n7_ n8_ n9_;(try clear hb);(try clear hb2);(try clear hk);(try clear hi)))
     go_ret
     exact ⟨by first|rfl|(rw [HR_.out];first|done|rfl)|(simp [errW_none,errW_some] <;> rfl)|(simp [*,errW_none,errW_some] <;> rfl),zhb⟩
    rw [if_pos c20] at H
    have c20b0:decide (x14_1 < (t417.length:Int))=true:=decide_eq_true c20
    clear c20
    have H':=Aside0.mk H
    clear H
    go_wp2
    go_loopg [13,15] k1 (fun kq v13 v15 w'=>∃ (x13_2:Int) (x15_2:Int),v13=.int .i64 x13_2∧v15=.int .i64 x15_2∧Aside0 (laws_FnJoin.l1 kq l1 t417 t420 t423 t424 t425 x13_2 x14_1 x15_2=some r)∧Aside0 (kq≤k1)∧Aside0 (Kd.N k31 31 w' w.heap.size (fun k_=>some k_≠((.slice Ao14 t420.length co14):Value).ownBlock∧some k_≠((.slice Ao17 t425.length co17):Value).ownBlock) (.slice Ao13 t417.length co13) t417)∧Aside0 (Kd.N k31 31 w' w.heap.size (fun k_=>some k_≠((.slice Ao13 t417.length co13):Value).ownBlock∧some k_≠((.slice Ao17 t425.length co17):Value).ownBlock) (.slice Ao14 t420.length co14) t420)∧Aside0 (Kd.N k31 31 w' w.heap.size (fun k_=>some k_≠((.slice Ao13 t417.length co13):Value).ownBlock∧some k_≠((.slice Ao14 t420.length co14):Value).ownBlock) (.slice Ao17 t425.length co17) t425)∧Aside0 (Below w.heap.size w w'))
    case atStart=>exact ⟨(x13_1),(0),(by first|rfl|(rw [HR_.out];first|done|rfl)|(simp;done)|(simp [*];done)),(by first|rfl|(rw [HR_.out];first|done|rfl)|(simp;done)|(simp [*];done)),H',⟨Nat.le_refl _⟩,⟨by (with_reducible repeat (first|apply Kd.N_alloc|apply Kd.N_drewN|apply Kd.N_drew));exact HO_5.out⟩,⟨by (with_reducible repeat (first|apply Kd.N_alloc|apply Kd.N_drewN|apply Kd.N_drew));exact HO_6.out⟩,⟨by (with_reducible repeat (first|apply Kd.N_alloc|apply Kd.N_drewN|apply Kd.N_drew));exact HO_9.out⟩,⟨zhb⟩⟩
    case round =>
     clear H'
     try clear c1
     try clear c2
     try clear p2
     try clear c3
     try clear c3b0
     try clear c3b1
     try clear c4
     try clear c4b0
     try clear c4b1
     try clear c6
     try clear c7
     try clear c8
     try clear c8b0
     try clear c8b1
     try clear c8b2
     try clear c9
     try clear c10
     try clear c11
     try clear c20
     try clear c20b0
     try clear p2
     obtain ⟨x13_2,x15_2,rfl,rfl,HA,HK2,HO_5,HO_6,HO_9,HB⟩:=hrel
     cases gk with
     | zero=>exact absurd HA.out (by simp [laws_FnJoin.l1])
     | succ k2 =>
      have H:=HA.out
      clear HA
      simp only [laws_FnJoin.l1] at H
      by_cases c21:x15_2 < (t420.length:Int)
      rotate_left
      ·rw [if_neg c21] at H
       have c21b0:decide (x15_2 < (t420.length:Int))=false:=decide_eq_false c21
       clear c21
       have H':=Aside0.mk H
       clear H
       go_wp2
       go_roundg k2
       case measure=>have:=HK1.out;have:=HK2.out;omega
       case rel=>exact ⟨(x13_2),(wrap64 (x14_1 + 1)),(by first|rfl|(rw [HR_.out];first|done|rfl)|(simp;done)|(simp [*];done)),(by first|rfl|(rw [HR_.out];first|done|rfl)|(simp;done)|(simp [*];done)),H',⟨by have:=HK1.out;have:=HK2.out;omega⟩,⟨by (with_reducible repeat (first|apply Kd.N_alloc|apply Kd.N_drewN|apply Kd.N_drew));exact HO_5.out⟩,⟨by (with_reducible repeat (first|apply Kd.N_alloc|apply Kd.N_drewN|apply Kd.N_drew));exact HO_6.out⟩,⟨by (with_reducible repeat (first|apply Kd.N_alloc|apply Kd.N_drewN|apply Kd.N_drew));exact HO_9.out⟩,⟨zhb⟩⟩
      rw [if_pos c21] at H
      have c21b0:decide (x15_2 < (t420.length:Int))=true:=decide_eq_true c21
      clear c21
      by_cases c22:0≤x14_1
      rotate_left
      ·rw [if_neg c22] at H
       exact absurd H (by simp)
      rw [if_pos c22] at H
      have c22b0:decide (0≤x14_1)=true:=decide_eq_true c22
      clear c22
      by_cases c23:x14_1 < (t417.length:Int)
      rotate_left
      ·rw [if_neg c23] at H
       exact absurd H (by simp)
      rw [if_pos c23] at H
      have c23b0:decide (x14_1 < (t417.length:Int))=true:=decide_eq_true c23
      clear c23
      by_cases c24:0≤t423
      rotate_left
      ·rw [if_neg c24] at H
       exact absurd H (by simp)
      rw [if_pos c24] at H
      have c24b0:decide (0≤t423)=true:=decide_eq_true c24
      clear c24
      by_cases c25:t423 < (((rd_T31 t417 x14_1).f0).length:Int)
      rotate_left
      ·rw [if_neg c25] at H
       exact absurd H (by simp)
      rw [if_pos c25] at H
      have c25b0:decide (t423 < (((rd_T31 t417 x14_1).f0).length:Int))=true:=decide_eq_true c25
      clear c25
      by_cases c26:0≤x15_2
      rotate_left
      ·rw [if_neg c26] at H
       exact absurd H (by simp)
      rw [if_pos c26] at H
      have c26b0:decide (0≤x15_2)=true:=decide_eq_true c26
      clear c26
      by_cases c27:0≤t424
      rotate_left
      ·rw [if_neg c27] at H
       exact absurd H (by simp)
      rw [if_pos c27] at H
      have c27b0:decide (0≤t424)=true:=decide_eq_true c27
      clear c27
      by_cases c28:t424 < (((rd_T31 t420 x15_2).f0).length:Int)
      rotate_left
      ·rw [if_neg c28] at H
       exact absurd H (by simp)
      rw [if_pos c28] at H
      have c28b0:decide (t424 < (((rd_T31 t420 x15_2).f0).length:Int))=true:=decide_eq_true c28
      clear c28
      by_cases c29:(rd ((rd_T31 t417 x14_1).f0) t423)=(rd ((rd_T31 t420 x15_2).f0) t424)
      rotate_left
      ·rw [if_neg c29] at H
       have c29b0:((rd ((rd_T31 t417 x14_1).f0) t423) == (rd ((rd_T31 t420 x15_2).f0) t424))=false:=beq_eq_false_iff_ne.mpr c29
       have c29b1:((rd ((rd_T31 t417 x14_1).f0) t423) != (rd ((rd_T31 t420 x15_2).f0) t424))=true:=bne_iff_ne.mpr c29
       have H':=Aside0.mk H
       clear H
       rename_i iz1 iz2 iz3 iz4 iz5 iz6 iz7 iz8 iz9 iz10 iz11 iz12 iz13 iz14 iz15 iz16 iz17 iz18 iz19 iz20 iz21 iz22 iz23 iz24 iz25 iz26 iz27 iz28 iz29 iz30 iz31 iz32 iz33 iz34 iz35 iz36 iz37 iz38 iz39 iz40 iz41 iz42 iz43 iz44 iz45 iz46 iz47 iz48 iz49 iz50 iz51 iz52 iz53 iz54 iz55 iz56 iz57 iz58 iz59 iz60 iz61 iz62 iz63 iz64 iz65 iz66 iz67 iz68 iz69 iz70 iz71 iz72 iz73 iz74 iz75 iz76 iz77 iz78 iz79 iz80 iz81 iz82 iz83 iz84 iz85 iz86 iz87 iz88 iz89 iz90 iz91 iz92 iz93 iz94 iz95 iz96 iz97 iz98 iz99 iz100 iz101 iz102 iz103 iz104
       revert k A0 c0 l0 A1 c1 l1 r w HT0 HR_ HR0 HC0 HR1 HC1 t417 t420 t423 t424 A5 t425 t429 t432 A7 A9 A6 iz1 w12 Ao13 co13 Ao14 co14 w15 w16 Ao17 co17 Ao18 co18 w19 HO419 HO422 HO428 HO431 iz2 iz3 iz4 iz5 iz6 u15 u73 u74 u75 u76 u77 u78 iz7 iz8 iz9 iz10 iz11 iz12 iz13 iz14 iz15 iz16 iz17 iz18 iz19 iz20 iz21 iz22 iz23 iz24 iz25 iz26 iz27 iz28 iz29 iz30 iz31 iz32 iz33 iz34 iz35 iz36 iz37 iz38 iz39 iz40 iz41 iz42 iz43 iz44 iz45 iz46 iz47 iz48 iz49 iz50 iz51 iz52 iz53 iz54 iz55 iz56 iz57 iz58 iz59 iz60 iz61 iz62 iz63 iz64 iz65 iz66 iz67 iz68 iz69 iz70 iz71 iz72 iz73 iz74 iz75 iz76 iz77 iz78 iz79 iz80 iz81 iz82 iz83 iz84 iz85 iz86 iz87 iz88 iz89 iz90 iz91 iz92 iz93 x13_1 x14_1 iz94 iz95 iz96 iz97 k1 iz98 HK1 iz99 iz100 wr u4 u79 u80 u81 u82 u83 u84 u85 u86 u87 u88 u89 u90 u91 u92 u93 u94 u95 u96 u97 u98 u99 u100 u101 u102 u103 u104 u105 u106 u107 u108 u109 u110 u111 u112 u113 u114 u115 u116 u117 u118 u119 u120 u121 u122 u123 u124 u125 u126 u127 u128 u129 u130 u131 u132 u133 u134 u135 u136 u137 u138 u139 u140 u141 u142 u143 u144 u145 u146 u147 u148 u149 u150 u151 u152 u153 u154 u155 u156 u157 u158 u159 u160 u161 u162 iz101 iz102 iz103 x13_2 x15_2 HO_5 HO_6 HO_9 HB k2 iz104 HK2 c21b0 c22b0 c23b0 c24b0 c25b0 c26b0 c27b0 c28b0 c29 c29b0 c29b1 H'
       exact hG0_.down
      rw [if_pos c29] at H
      have c29b0:((rd ((rd_T31 t417 x14_1).f0) t423) == (rd ((rd_T31 t420 x15_2).f0) t424))=true:=beq_iff_eq.mpr c29
      have c29b1:((rd ((rd_T31 t417 x14_1).f0) t423) != (rd ((rd_T31 t420 x15_2).f0) t424))=false:=bne_eq_false_iff_eq.mpr c29
      clear c29
      by_cases c30:0 < (t417.length:Int)
      rotate_left
      ·rw [if_neg c30] at H
       exact absurd H (by simp)
      rw [if_pos c30] at H
      have c30b0:decide (0 < (t417.length:Int))=true:=decide_eq_true c30
      have c30b1:decide (0 < t417.length)=true:=decide_eq_true (by omega)
      clear c30
      by_cases c31:(((rd_T31 t417 x14_1).f0).length:Int)=(((rd_T31 t417 0).f0).length:Int)
      rotate_left
      ·rw [if_neg c31] at H
       have c31b0:((((rd_T31 t417 x14_1).f0).length:Int) == (((rd_T31 t417 0).f0).length:Int))=false:=beq_eq_false_iff_ne.mpr c31
       have c31b1:((((rd_T31 t417 x14_1).f0).length:Int) != (((rd_T31 t417 0).f0).length:Int))=true:=bne_iff_ne.mpr c31
       have c31b2:(((rd_T31 t417 x14_1).f0).length == ((rd_T31 t417 0).f0).length)=false:=by first|simpa using c31|(simp at c31 ⊢;omega)
       have H':=Aside0.mk H
       clear H
       rename_i iz1 iz2 iz3 iz4 iz5 iz6 iz7 iz8 iz9 iz10 iz11 iz12 iz13 iz14 iz15 iz16 iz17 iz18 iz19 iz20 iz21 iz22 iz23 iz24 iz25 iz26 iz27 iz28 iz29 iz30 iz31 iz32 iz33 iz34 iz35 iz36 iz37 iz38 iz39 iz40 iz41 iz42 iz43 iz44 iz45 iz46 iz47 iz48 iz49 iz50 iz51 iz52 iz53 iz54 iz55 iz56 iz57 iz58 iz59 iz60 iz61 iz62 iz63 iz64 iz65 iz66 iz67 iz68 iz69 iz70 iz71 iz72 iz73 iz74 iz75 iz76 iz77 iz78 iz79 iz80 iz81 iz82 iz83 iz84 iz85 iz86 iz87 iz88 iz89 iz90 iz91 iz92 iz93 iz94 iz95 iz96 iz97 iz98 iz99 iz100 iz101 iz102 iz103 iz104
       revert k A0 c0 l0 A1 c1 l1 r w HT0 HR_ HR0 HC0 HR1 HC1 t417 t420 t423 t424 A5 t425 t429 t432 A7 A9 A6 iz1 w12 Ao13 co13 Ao14 co14 w15 w16 Ao17 co17 Ao18 co18 w19 HO419 HO422 HO428 HO431 iz2 iz3 iz4 iz5 iz6 u15 u73 u74 u75 u76 u77 u78 iz7 iz8 iz9 iz10 iz11 iz12 iz13 iz14 iz15 iz16 iz17 iz18 iz19 iz20 iz21 iz22 iz23 iz24 iz25 iz26 iz27 iz28 iz29 iz30 iz31 iz32 iz33 iz34 iz35 iz36 iz37 iz38 iz39 iz40 iz41 iz42 iz43 iz44 iz45 iz46 iz47 iz48 iz49 iz50 iz51 iz52 iz53 iz54 iz55 iz56 iz57 iz58 iz59 iz60 iz61 iz62 iz63 iz64 iz65 iz66 iz67 iz68 iz69 iz70 iz71 iz72 iz73 iz74 iz75 iz76 iz77 iz78 iz79 iz80 iz81 iz82 iz83 iz84 iz85 iz86 iz87 iz88 iz89 iz90 iz91 iz92 iz93 x13_1 x14_1 iz94 iz95 iz96 iz97 k1 iz98 HK1 iz99 iz100 wr u4 u79 u80 u81 u82 u83 u84 u85 u86 u87 u88 u89 u90 u91 u92 u93 u94 u95 u96 u97 u98 u99 u100 u101 u102 u103 u104 u105 u106 u107 u108 u109 u110 u111 u112 u113 u114 u115 u116 u117 u118 u119 u120 u121 u122 u123 u124 u125 u126 u127 u128 u129 u130 u131 u132 u133 u134 u135 u136 u137 u138 u139 u140 u141 u142 u143 u144 u145 u146 u147 u148 u149 u150 u151 u152 u153 u154 u155 u156 u157 u158 u159 u160 u161 u162 iz101 iz102 iz103 x13_2 x15_2 HO_5 HO_6 HO_9 HB k2 iz104 HK2 c21b0 c22b0 c23b0 c24b0 c25b0 c26b0 c27b0 c28b0 c29b0 c29b1 c30b0 c30b1 c31 c31b0 c31b1 c31b2 H'
       exact hG1_.down
      rw [if_pos c31] at H
      have c31b0:((((rd_T31 t417 x14_1).f0).length:Int) == (((rd_T31 t417 0).f0).length:Int))=true:=beq_iff_eq.mpr c31
      have c31b1:((((rd_T31 t417 x14_1).f0).length:Int) != (((rd_T31 t417 0).f0).length:Int))=false:=bne_eq_false_iff_eq.mpr c31
      have c31b2:(((rd_T31 t417 x14_1).f0).length == ((rd_T31 t417 0).f0).length)=true:=by first|simpa using c31|(simp at c31 ⊢;omega)
      clear c31
      by_cases c32:0 < (t420.length:Int)
      rotate_left
      ·rw [if_neg c32] at H
       exact absurd H (by simp)
      rw [if_pos c32] at H
      have c32b0:decide (0 < (t420.length:Int))=true:=decide_eq_true c32
      have c32b1:decide (0 < t420.length)=true:=decide_eq_true (by omega)
      clear c32
      by_cases c33:(((rd_T31 t420 x15_2).f0).length:Int)=(((rd_T31 t420 0).f0).length:Int)
      rotate_left
      ·rw [if_neg c33] at H
       have c33b0:((((rd_T31 t420 x15_2).f0).length:Int) == (((rd_T31 t420 0).f0).length:Int))=false:=beq_eq_false_iff_ne.mpr c33
       have c33b1:((((rd_T31 t420 x15_2).f0).length:Int) != (((rd_T31 t420 0).f0).length:Int))=true:=bne_iff_ne.mpr c33
       have c33b2:(((rd_T31 t420 x15_2).f0).length == ((rd_T31 t420 0).f0).length)=false:=by first|simpa using c33|(simp at c33 ⊢;omega)
       have H':=Aside0.mk H
       clear H
       rename_i iz1 iz2 iz3 iz4 iz5 iz6 iz7 iz8 iz9 iz10 iz11 iz12 iz13 iz14 iz15 iz16 iz17 iz18 iz19 iz20 iz21 iz22 iz23 iz24 iz25 iz26 iz27 iz28 iz29 iz30 iz31 iz32 iz33 iz34 iz35 iz36 iz37 iz38 iz39 iz40 iz41 iz42 iz43 iz44 iz45 iz46 iz47 iz48 iz49 iz50 iz51 iz52 iz53 iz54 iz55 iz56 iz57 iz58 iz59 iz60 iz61 iz62 iz63 iz64 iz65 iz66 iz67 iz68 iz69 iz70 iz71 iz72 iz73 iz74 iz75 iz76 iz77 iz78 iz79 iz80 iz81 iz82 iz83 iz84 iz85 iz86 iz87 iz88 iz89 iz90 iz91 iz92 iz93 iz94 iz95 iz96 iz97 iz98 iz99 iz100 iz101 iz102 iz103 iz104
       revert k A0 c0 l0 A1 c1 l1 r w HT0 HR_ HR0 HC0 HR1 HC1 t417 t420 t423 t424 A5 t425 t429 t432 A7 A9 A6 iz1 w12 Ao13 co13 Ao14 co14 w15 w16 Ao17 co17 Ao18 co18 w19 HO419 HO422 HO428 HO431 iz2 iz3 iz4 iz5 iz6 u15 u73 u74 u75 u76 u77 u78 iz7 iz8 iz9 iz10 iz11 iz12 iz13 iz14 iz15 iz16 iz17 iz18 iz19 iz20 iz21 iz22 iz23 iz24 iz25 iz26 iz27 iz28 iz29 iz30 iz31 iz32 iz33 iz34 iz35 iz36 iz37 iz38 iz39 iz40 iz41 iz42 iz43 iz44 iz45 iz46 iz47 iz48 iz49 iz50 iz51 iz52 iz53 iz54 iz55 iz56 iz57 iz58 iz59 iz60 iz61 iz62 iz63 iz64 iz65 iz66 iz67 iz68 iz69 iz70 iz71 iz72 iz73 iz74 iz75 iz76 iz77 iz78 iz79 iz80 iz81 iz82 iz83 iz84 iz85 iz86 iz87 iz88 iz89 iz90 iz91 iz92 iz93 x13_1 x14_1 iz94 iz95 iz96 iz97 k1 iz98 HK1 iz99 iz100 wr u4 u79 u80 u81 u82 u83 u84 u85 u86 u87 u88 u89 u90 u91 u92 u93 u94 u95 u96 u97 u98 u99 u100 u101 u102 u103 u104 u105 u106 u107 u108 u109 u110 u111 u112 u113 u114 u115 u116 u117 u118 u119 u120 u121 u122 u123 u124 u125 u126 u127 u128 u129 u130 u131 u132 u133 u134 u135 u136 u137 u138 u139 u140 u141 u142 u143 u144 u145 u146 u147 u148 u149 u150 u151 u152 u153 u154 u155 u156 u157 u158 u159 u160 u161 u162 iz101 iz102 iz103 x13_2 x15_2 HO_5 HO_6 HO_9 HB k2 iz104 HK2 c21b0 c22b0 c23b0 c24b0 c25b0 c26b0 c27b0 c28b0 c29b0 c29b1 c30b0 c30b1 c31b0 c31b1 c31b2 c32b0 c32b1 c33 c33b0 c33b1 c33b2 H'
       exact hG2_.down
      rw [if_pos c33] at H
      have c33b0:((((rd_T31 t420 x15_2).f0).length:Int) == (((rd_T31 t420 0).f0).length:Int))=true:=beq_iff_eq.mpr c33
      have c33b1:((((rd_T31 t420 x15_2).f0).length:Int) != (((rd_T31 t420 0).f0).length:Int))=false:=bne_eq_false_iff_eq.mpr c33
      have c33b2:(((rd_T31 t420 x15_2).f0).length == ((rd_T31 t420 0).f0).length)=true:=by first|simpa using c33|(simp at c33 ⊢;omega)
      clear c33
      by_cases c34:(wrap64 (((rd_T31 t417 0).f1) * ((rd_T31 t420 0).f1)))=0
      ·rw [if_pos c34] at H
       have c34b0:((wrap64 (((rd_T31 t417 0).f1) * ((rd_T31 t420 0).f1))) == 0)=true:=beq_iff_eq.mpr c34
       have c34b1:((wrap64 (((rd_T31 t417 0).f1) * ((rd_T31 t420 0).f1))) != 0)=false:=bne_eq_false_iff_eq.mpr c34
       clear c34
       have H':=Aside0.mk H
       clear H
       rename_i iz1 iz2 iz3 iz4 iz5 iz6 iz7 iz8 iz9 iz10 iz11 iz12 iz13 iz14 iz15 iz16 iz17 iz18 iz19 iz20 iz21 iz22 iz23 iz24 iz25 iz26 iz27 iz28 iz29 iz30 iz31 iz32 iz33 iz34 iz35 iz36 iz37 iz38 iz39 iz40 iz41 iz42 iz43 iz44 iz45 iz46 iz47 iz48 iz49 iz50 iz51 iz52 iz53 iz54 iz55 iz56 iz57 iz58 iz59 iz60 iz61 iz62 iz63 iz64 iz65 iz66 iz67 iz68 iz69 iz70 iz71 iz72 iz73 iz74 iz75 iz76 iz77 iz78 iz79 iz80 iz81 iz82 iz83 iz84 iz85 iz86 iz87 iz88 iz89 iz90 iz91 iz92 iz93 iz94 iz95 iz96 iz97 iz98 iz99 iz100 iz101 iz102 iz103 iz104
       revert k A0 c0 l0 A1 c1 l1 r w HT0 HR_ HR0 HC0 HR1 HC1 t417 t420 t423 t424 A5 t425 t429 t432 A7 A9 A6 iz1 w12 Ao13 co13 Ao14 co14 w15 w16 Ao17 co17 Ao18 co18 w19 HO419 HO422 HO428 HO431 iz2 iz3 iz4 iz5 iz6 u15 u73 u74 u75 u76 u77 u78 iz7 iz8 iz9 iz10 iz11 iz12 iz13 iz14 iz15 iz16 iz17 iz18 iz19 iz20 iz21 iz22 iz23 iz24 iz25 iz26 iz27 iz28 iz29 iz30 iz31 iz32 iz33 iz34 iz35 iz36 iz37 iz38 iz39 iz40 iz41 iz42 iz43 iz44 iz45 iz46 iz47 iz48 iz49 iz50 iz51 iz52 iz53 iz54 iz55 iz56 iz57 iz58 iz59 iz60 iz61 iz62 iz63 iz64 iz65 iz66 iz67 iz68 iz69 iz70 iz71 iz72 iz73 iz74 iz75 iz76 iz77 iz78 iz79 iz80 iz81 iz82 iz83 iz84 iz85 iz86 iz87 iz88 iz89 iz90 iz91 iz92 iz93 x13_1 x14_1 iz94 iz95 iz96 iz97 k1 iz98 HK1 iz99 iz100 wr u4 u79 u80 u81 u82 u83 u84 u85 u86 u87 u88 u89 u90 u91 u92 u93 u94 u95 u96 u97 u98 u99 u100 u101 u102 u103 u104 u105 u106 u107 u108 u109 u110 u111 u112 u113 u114 u115 u116 u117 u118 u119 u120 u121 u122 u123 u124 u125 u126 u127 u128 u129 u130 u131 u132 u133 u134 u135 u136 u137 u138 u139 u140 u141 u142 u143 u144 u145 u146 u147 u148 u149 u150 u151 u152 u153 u154 u155 u156 u157 u158 u159 u160 u161 u162 iz101 iz102 iz103 x13_2 x15_2 HO_5 HO_6 HO_9 HB k2 iz104 HK2 c21b0 c22b0 c23b0 c24b0 c25b0 c26b0 c27b0 c28b0 c29b0 c29b1 c30b0 c30b1 c31b0 c31b1 c31b2 c32b0 c32b1 c33b0 c33b1 c33b2 c34b0 c34b1 H'
       exact hG3_.down
      rw [if_neg c34] at H
      have c34b0:((wrap64 (((rd_T31 t417 0).f1) * ((rd_T31 t420 0).f1))) == 0)=false:=beq_eq_false_iff_ne.mpr c34
      have c34b1:((wrap64 (((rd_T31 t417 0).f1) * ((rd_T31 t420 0).f1))) != 0)=true:=bne_iff_ne.mpr c34
      replace H:=Option.bind_eq_some_iff.mp H
      obtain ⟨t446,A370,H⟩:=H
      (try dsimp only at H)
      have A37:=Aside0.mk A370
      clear A370
      replace H:=Option.bind_eq_some_iff.mp H
      obtain ⟨t449,A380,H⟩:=H
      (try dsimp only at H)
      have A38:=Aside0.mk A380
      clear A380
      by_cases c39:t449=0
      rotate_left
      ·rw [if_neg c39] at H
       have c39b0:(t449 == 0)=false:=beq_eq_false_iff_ne.mpr c39
       have c39b1:(t449 != 0)=true:=bne_iff_ne.mpr c39
       have H':=Aside0.mk H
       clear H
       rename_i iz1 iz2 iz3 iz4 iz5 iz6 iz7 iz8 iz9 iz10 iz11 iz12 iz13 iz14 iz15 iz16 iz17 iz18 iz19 iz20 iz21 iz22 iz23 iz24 iz25 iz26 iz27 iz28 iz29 iz30 iz31 iz32 iz33 iz34 iz35 iz36 iz37 iz38 iz39 iz40 iz41 iz42 iz43 iz44 iz45 iz46 iz47 iz48 iz49 iz50 iz51 iz52 iz53 iz54 iz55 iz56 iz57 iz58 iz59 iz60 iz61 iz62 iz63 iz64 iz65 iz66 iz67 iz68 iz69 iz70 iz71 iz72 iz73 iz74 iz75 iz76 iz77 iz78 iz79 iz80 iz81 iz82 iz83 iz84 iz85 iz86 iz87 iz88 iz89 iz90 iz91 iz92 iz93 iz94 iz95 iz96 iz97 iz98 iz99 iz100 iz101 iz102 iz103 iz104
       revert k A0 c0 l0 A1 c1 l1 r w HT0 HR_ HR0 HC0 HR1 HC1 t417 t420 t423 t424 A5 t425 t429 t432 A7 A9 A6 iz1 w12 Ao13 co13 Ao14 co14 w15 w16 Ao17 co17 Ao18 co18 w19 HO419 HO422 HO428 HO431 iz2 iz3 iz4 iz5 iz6 u15 u73 u74 u75 u76 u77 u78 iz7 iz8 iz9 iz10 iz11 iz12 iz13 iz14 iz15 iz16 iz17 iz18 iz19 iz20 iz21 iz22 iz23 iz24 iz25 iz26 iz27 iz28 iz29 iz30 iz31 iz32 iz33 iz34 iz35 iz36 iz37 iz38 iz39 iz40 iz41 iz42 iz43 iz44 iz45 iz46 iz47 iz48 iz49 iz50 iz51 iz52 iz53 iz54 iz55 iz56 iz57 iz58 iz59 iz60 iz61 iz62 iz63 iz64 iz65 iz66 iz67 iz68 iz69 iz70 iz71 iz72 iz73 iz74 iz75 iz76 iz77 iz78 iz79 iz80 iz81 iz82 iz83 iz84 iz85 iz86 iz87 iz88 iz89 iz90 iz91 iz92 iz93 x13_1 x14_1 iz94 iz95 iz96 iz97 k1 iz98 HK1 iz99 iz100 wr u4 u79 u80 u81 u82 u83 u84 u85 u86 u87 u88 u89 u90 u91 u92 u93 u94 u95 u96 u97 u98 u99 u100 u101 u102 u103 u104 u105 u106 u107 u108 u109 u110 u111 u112 u113 u114 u115 u116 u117 u118 u119 u120 u121 u122 u123 u124 u125 u126 u127 u128 u129 u130 u131 u132 u133 u134 u135 u136 u137 u138 u139 u140 u141 u142 u143 u144 u145 u146 u147 u148 u149 u150 u151 u152 u153 u154 u155 u156 u157 u158 u159 u160 u161 u162 iz101 iz102 iz103 x13_2 x15_2 HO_5 HO_6 HO_9 HB k2 iz104 HK2 c21b0 c22b0 c23b0 c24b0 c25b0 c26b0 c27b0 c28b0 c29b0 c29b1 c30b0 c30b1 c31b0 c31b1 c31b2 c32b0 c32b1 c33b0 c33b1 c33b2 c34 c34b0 c34b1 t446 A37 t449 A38 c39 c39b0 c39b1 H'
       exact hG4_.down
      rw [if_pos c39] at H
      have c39b0:(t449 == 0)=true:=beq_iff_eq.mpr c39
      have c39b1:(t449 != 0)=false:=bne_eq_false_iff_eq.mpr c39
      clear c39
      by_cases c40:(t417.length:Int) < 2
      ·rw [if_pos c40] at H
       have c40b0:decide ((t417.length:Int) < 2)=true:=decide_eq_true c40
       have c40b1:decide (t417.length < 2)=true:=decide_eq_true (by omega)
       clear c40
       exact absurd ((Option.some.inj H).trans HR_.out) (by decide)
      rw [if_neg c40] at H
      have c40b0:decide ((t417.length:Int) < 2)=false:=decide_eq_false c40
      have c40b1:decide (t417.length < 2)=false:=decide_eq_false (by omega)
      clear c40
      have H':=Aside0.mk H
      clear H
      rename_i iz1 iz2 iz3 iz4 iz5 iz6 iz7 iz8 iz9 iz10 iz11 iz12 iz13 iz14 iz15 iz16 iz17 iz18 iz19 iz20 iz21 iz22 iz23 iz24 iz25 iz26 iz27 iz28 iz29 iz30 iz31 iz32 iz33 iz34 iz35 iz36 iz37 iz38 iz39 iz40 iz41 iz42 iz43 iz44 iz45 iz46 iz47 iz48 iz49 iz50 iz51 iz52 iz53 iz54 iz55 iz56 iz57 iz58 iz59 iz60 iz61 iz62 iz63 iz64 iz65 iz66 iz67 iz68 iz69 iz70 iz71 iz72 iz73 iz74 iz75 iz76 iz77 iz78 iz79 iz80 iz81 iz82 iz83 iz84 iz85 iz86 iz87 iz88 iz89 iz90 iz91 iz92 iz93 iz94 iz95 iz96 iz97 iz98 iz99 iz100 iz101 iz102 iz103 iz104
      revert k A0 c0 l0 A1 c1 l1 r w HT0 HR_ HR0 HC0 HR1 HC1 t417 t420 t423 t424 A5 t425 t429 t432 A7 A9 A6 iz1 w12 Ao13 co13 Ao14 co14 w15 w16 Ao17 co17 Ao18 co18 w19 HO419 HO422 HO428 HO431 iz2 iz3 iz4 iz5 iz6 u15 u73 u74 u75 u76 u77 u78 iz7 iz8 iz9 iz10 iz11 iz12 iz13 iz14 iz15 iz16 iz17 iz18 iz19 iz20 iz21 iz22 iz23 iz24 iz25 iz26 iz27 iz28 iz29 iz30 iz31 iz32 iz33 iz34 iz35 iz36 iz37 iz38 iz39 iz40 iz41 iz42 iz43 iz44 iz45 iz46 iz47 iz48 iz49 iz50 iz51 iz52 iz53 iz54 iz55 iz56 iz57 iz58 iz59 iz60 iz61 iz62 iz63 iz64 iz65 iz66 iz67 iz68 iz69 iz70 iz71 iz72 iz73 iz74 iz75 iz76 iz77 iz78 iz79 iz80 iz81 iz82 iz83 iz84 iz85 iz86 iz87 iz88 iz89 iz90 iz91 iz92 iz93 x13_1 x14_1 iz94 iz95 iz96 iz97 k1 iz98 HK1 iz99 iz100 wr u4 u79 u80 u81 u82 u83 u84 u85 u86 u87 u88 u89 u90 u91 u92 u93 u94 u95 u96 u97 u98 u99 u100 u101 u102 u103 u104 u105 u106 u107 u108 u109 u110 u111 u112 u113 u114 u115 u116 u117 u118 u119 u120 u121 u122 u123 u124 u125 u126 u127 u128 u129 u130 u131 u132 u133 u134 u135 u136 u137 u138 u139 u140 u141 u142 u143 u144 u145 u146 u147 u148 u149 u150 u151 u152 u153 u154 u155 u156 u157 u158 u159 u160 u161 u162 iz101 iz102 iz103 x13_2 x15_2 HO_5 HO_6 HO_9 HB k2 iz104 HK2 c21b0 c22b0 c23b0 c24b0 c25b0 c26b0 c27b0 c28b0 c29b0 c29b1 c30b0 c30b1 c31b0 c31b1 c31b2 c32b0 c32b1 c33b0 c33b1 c33b2 c34 c34b0 c34b1 t446 A37 t449 A38 c39b0 c39b1 c40b0 c40b1 H'
      exact hG5_.down

set_option maxHeartbeats 8000000 in
set_option maxRecDepth 100000 in
theorem laws_FnJoin.way0 : laws_FnJoin.cut.1 := by
 intro k A0 c0 l0 A1 c1 l1 r w HT0 HR_ HR0 HC0 HR1 HC1 t417 t420 t423 t424 A5 t425 t429 t432 A7 A9 A6 iz1 w12 Ao13 co13 Ao14 co14 w15 w16 Ao17 co17 Ao18 co18 w19 HO419 HO422 HO428 HO431 iz2 iz3 iz4 iz5 iz6 u15 u73 u74 u75 u76 u77 u78 iz7 iz8 iz9 iz10 iz11 iz12 iz13 iz14 iz15 iz16 iz17 iz18 iz19 iz20 iz21 iz22 iz23 iz24 iz25 iz26 iz27 iz28 iz29 iz30 iz31 iz32 iz33 iz34 iz35 iz36 iz37 iz38 iz39 iz40 iz41 iz42 iz43 iz44 iz45 iz46 iz47 iz48 iz49 iz50 iz51 iz52 iz53 iz54 iz55 iz56 iz57 iz58 iz59 iz60 iz61 iz62 iz63 iz64 iz65 iz66 iz67 iz68 iz69 iz70 iz71 iz72 iz73 iz74 iz75 iz76 iz77 iz78 iz79 iz80 iz81 iz82 iz83 iz84 iz85 iz86 iz87 iz88 iz89 iz90 iz91 iz92 iz93 x13_1 x14_1 iz94 iz95 iz96 iz97 k1 iz98 HK1 iz99 iz100 wr u4 u79 u80 u81 u82 u83 u84 u85 u86 u87 u88 u89 u90 u91 u92 u93 u94 u95 u96 u97 u98 u99 u100 u101 u102 u103 u104 u105 u106 u107 u108 u109 u110 u111 u112 u113 u114 u115 u116 u117 u118 u119 u120 u121 u122 u123 u124 u125 u126 u127 u128 u129 u130 u131 u132 u133 u134 u135 u136 u137 u138 u139 u140 u141 u142 u143 u144 u145 u146 u147 u148 u149 u150 u151 u152 u153 u154 u155 u156 u157 u158 u159 u160 u161 u162 iz101 iz102 iz103 x13_2 x15_2 HO_5 HO_6 HO_9 HB k2 iz104 HK2 c21b0 c22b0 c23b0 c24b0 c25b0 c26b0 c27b0 c28b0 c29 c29b0 c29b1 H'
 try go_wp2
 have n0_:=Aside0.mk (Kd.N_drew HO_5.out)
 have n1_:=Aside0.mk (Kd.N_drew HO_6.out)
 have n2_:=Aside0.mk (Kd.N_drew HO_9.out)
 have n3_:=Aside0.mk (below_drew1 HB.out)
 clear HO_5
 clear HO_6
 clear HO_9
 clear HB
 have HO_5:=n0_
 have HO_6:=n1_
 have HO_9:=n2_
 have HB:=n3_
 clear n0_ n1_ n2_ n3_
 have p434:0≤(x14_1:Int):=zod
 have q434:x14_1 < (t417.length:Int):=zod
 obtain ⟨ad434,A434_0,c434_0,e434,hx434_0,hx434_1,hl434_0,hi434_0⟩:=at_T31 (Kd.N_reads' HO_5.out).2.2 x14_1 p434 q434
 cases e434
 obtain ⟨ce434,hce434,hMe434,hcc434⟩:=Kd.N_get HO_5.out z31 x14_1 p434 (by first|exact q434|exact zod|(have e_:=(Kd.N_reads' HO_5.out).1;omega))
 obtain ⟨ua434_0,uc434_0,rfl,ul434_0,ge434_0⟩:=k31_openF hMe434
 have hv434_0:=hcc434 0 _ rfl
 rw [Nat.add_zero] at hv434_0
 replace hv434_0:=Option.some.inj (hv434_0.symm.trans hx434_0)
 injection hv434_0 with hva_ hvn_ hvc_
 rw [hva_] at ge434_0
 rw [hvc_] at ul434_0
 have HL434_0:=Aside0.mk (show Kd.V (Kd.int .i64) 3 _ w.heap.size _ _ ((rd_T31 t417 x14_1).f0) from Kd.V_mk ul434_0 ge434_0)
 clear hva_ hvn_ hvc_ ge434_0 ul434_0
 clear hcc434 hce434
 have HR434_0:=Aside0.mk hi434_0
 have HC434_0:=Aside0.mk hl434_0
 clear hi434_0 hl434_0
 replace p434:=eq_true p434
 replace q434:=eq_true q434
 have p435:0≤(t423:Int):=zod
 have q435:t423 < (((rd_T31 t417 x14_1).f0).length:Int):=zod
 obtain ⟨ad435,e435,hx435_0⟩:=Kd.at_int (zC HR434_0.out) t423 p435 q435
 cases e435
 replace p435:=eq_true p435
 replace q435:=eq_true q435
 have p436:0≤(x15_2:Int):=zod
 have q436:x15_2 < (t420.length:Int):=zod
 obtain ⟨ad436,A436_0,c436_0,e436,hx436_0,hx436_1,hl436_0,hi436_0⟩:=at_T31 (Kd.N_reads' HO_6.out).2.2 x15_2 p436 q436
 cases e436
 obtain ⟨ce436,hce436,hMe436,hcc436⟩:=Kd.N_get HO_6.out z31 x15_2 p436 (by first|exact q436|exact zod|(have e_:=(Kd.N_reads' HO_6.out).1;omega))
 obtain ⟨ua436_0,uc436_0,rfl,ul436_0,ge436_0⟩:=k31_openF hMe436
 have hv436_0:=hcc436 0 _ rfl
 rw [Nat.add_zero] at hv436_0
 replace hv436_0:=Option.some.inj (hv436_0.symm.trans hx436_0)
 injection hv436_0 with hva_ hvn_ hvc_
 rw [hva_] at ge436_0
 rw [hvc_] at ul436_0
 have HL436_0:=Aside0.mk (show Kd.V (Kd.int .i64) 3 _ w.heap.size _ _ ((rd_T31 t420 x15_2).f0) from Kd.V_mk ul436_0 ge436_0)
 clear hva_ hvn_ hvc_ ge436_0 ul436_0
 clear hcc436 hce436
 have HR436_0:=Aside0.mk hi436_0
 have HC436_0:=Aside0.mk hl436_0
 clear hi436_0 hl436_0
 replace p436:=eq_true p436
 replace q436:=eq_true q436
 have p437:0≤(t424:Int):=zod
 have q437:t424 < (((rd_T31 t420 x15_2).f0).length:Int):=zod
 obtain ⟨ad437,e437,hx437_0⟩:=Kd.at_int (zC HR436_0.out) t424 p437 q437
 cases e437
 replace p437:=eq_true p437
 replace q437:=eq_true q437
 refine start_ (n:=17) (S:=fun w'=>w'.cell? (ad434.add ((x14_1).toNat * 2))=some (.slice (some ad435) ((rd_T31 t417 x14_1).f0).length c434_0)∧w'.cell? ⟨(ad434.add ((x14_1).toNat * 2)).block,(ad434.add ((x14_1).toNat * 2)).off + 1,none⟩=some (.int .i64 ((rd_T31 t417 x14_1).f1))∧w'.cell? (ad435.add (t423).toNat)=some (.int .i64 (rd ((rd_T31 t417 x14_1).f0) t423))∧w'.cell? (ad436.add ((x15_2).toNat * 2))=some (.slice (some ad437) ((rd_T31 t420 x15_2).f0).length c436_0)∧w'.cell? ⟨(ad436.add ((x15_2).toNat * 2)).block,(ad436.add ((x15_2).toNat * 2)).off + 1,none⟩=some (.int .i64 ((rd_T31 t420 x15_2).f1))∧w'.cell? (ad437.add (t424).toNat)=some (.int .i64 (rd ((rd_T31 t420 x15_2).f0) t424))) (ds:=[]) (zm 17 0) (by kernel_rfl) rfl rfl ⟨hx434_0,hx434_1,hx435_0,hx436_0,hx436_1,hx437_0⟩ (fun hHeld=>?_);refine with_tabW laws_FnJoin.tab17 laws_FnJoin.bits17 (fun HT_ HW_=>?_)
 generalize wr.drew=w55 at HO_5 HO_6 HO_9 HB HL434_0 HL436_0 HR434_0 HR436_0 hx434_0 hx434_1 hx435_0 hx436_0 hx436_1 hx437_0 hHeld ⊢
 refine zpu 0 85 17 1 ?_
 refine zpu 1 86 17 3 ?_
 refine zpu 2 87 17 7 ?_
 refine zpu 3 88 17 15 ?_
 refine zpu 5 90 17 47 ?_
 refine zpu 8 93 17 303 ?_
 refine zpu 9 94 17 815 ?_
 refine zpu 10 95 17 1839 ?_
 refine zpu 11 96 17 3887 ?_
 refine zpu 13 98 17 12079 ?_
 refine zta 4 89 17 12095 ?_
 refine zpu 6 91 17 12159 ?_
 refine zta 7 92 17 12287 ?_
 refine zta 12 97 17 16383 ?_
 refine zpu 14 99 17 32767 ?_
 refine zta 15 100 17 65535 ?_
 refine zpu 16 101 17 131071 ?_
 refine done_ (done_of HT_.out (by kernel_rfl)) ?_
 try go_wp2
 go_roundg k2
 case measure=>have:=HK1.out;have:=HK2.out;omega
 case rel=>exact ⟨(x13_2),(wrap64 (x15_2 + 1)),(by first|rfl|(rw [HR_.out];first|done|rfl)|(simp;done)|(simp [*];done)),(by first|rfl|(rw [HR_.out];first|done|rfl)|(simp;done)|(simp [*];done)),H',⟨by have:=HK1.out;have:=HK2.out;omega⟩,⟨by (with_reducible repeat (first|apply Kd.N_alloc|apply Kd.N_drewN|apply Kd.N_drew));exact HO_5.out⟩,⟨by (with_reducible repeat (first|apply Kd.N_alloc|apply Kd.N_drewN|apply Kd.N_drew));exact HO_6.out⟩,⟨by (with_reducible repeat (first|apply Kd.N_alloc|apply Kd.N_drewN|apply Kd.N_drew));exact HO_9.out⟩,⟨zhb⟩⟩

set_option maxHeartbeats 8000000 in
set_option maxRecDepth 100000 in
theorem laws_FnJoin.way1 : laws_FnJoin.cut.2.1 := by
 intro k A0 c0 l0 A1 c1 l1 r w HT0 HR_ HR0 HC0 HR1 HC1 t417 t420 t423 t424 A5 t425 t429 t432 A7 A9 A6 iz1 w12 Ao13 co13 Ao14 co14 w15 w16 Ao17 co17 Ao18 co18 w19 HO419 HO422 HO428 HO431 iz2 iz3 iz4 iz5 iz6 u15 u73 u74 u75 u76 u77 u78 iz7 iz8 iz9 iz10 iz11 iz12 iz13 iz14 iz15 iz16 iz17 iz18 iz19 iz20 iz21 iz22 iz23 iz24 iz25 iz26 iz27 iz28 iz29 iz30 iz31 iz32 iz33 iz34 iz35 iz36 iz37 iz38 iz39 iz40 iz41 iz42 iz43 iz44 iz45 iz46 iz47 iz48 iz49 iz50 iz51 iz52 iz53 iz54 iz55 iz56 iz57 iz58 iz59 iz60 iz61 iz62 iz63 iz64 iz65 iz66 iz67 iz68 iz69 iz70 iz71 iz72 iz73 iz74 iz75 iz76 iz77 iz78 iz79 iz80 iz81 iz82 iz83 iz84 iz85 iz86 iz87 iz88 iz89 iz90 iz91 iz92 iz93 x13_1 x14_1 iz94 iz95 iz96 iz97 k1 iz98 HK1 iz99 iz100 wr u4 u79 u80 u81 u82 u83 u84 u85 u86 u87 u88 u89 u90 u91 u92 u93 u94 u95 u96 u97 u98 u99 u100 u101 u102 u103 u104 u105 u106 u107 u108 u109 u110 u111 u112 u113 u114 u115 u116 u117 u118 u119 u120 u121 u122 u123 u124 u125 u126 u127 u128 u129 u130 u131 u132 u133 u134 u135 u136 u137 u138 u139 u140 u141 u142 u143 u144 u145 u146 u147 u148 u149 u150 u151 u152 u153 u154 u155 u156 u157 u158 u159 u160 u161 u162 iz101 iz102 iz103 x13_2 x15_2 HO_5 HO_6 HO_9 HB k2 iz104 HK2 c21b0 c22b0 c23b0 c24b0 c25b0 c26b0 c27b0 c28b0 c29b0 c29b1 c30b0 c30b1 c31 c31b0 c31b1 c31b2 H'
 try go_wp2
 have n0_:=Aside0.mk (Kd.N_drew HO_5.out)
 have n1_:=Aside0.mk (Kd.N_drew HO_6.out)
 have n2_:=Aside0.mk (Kd.N_drew HO_9.out)
 have n3_:=Aside0.mk (below_drew1 HB.out)
 clear HO_5
 clear HO_6
 clear HO_9
 clear HB
 have HO_5:=n0_
 have HO_6:=n1_
 have HO_9:=n2_
 have HB:=n3_
 clear n0_ n1_ n2_ n3_
 have p434:0≤(x14_1:Int):=zod
 have q434:x14_1 < (t417.length:Int):=zod
 obtain ⟨ad434,A434_0,c434_0,e434,hx434_0,hx434_1,hl434_0,hi434_0⟩:=at_T31 (Kd.N_reads' HO_5.out).2.2 x14_1 p434 q434
 cases e434
 obtain ⟨ce434,hce434,hMe434,hcc434⟩:=Kd.N_get HO_5.out z31 x14_1 p434 (by first|exact q434|exact zod|(have e_:=(Kd.N_reads' HO_5.out).1;omega))
 obtain ⟨ua434_0,uc434_0,rfl,ul434_0,ge434_0⟩:=k31_openF hMe434
 have hv434_0:=hcc434 0 _ rfl
 rw [Nat.add_zero] at hv434_0
 replace hv434_0:=Option.some.inj (hv434_0.symm.trans hx434_0)
 injection hv434_0 with hva_ hvn_ hvc_
 rw [hva_] at ge434_0
 rw [hvc_] at ul434_0
 have HL434_0:=Aside0.mk (show Kd.V (Kd.int .i64) 3 _ w.heap.size _ _ ((rd_T31 t417 x14_1).f0) from Kd.V_mk ul434_0 ge434_0)
 clear hva_ hvn_ hvc_ ge434_0 ul434_0
 clear hcc434 hce434
 have HR434_0:=Aside0.mk hi434_0
 have HC434_0:=Aside0.mk hl434_0
 clear hi434_0 hl434_0
 replace p434:=eq_true p434
 replace q434:=eq_true q434
 have p435:0≤(t423:Int):=zod
 have q435:t423 < (((rd_T31 t417 x14_1).f0).length:Int):=zod
 obtain ⟨ad435,e435,hx435_0⟩:=Kd.at_int (zC HR434_0.out) t423 p435 q435
 cases e435
 replace p435:=eq_true p435
 replace q435:=eq_true q435
 have p436:0≤(x15_2:Int):=zod
 have q436:x15_2 < (t420.length:Int):=zod
 obtain ⟨ad436,A436_0,c436_0,e436,hx436_0,hx436_1,hl436_0,hi436_0⟩:=at_T31 (Kd.N_reads' HO_6.out).2.2 x15_2 p436 q436
 cases e436
 obtain ⟨ce436,hce436,hMe436,hcc436⟩:=Kd.N_get HO_6.out z31 x15_2 p436 (by first|exact q436|exact zod|(have e_:=(Kd.N_reads' HO_6.out).1;omega))
 obtain ⟨ua436_0,uc436_0,rfl,ul436_0,ge436_0⟩:=k31_openF hMe436
 have hv436_0:=hcc436 0 _ rfl
 rw [Nat.add_zero] at hv436_0
 replace hv436_0:=Option.some.inj (hv436_0.symm.trans hx436_0)
 injection hv436_0 with hva_ hvn_ hvc_
 rw [hva_] at ge436_0
 rw [hvc_] at ul436_0
 have HL436_0:=Aside0.mk (show Kd.V (Kd.int .i64) 3 _ w.heap.size _ _ ((rd_T31 t420 x15_2).f0) from Kd.V_mk ul436_0 ge436_0)
 clear hva_ hvn_ hvc_ ge436_0 ul436_0
 clear hcc436 hce436
 have HR436_0:=Aside0.mk hi436_0
 have HC436_0:=Aside0.mk hl436_0
 clear hi436_0 hl436_0
 replace p436:=eq_true p436
 replace q436:=eq_true q436
 have p437:0≤(t424:Int):=zod
 have q437:t424 < (((rd_T31 t420 x15_2).f0).length:Int):=zod
 obtain ⟨ad437,e437,hx437_0⟩:=Kd.at_int (zC HR436_0.out) t424 p437 q437
 cases e437
 replace p437:=eq_true p437
 replace q437:=eq_true q437
 refine start_ (n:=17) (S:=fun w'=>w'.cell? (ad434.add ((x14_1).toNat * 2))=some (.slice (some ad435) ((rd_T31 t417 x14_1).f0).length c434_0)∧w'.cell? ⟨(ad434.add ((x14_1).toNat * 2)).block,(ad434.add ((x14_1).toNat * 2)).off + 1,none⟩=some (.int .i64 ((rd_T31 t417 x14_1).f1))∧w'.cell? (ad435.add (t423).toNat)=some (.int .i64 (rd ((rd_T31 t417 x14_1).f0) t423))∧w'.cell? (ad436.add ((x15_2).toNat * 2))=some (.slice (some ad437) ((rd_T31 t420 x15_2).f0).length c436_0)∧w'.cell? ⟨(ad436.add ((x15_2).toNat * 2)).block,(ad436.add ((x15_2).toNat * 2)).off + 1,none⟩=some (.int .i64 ((rd_T31 t420 x15_2).f1))∧w'.cell? (ad437.add (t424).toNat)=some (.int .i64 (rd ((rd_T31 t420 x15_2).f0) t424))) (ds:=[]) (zm 17 0) (by kernel_rfl) rfl rfl ⟨hx434_0,hx434_1,hx435_0,hx436_0,hx436_1,hx437_0⟩ (fun hHeld=>?_);refine with_tabW laws_FnJoin.tab17 laws_FnJoin.bits17 (fun HT_ HW_=>?_)
 generalize wr.drew=w53 at HO_5 HO_6 HO_9 HB HL434_0 HL436_0 HR434_0 HR436_0 hx434_0 hx434_1 hx435_0 hx436_0 hx436_1 hx437_0 hHeld ⊢
 refine zpu 0 85 17 1 ?_
 refine zpu 1 86 17 3 ?_
 refine zpu 2 87 17 7 ?_
 refine zpu 3 88 17 15 ?_
 refine zpu 5 90 17 47 ?_
 refine zpu 8 93 17 303 ?_
 refine zpu 9 94 17 815 ?_
 refine zpu 10 95 17 1839 ?_
 refine zpu 11 96 17 3887 ?_
 refine zpu 13 98 17 12079 ?_
 refine zta 4 89 17 12095 ?_
 refine zpu 6 91 17 12159 ?_
 refine zta 7 92 17 12287 ?_
 refine zta 12 97 17 16383 ?_
 refine zpu 14 99 17 32767 ?_
 refine zta 15 100 17 65535 ?_
 refine zpu 16 101 17 131071 ?_
 refine done_ (done_of HT_.out (by kernel_rfl)) ?_
 try go_wp2
 have n0_:=Aside0.mk (Kd.N_drew HO_5.out)
 have n1_:=Aside0.mk (Kd.N_drew HO_6.out)
 have n2_:=Aside0.mk (Kd.N_drew HO_9.out)
 have n3_:=Aside0.mk (Kd.V_drew HL434_0.out)
 have n4_:=Aside0.mk (Kd.V_drew HL436_0.out)
 have n5_:=Aside0.mk (Kd.C_drew HR434_0.out)
 have n6_:=Aside0.mk (Kd.C_drew HR436_0.out)
 have n7_:=Aside0.mk (below_drew1 HB.out)
 clear HO_5
 clear HO_6
 clear HO_9
 clear HL434_0
 clear HL436_0
 clear HR434_0
 clear HR436_0
 clear HB
 have HO_5:=n0_
 have HO_6:=n1_
 have HO_9:=n2_
 have HL434_0:=n3_
 have HL436_0:=n4_
 have HR434_0:=n5_
 have HR436_0:=n6_
 have HB:=n7_
 clear n0_ n1_ n2_ n3_ n4_ n5_ n6_ n7_
 have p438:0≤(x14_1:Int):=zod
 have q438:x14_1 < (t417.length:Int):=zod
 obtain ⟨ad438,A438_0,c438_0,e438,hx438_0,hx438_1,hl438_0,hi438_0⟩:=at_T31 (Kd.N_reads' HO_5.out).2.2 x14_1 p438 q438
 obtain rfl:ad434=ad438:=(by injection e438)
 obtain ⟨ce438,hce438,hMe438,hcc438⟩:=Kd.N_get HO_5.out z31 x14_1 p438 (by first|exact q438|exact zod|(have e_:=(Kd.N_reads' HO_5.out).1;omega))
 obtain ⟨ua438_0,uc438_0,rfl,ul438_0,ge438_0⟩:=k31_openF hMe438
 have hv438_0:=hcc438 0 _ rfl
 rw [Nat.add_zero] at hv438_0
 replace hv438_0:=Option.some.inj (hv438_0.symm.trans hx438_0)
 injection hv438_0 with hva_ hvn_ hvc_
 rw [hva_] at ge438_0
 rw [hvc_] at ul438_0
 have HL438_0:=Aside0.mk (show Kd.V (Kd.int .i64) 3 _ w.heap.size _ _ ((rd_T31 t417 x14_1).f0) from Kd.V_mk ul438_0 ge438_0)
 clear hva_ hvn_ hvc_ ge438_0 ul438_0
 clear hcc438 hce438
 have HR438_0:=Aside0.mk hi438_0
 have HC438_0:=Aside0.mk hl438_0
 clear hi438_0 hl438_0
 replace p438:=eq_true p438
 replace q438:=eq_true q438
 have p439:0≤(0:Int):=(by omega)
 have q439:0 < (t417.length:Int):=zod
 obtain ⟨ad439,A439_0,c439_0,e439,hx439_0,hx439_1,hl439_0,hi439_0⟩:=at_T31 (Kd.N_reads' HO_5.out).2.2 0 p439 q439
 obtain rfl:ad434=ad439:=(by injection e439)
 obtain ⟨ce439,hce439,hMe439,hcc439⟩:=Kd.N_get HO_5.out z31 0 p439 (by first|exact q439|exact zod|(have e_:=(Kd.N_reads' HO_5.out).1;omega))
 obtain ⟨ua439_0,uc439_0,rfl,ul439_0,ge439_0⟩:=k31_openF hMe439
 have hv439_0:=hcc439 0 _ rfl
 rw [Nat.add_zero] at hv439_0
 replace hv439_0:=Option.some.inj (hv439_0.symm.trans hx439_0)
 injection hv439_0 with hva_ hvn_ hvc_
 rw [hva_] at ge439_0
 rw [hvc_] at ul439_0
 have HL439_0:=Aside0.mk (show Kd.V (Kd.int .i64) 3 _ w.heap.size _ _ ((rd_T31 t417 0).f0) from Kd.V_mk ul439_0 ge439_0)
 clear hva_ hvn_ hvc_ ge439_0 ul439_0
 clear hcc439 hce439
 have qi439:(0 < t417.length)=True:=eq_true (by omega)
 (try rw [show ((0:Int)).toNat=0 from rfl] at hx439_0)
 (try rw [show 0 * 2=0 from rfl] at hx439_0)
 (try rw [Addr.add_zero'] at hx439_0)
 (try rw [show ((0:Int)).toNat=0 from rfl] at hx439_1)
 (try rw [show 0 * 2=0 from rfl] at hx439_1)
 (try rw [Addr.add_zero'] at hx439_1)
 have HR439_0:=Aside0.mk hi439_0
 have HC439_0:=Aside0.mk hl439_0
 clear hi439_0 hl439_0
 replace p439:=eq_true p439
 replace q439:=eq_true q439
 refine start_ (n:=59) (S:=fun w'=>w'.cell? (ad434.add ((x14_1).toNat * 2))=some (.slice A438_0 ((rd_T31 t417 x14_1).f0).length c438_0)∧w'.cell? ⟨(ad434.add ((x14_1).toNat * 2)).block,(ad434.add ((x14_1).toNat * 2)).off + 1,none⟩=some (.int .i64 ((rd_T31 t417 x14_1).f1))∧w'.cell? ad434=some (.slice A439_0 ((rd_T31 t417 0).f0).length c439_0)∧w'.cell? ⟨ad434.block,ad434.off + 1,none⟩=some (.int .i64 ((rd_T31 t417 0).f1))) (ds:=[]) (zm 59 0) (by kernel_rfl) rfl rfl ⟨hx438_0,hx438_1,hx439_0,hx439_1⟩ (fun hHeld=>?_);refine with_tabW laws_FnJoin.tab19 laws_FnJoin.bits19 (fun HT_ HW_=>?_)
 generalize w53.drew=w54 at HO_5 HO_6 HO_9 HL434_0 HL436_0 HR434_0 HR436_0 HB HL438_0 HL439_0 HR438_0 HR439_0 hx438_0 hx438_1 hx439_0 hx439_1 hHeld ⊢
 refine zpu 0 104 59 1 ?_
 refine zpu 1 105 59 3 ?_
 refine zpu 2 106 59 7 ?_
 refine zpu 3 107 59 15 ?_
 refine zpu 6 110 59 79 ?_
 refine zpu 7 111 59 207 ?_
 refine zpu 8 112 59 463 ?_
 refine zta 4 108 59 479 ?_
 refine zpu 5 109 59 511 ?_
 refine zta 9 113 59 1023 ?_
 refine zpu 10 114 59 2047 ?_
 refine zpu 11 115 59 4095 ?_
 refine zpu 12 116 59 8191 ?_
 refine zqu 13 117 59 16383 ?_
 refine zqu 14 118 59 32767 ?_
 refine zqu 15 119 59 65535 ?_
 refine zqu 16 120 59 131071 ?_
 refine zqu 17 121 59 262143 ?_
 refine zqu 18 122 59 524287 ?_
 refine zqu 19 123 59 1048575 ?_
 refine zqu 20 124 59 2097151 ?_
 refine zqu 21 125 59 4194303 ?_
 refine zqu 22 126 59 8388607 ?_
 refine zqu 23 127 59 16777215 ?_
 refine zqu 24 128 59 33554431 ?_
 refine zpu 25 129 59 67108863 ?_
 refine zpu 26 130 59 134217727 ?_
 refine zqu 27 131 59 268435455 ?_
 refine zqu 28 132 59 536870911 ?_
 refine zqu 29 133 59 1073741823 ?_
 refine zqu 30 134 59 2147483647 ?_
 refine zqu 31 135 59 4294967295 ?_
 refine zqu 32 136 59 8589934591 ?_
 refine zqu 33 137 59 17179869183 ?_
 refine zqu 34 138 59 34359738367 ?_
 refine zqu 35 139 59 68719476735 ?_
 refine zqu 36 140 59 137438953471 ?_
 refine zpu 37 141 59 274877906943 ?_
 refine zpu 38 142 59 549755813887 ?_
 refine zqu 39 143 59 1099511627775 ?_
 refine zqu 40 144 59 2199023255551 ?_
 refine zqu 41 145 59 4398046511103 ?_
 refine zqu 42 146 59 8796093022207 ?_
 refine zqu 43 147 59 17592186044415 ?_
 refine zqu 44 148 59 35184372088831 ?_
 refine zqu 45 149 59 70368744177663 ?_
 refine zqu 46 150 59 140737488355327 ?_
 refine zqu 47 151 59 281474976710655 ?_
 refine zqu 48 152 59 562949953421311 ?_
 refine zqu 49 153 59 1125899906842623 ?_
 refine zqu 50 154 59 2251799813685247 ?_
 refine zqu 51 155 59 4503599627370495 ?_
 refine zqu 52 156 59 9007199254740991 ?_
 refine zpu 53 157 59 18014398509481983 ?_
 refine zpu 54 158 59 36028797018963967 ?_
 refine zqu 55 159 59 72057594037927935 ?_
 refine zqu 56 160 59 144115188075855871 ?_
 refine zqu 57 161 59 288230376151711743 ?_
 refine zpu 58 162 59 576460752303423487 ?_
 refine done_ (done_of HT_.out (by kernel_rfl)) ?_
 try go_wp2
 go_roundg k2
 case measure=>have:=HK1.out;have:=HK2.out;omega
 case rel=>exact ⟨(wrap64 (x13_2 + 1)),(wrap64 (x15_2 + 1)),(by first|rfl|(rw [HR_.out];first|done|rfl)|(simp;done)|(simp [*];done)),(by first|rfl|(rw [HR_.out];first|done|rfl)|(simp;done)|(simp [*];done)),H',⟨by have:=HK1.out;have:=HK2.out;omega⟩,⟨by (with_reducible repeat (first|apply Kd.N_alloc|apply Kd.N_drewN|apply Kd.N_drew));exact HO_5.out⟩,⟨by (with_reducible repeat (first|apply Kd.N_alloc|apply Kd.N_drewN|apply Kd.N_drew));exact HO_6.out⟩,⟨by (with_reducible repeat (first|apply Kd.N_alloc|apply Kd.N_drewN|apply Kd.N_drew));exact HO_9.out⟩,⟨zhb⟩⟩

set_option maxHeartbeats 8000000 in
set_option maxRecDepth 100000 in
theorem laws_FnJoin.way2 : laws_FnJoin.cut.2.2.1 := by
 intro k A0 c0 l0 A1 c1 l1 r w HT0 HR_ HR0 HC0 HR1 HC1 t417 t420 t423 t424 A5 t425 t429 t432 A7 A9 A6 iz1 w12 Ao13 co13 Ao14 co14 w15 w16 Ao17 co17 Ao18 co18 w19 HO419 HO422 HO428 HO431 iz2 iz3 iz4 iz5 iz6 u15 u73 u74 u75 u76 u77 u78 iz7 iz8 iz9 iz10 iz11 iz12 iz13 iz14 iz15 iz16 iz17 iz18 iz19 iz20 iz21 iz22 iz23 iz24 iz25 iz26 iz27 iz28 iz29 iz30 iz31 iz32 iz33 iz34 iz35 iz36 iz37 iz38 iz39 iz40 iz41 iz42 iz43 iz44 iz45 iz46 iz47 iz48 iz49 iz50 iz51 iz52 iz53 iz54 iz55 iz56 iz57 iz58 iz59 iz60 iz61 iz62 iz63 iz64 iz65 iz66 iz67 iz68 iz69 iz70 iz71 iz72 iz73 iz74 iz75 iz76 iz77 iz78 iz79 iz80 iz81 iz82 iz83 iz84 iz85 iz86 iz87 iz88 iz89 iz90 iz91 iz92 iz93 x13_1 x14_1 iz94 iz95 iz96 iz97 k1 iz98 HK1 iz99 iz100 wr u4 u79 u80 u81 u82 u83 u84 u85 u86 u87 u88 u89 u90 u91 u92 u93 u94 u95 u96 u97 u98 u99 u100 u101 u102 u103 u104 u105 u106 u107 u108 u109 u110 u111 u112 u113 u114 u115 u116 u117 u118 u119 u120 u121 u122 u123 u124 u125 u126 u127 u128 u129 u130 u131 u132 u133 u134 u135 u136 u137 u138 u139 u140 u141 u142 u143 u144 u145 u146 u147 u148 u149 u150 u151 u152 u153 u154 u155 u156 u157 u158 u159 u160 u161 u162 iz101 iz102 iz103 x13_2 x15_2 HO_5 HO_6 HO_9 HB k2 iz104 HK2 c21b0 c22b0 c23b0 c24b0 c25b0 c26b0 c27b0 c28b0 c29b0 c29b1 c30b0 c30b1 c31b0 c31b1 c31b2 c32b0 c32b1 c33 c33b0 c33b1 c33b2 H'
 try go_wp2
 have n0_:=Aside0.mk (Kd.N_drew HO_5.out)
 have n1_:=Aside0.mk (Kd.N_drew HO_6.out)
 have n2_:=Aside0.mk (Kd.N_drew HO_9.out)
 have n3_:=Aside0.mk (below_drew1 HB.out)
 clear HO_5
 clear HO_6
 clear HO_9
 clear HB
 have HO_5:=n0_
 have HO_6:=n1_
 have HO_9:=n2_
 have HB:=n3_
 clear n0_ n1_ n2_ n3_
 have p434:0≤(x14_1:Int):=zod
 have q434:x14_1 < (t417.length:Int):=zod
 obtain ⟨ad434,A434_0,c434_0,e434,hx434_0,hx434_1,hl434_0,hi434_0⟩:=at_T31 (Kd.N_reads' HO_5.out).2.2 x14_1 p434 q434
 cases e434
 obtain ⟨ce434,hce434,hMe434,hcc434⟩:=Kd.N_get HO_5.out z31 x14_1 p434 (by first|exact q434|exact zod|(have e_:=(Kd.N_reads' HO_5.out).1;omega))
 obtain ⟨ua434_0,uc434_0,rfl,ul434_0,ge434_0⟩:=k31_openF hMe434
 have hv434_0:=hcc434 0 _ rfl
 rw [Nat.add_zero] at hv434_0
 replace hv434_0:=Option.some.inj (hv434_0.symm.trans hx434_0)
 injection hv434_0 with hva_ hvn_ hvc_
 rw [hva_] at ge434_0
 rw [hvc_] at ul434_0
 have HL434_0:=Aside0.mk (show Kd.V (Kd.int .i64) 3 _ w.heap.size _ _ ((rd_T31 t417 x14_1).f0) from Kd.V_mk ul434_0 ge434_0)
 clear hva_ hvn_ hvc_ ge434_0 ul434_0
 clear hcc434 hce434
 have HR434_0:=Aside0.mk hi434_0
 have HC434_0:=Aside0.mk hl434_0
 clear hi434_0 hl434_0
 replace p434:=eq_true p434
 replace q434:=eq_true q434
 have p435:0≤(t423:Int):=zod
 have q435:t423 < (((rd_T31 t417 x14_1).f0).length:Int):=zod
 obtain ⟨ad435,e435,hx435_0⟩:=Kd.at_int (zC HR434_0.out) t423 p435 q435
 cases e435
 replace p435:=eq_true p435
 replace q435:=eq_true q435
 have p436:0≤(x15_2:Int):=zod
 have q436:x15_2 < (t420.length:Int):=zod
 obtain ⟨ad436,A436_0,c436_0,e436,hx436_0,hx436_1,hl436_0,hi436_0⟩:=at_T31 (Kd.N_reads' HO_6.out).2.2 x15_2 p436 q436
 cases e436
 obtain ⟨ce436,hce436,hMe436,hcc436⟩:=Kd.N_get HO_6.out z31 x15_2 p436 (by first|exact q436|exact zod|(have e_:=(Kd.N_reads' HO_6.out).1;omega))
 obtain ⟨ua436_0,uc436_0,rfl,ul436_0,ge436_0⟩:=k31_openF hMe436
 have hv436_0:=hcc436 0 _ rfl
 rw [Nat.add_zero] at hv436_0
 replace hv436_0:=Option.some.inj (hv436_0.symm.trans hx436_0)
 injection hv436_0 with hva_ hvn_ hvc_
 rw [hva_] at ge436_0
 rw [hvc_] at ul436_0
 have HL436_0:=Aside0.mk (show Kd.V (Kd.int .i64) 3 _ w.heap.size _ _ ((rd_T31 t420 x15_2).f0) from Kd.V_mk ul436_0 ge436_0)
 clear hva_ hvn_ hvc_ ge436_0 ul436_0
 clear hcc436 hce436
 have HR436_0:=Aside0.mk hi436_0
 have HC436_0:=Aside0.mk hl436_0
 clear hi436_0 hl436_0
 replace p436:=eq_true p436
 replace q436:=eq_true q436
 have p437:0≤(t424:Int):=zod
 have q437:t424 < (((rd_T31 t420 x15_2).f0).length:Int):=zod
 obtain ⟨ad437,e437,hx437_0⟩:=Kd.at_int (zC HR436_0.out) t424 p437 q437
 cases e437
 replace p437:=eq_true p437
 replace q437:=eq_true q437
 refine start_ (n:=17) (S:=fun w'=>w'.cell? (ad434.add ((x14_1).toNat * 2))=some (.slice (some ad435) ((rd_T31 t417 x14_1).f0).length c434_0)∧w'.cell? ⟨(ad434.add ((x14_1).toNat * 2)).block,(ad434.add ((x14_1).toNat * 2)).off + 1,none⟩=some (.int .i64 ((rd_T31 t417 x14_1).f1))∧w'.cell? (ad435.add (t423).toNat)=some (.int .i64 (rd ((rd_T31 t417 x14_1).f0) t423))∧w'.cell? (ad436.add ((x15_2).toNat * 2))=some (.slice (some ad437) ((rd_T31 t420 x15_2).f0).length c436_0)∧w'.cell? ⟨(ad436.add ((x15_2).toNat * 2)).block,(ad436.add ((x15_2).toNat * 2)).off + 1,none⟩=some (.int .i64 ((rd_T31 t420 x15_2).f1))∧w'.cell? (ad437.add (t424).toNat)=some (.int .i64 (rd ((rd_T31 t420 x15_2).f0) t424))) (ds:=[]) (zm 17 0) (by kernel_rfl) rfl rfl ⟨hx434_0,hx434_1,hx435_0,hx436_0,hx436_1,hx437_0⟩ (fun hHeld=>?_);refine with_tabW laws_FnJoin.tab17 laws_FnJoin.bits17 (fun HT_ HW_=>?_)
 generalize wr.drew=w51 at HO_5 HO_6 HO_9 HB HL434_0 HL436_0 HR434_0 HR436_0 hx434_0 hx434_1 hx435_0 hx436_0 hx436_1 hx437_0 hHeld ⊢
 refine zpu 0 85 17 1 ?_
 refine zpu 1 86 17 3 ?_
 refine zpu 2 87 17 7 ?_
 refine zpu 3 88 17 15 ?_
 refine zpu 5 90 17 47 ?_
 refine zpu 8 93 17 303 ?_
 refine zpu 9 94 17 815 ?_
 refine zpu 10 95 17 1839 ?_
 refine zpu 11 96 17 3887 ?_
 refine zpu 13 98 17 12079 ?_
 refine zta 4 89 17 12095 ?_
 refine zpu 6 91 17 12159 ?_
 refine zta 7 92 17 12287 ?_
 refine zta 12 97 17 16383 ?_
 refine zpu 14 99 17 32767 ?_
 refine zta 15 100 17 65535 ?_
 refine zpu 16 101 17 131071 ?_
 refine done_ (done_of HT_.out (by kernel_rfl)) ?_
 try go_wp2
 have n0_:=Aside0.mk (Kd.N_drew HO_5.out)
 have n1_:=Aside0.mk (Kd.N_drew HO_6.out)
 have n2_:=Aside0.mk (Kd.N_drew HO_9.out)
 have n3_:=Aside0.mk (Kd.V_drew HL434_0.out)
 have n4_:=Aside0.mk (Kd.V_drew HL436_0.out)
 have n5_:=Aside0.mk (Kd.C_drew HR434_0.out)
 have n6_:=Aside0.mk (Kd.C_drew HR436_0.out)
 have n7_:=Aside0.mk (below_drew1 HB.out)
 clear HO_5
 clear HO_6
 clear HO_9
 clear HL434_0
 clear HL436_0
 clear HR434_0
 clear HR436_0
 clear HB
 have HO_5:=n0_
 have HO_6:=n1_
 have HO_9:=n2_
 have HL434_0:=n3_
 have HL436_0:=n4_
 have HR434_0:=n5_
 have HR436_0:=n6_
 have HB:=n7_
 clear n0_ n1_ n2_ n3_ n4_ n5_ n6_ n7_
 have p438:0≤(x14_1:Int):=zod
 have q438:x14_1 < (t417.length:Int):=zod
 obtain ⟨ad438,A438_0,c438_0,e438,hx438_0,hx438_1,hl438_0,hi438_0⟩:=at_T31 (Kd.N_reads' HO_5.out).2.2 x14_1 p438 q438
 obtain rfl:ad434=ad438:=(by injection e438)
 obtain ⟨ce438,hce438,hMe438,hcc438⟩:=Kd.N_get HO_5.out z31 x14_1 p438 (by first|exact q438|exact zod|(have e_:=(Kd.N_reads' HO_5.out).1;omega))
 obtain ⟨ua438_0,uc438_0,rfl,ul438_0,ge438_0⟩:=k31_openF hMe438
 have hv438_0:=hcc438 0 _ rfl
 rw [Nat.add_zero] at hv438_0
 replace hv438_0:=Option.some.inj (hv438_0.symm.trans hx438_0)
 injection hv438_0 with hva_ hvn_ hvc_
 rw [hva_] at ge438_0
 rw [hvc_] at ul438_0
 have HL438_0:=Aside0.mk (show Kd.V (Kd.int .i64) 3 _ w.heap.size _ _ ((rd_T31 t417 x14_1).f0) from Kd.V_mk ul438_0 ge438_0)
 clear hva_ hvn_ hvc_ ge438_0 ul438_0
 clear hcc438 hce438
 have HR438_0:=Aside0.mk hi438_0
 have HC438_0:=Aside0.mk hl438_0
 clear hi438_0 hl438_0
 replace p438:=eq_true p438
 replace q438:=eq_true q438
 have p439:0≤(0:Int):=(by omega)
 have q439:0 < (t417.length:Int):=zod
 obtain ⟨ad439,A439_0,c439_0,e439,hx439_0,hx439_1,hl439_0,hi439_0⟩:=at_T31 (Kd.N_reads' HO_5.out).2.2 0 p439 q439
 obtain rfl:ad434=ad439:=(by injection e439)
 obtain ⟨ce439,hce439,hMe439,hcc439⟩:=Kd.N_get HO_5.out z31 0 p439 (by first|exact q439|exact zod|(have e_:=(Kd.N_reads' HO_5.out).1;omega))
 obtain ⟨ua439_0,uc439_0,rfl,ul439_0,ge439_0⟩:=k31_openF hMe439
 have hv439_0:=hcc439 0 _ rfl
 rw [Nat.add_zero] at hv439_0
 replace hv439_0:=Option.some.inj (hv439_0.symm.trans hx439_0)
 injection hv439_0 with hva_ hvn_ hvc_
 rw [hva_] at ge439_0
 rw [hvc_] at ul439_0
 have HL439_0:=Aside0.mk (show Kd.V (Kd.int .i64) 3 _ w.heap.size _ _ ((rd_T31 t417 0).f0) from Kd.V_mk ul439_0 ge439_0)
 clear hva_ hvn_ hvc_ ge439_0 ul439_0
 clear hcc439 hce439
 have qi439:(0 < t417.length)=True:=eq_true (by omega)
 (try rw [show ((0:Int)).toNat=0 from rfl] at hx439_0)
 (try rw [show 0 * 2=0 from rfl] at hx439_0)
 (try rw [Addr.add_zero'] at hx439_0)
 (try rw [show ((0:Int)).toNat=0 from rfl] at hx439_1)
 (try rw [show 0 * 2=0 from rfl] at hx439_1)
 (try rw [Addr.add_zero'] at hx439_1)
 have HR439_0:=Aside0.mk hi439_0
 have HC439_0:=Aside0.mk hl439_0
 clear hi439_0 hl439_0
 replace p439:=eq_true p439
 replace q439:=eq_true q439
 have p440:0≤(x15_2:Int):=zod
 have q440:x15_2 < (t420.length:Int):=zod
 obtain ⟨ad440,A440_0,c440_0,e440,hx440_0,hx440_1,hl440_0,hi440_0⟩:=at_T31 (Kd.N_reads' HO_6.out).2.2 x15_2 p440 q440
 obtain rfl:ad436=ad440:=(by injection e440)
 obtain ⟨ce440,hce440,hMe440,hcc440⟩:=Kd.N_get HO_6.out z31 x15_2 p440 (by first|exact q440|exact zod|(have e_:=(Kd.N_reads' HO_6.out).1;omega))
 obtain ⟨ua440_0,uc440_0,rfl,ul440_0,ge440_0⟩:=k31_openF hMe440
 have hv440_0:=hcc440 0 _ rfl
 rw [Nat.add_zero] at hv440_0
 replace hv440_0:=Option.some.inj (hv440_0.symm.trans hx440_0)
 injection hv440_0 with hva_ hvn_ hvc_
 rw [hva_] at ge440_0
 rw [hvc_] at ul440_0
 have HL440_0:=Aside0.mk (show Kd.V (Kd.int .i64) 3 _ w.heap.size _ _ ((rd_T31 t420 x15_2).f0) from Kd.V_mk ul440_0 ge440_0)
 clear hva_ hvn_ hvc_ ge440_0 ul440_0
 clear hcc440 hce440
 have HR440_0:=Aside0.mk hi440_0
 have HC440_0:=Aside0.mk hl440_0
 clear hi440_0 hl440_0
 replace p440:=eq_true p440
 replace q440:=eq_true q440
 have p441:0≤(0:Int):=(by omega)
 have q441:0 < (t420.length:Int):=zod
 obtain ⟨ad441,A441_0,c441_0,e441,hx441_0,hx441_1,hl441_0,hi441_0⟩:=at_T31 (Kd.N_reads' HO_6.out).2.2 0 p441 q441
 obtain rfl:ad436=ad441:=(by injection e441)
 obtain ⟨ce441,hce441,hMe441,hcc441⟩:=Kd.N_get HO_6.out z31 0 p441 (by first|exact q441|exact zod|(have e_:=(Kd.N_reads' HO_6.out).1;omega))
 obtain ⟨ua441_0,uc441_0,rfl,ul441_0,ge441_0⟩:=k31_openF hMe441
 have hv441_0:=hcc441 0 _ rfl
 rw [Nat.add_zero] at hv441_0
 replace hv441_0:=Option.some.inj (hv441_0.symm.trans hx441_0)
 injection hv441_0 with hva_ hvn_ hvc_
 rw [hva_] at ge441_0
 rw [hvc_] at ul441_0
 have HL441_0:=Aside0.mk (show Kd.V (Kd.int .i64) 3 _ w.heap.size _ _ ((rd_T31 t420 0).f0) from Kd.V_mk ul441_0 ge441_0)
 clear hva_ hvn_ hvc_ ge441_0 ul441_0
 clear hcc441 hce441
 have qi441:(0 < t420.length)=True:=eq_true (by omega)
 (try rw [show ((0:Int)).toNat=0 from rfl] at hx441_0)
 (try rw [show 0 * 2=0 from rfl] at hx441_0)
 (try rw [Addr.add_zero'] at hx441_0)
 (try rw [show ((0:Int)).toNat=0 from rfl] at hx441_1)
 (try rw [show 0 * 2=0 from rfl] at hx441_1)
 (try rw [Addr.add_zero'] at hx441_1)
 have HR441_0:=Aside0.mk hi441_0
 have HC441_0:=Aside0.mk hl441_0
 clear hi441_0 hl441_0
 replace p441:=eq_true p441
 replace q441:=eq_true q441
 refine start_ (n:=59) (S:=fun w'=>w'.cell? (ad434.add ((x14_1).toNat * 2))=some (.slice A438_0 ((rd_T31 t417 x14_1).f0).length c438_0)∧w'.cell? ⟨(ad434.add ((x14_1).toNat * 2)).block,(ad434.add ((x14_1).toNat * 2)).off + 1,none⟩=some (.int .i64 ((rd_T31 t417 x14_1).f1))∧w'.cell? ad434=some (.slice A439_0 ((rd_T31 t417 0).f0).length c439_0)∧w'.cell? ⟨ad434.block,ad434.off + 1,none⟩=some (.int .i64 ((rd_T31 t417 0).f1))∧w'.cell? (ad436.add ((x15_2).toNat * 2))=some (.slice A440_0 ((rd_T31 t420 x15_2).f0).length c440_0)∧w'.cell? ⟨(ad436.add ((x15_2).toNat * 2)).block,(ad436.add ((x15_2).toNat * 2)).off + 1,none⟩=some (.int .i64 ((rd_T31 t420 x15_2).f1))∧w'.cell? ad436=some (.slice A441_0 ((rd_T31 t420 0).f0).length c441_0)∧w'.cell? ⟨ad436.block,ad436.off + 1,none⟩=some (.int .i64 ((rd_T31 t420 0).f1))) (ds:=[]) (zm 59 0) (by kernel_rfl) rfl rfl ⟨hx438_0,hx438_1,hx439_0,hx439_1,hx440_0,hx440_1,hx441_0,hx441_1⟩ (fun hHeld=>?_);refine with_tabW laws_FnJoin.tab19 laws_FnJoin.bits19 (fun HT_ HW_=>?_)
 generalize w51.drew=w52 at HO_5 HO_6 HO_9 HL434_0 HL436_0 HR434_0 HR436_0 HB HL438_0 HL439_0 HL440_0 HL441_0 HR438_0 HR439_0 HR440_0 HR441_0 hx438_0 hx438_1 hx439_0 hx439_1 hx440_0 hx440_1 hx441_0 hx441_1 hHeld ⊢
 refine zpu 0 104 59 1 ?_
 refine zpu 1 105 59 3 ?_
 refine zpu 2 106 59 7 ?_
 refine zpu 3 107 59 15 ?_
 refine zpu 6 110 59 79 ?_
 refine zpu 7 111 59 207 ?_
 refine zpu 8 112 59 463 ?_
 refine zta 4 108 59 479 ?_
 refine zpu 5 109 59 511 ?_
 refine zta 9 113 59 1023 ?_
 refine zpu 10 114 59 2047 ?_
 refine zpu 11 115 59 4095 ?_
 refine zpu 12 116 59 8191 ?_
 refine zpu 13 117 59 16383 ?_
 refine zpu 14 118 59 32767 ?_
 refine zpu 15 119 59 65535 ?_
 refine zpu 16 120 59 131071 ?_
 refine zpu 19 123 59 655359 ?_
 refine zpu 20 124 59 1703935 ?_
 refine zpu 21 125 59 3801087 ?_
 refine zta 17 121 59 3932159 ?_
 refine zpu 18 122 59 4194303 ?_
 refine zta 22 126 59 8388607 ?_
 refine zpu 23 127 59 16777215 ?_
 refine zpu 24 128 59 33554431 ?_
 refine zpu 25 129 59 67108863 ?_
 refine zpu 26 130 59 134217727 ?_
 refine zqu 27 131 59 268435455 ?_
 refine zqu 28 132 59 536870911 ?_
 refine zqu 29 133 59 1073741823 ?_
 refine zqu 30 134 59 2147483647 ?_
 refine zqu 31 135 59 4294967295 ?_
 refine zqu 32 136 59 8589934591 ?_
 refine zqu 33 137 59 17179869183 ?_
 refine zqu 34 138 59 34359738367 ?_
 refine zqu 35 139 59 68719476735 ?_
 refine zqu 36 140 59 137438953471 ?_
 refine zpu 37 141 59 274877906943 ?_
 refine zpu 38 142 59 549755813887 ?_
 refine zqu 39 143 59 1099511627775 ?_
 refine zqu 40 144 59 2199023255551 ?_
 refine zqu 41 145 59 4398046511103 ?_
 refine zqu 42 146 59 8796093022207 ?_
 refine zqu 43 147 59 17592186044415 ?_
 refine zqu 44 148 59 35184372088831 ?_
 refine zqu 45 149 59 70368744177663 ?_
 refine zqu 46 150 59 140737488355327 ?_
 refine zqu 47 151 59 281474976710655 ?_
 refine zqu 48 152 59 562949953421311 ?_
 refine zqu 49 153 59 1125899906842623 ?_
 refine zqu 50 154 59 2251799813685247 ?_
 refine zqu 51 155 59 4503599627370495 ?_
 refine zqu 52 156 59 9007199254740991 ?_
 refine zpu 53 157 59 18014398509481983 ?_
 refine zpu 54 158 59 36028797018963967 ?_
 refine zqu 55 159 59 72057594037927935 ?_
 refine zqu 56 160 59 144115188075855871 ?_
 refine zqu 57 161 59 288230376151711743 ?_
 refine zpu 58 162 59 576460752303423487 ?_
 refine done_ (done_of HT_.out (by kernel_rfl)) ?_
 try go_wp2
 go_roundg k2
 case measure=>have:=HK1.out;have:=HK2.out;omega
 case rel=>exact ⟨(wrap64 (x13_2 + 1)),(wrap64 (x15_2 + 1)),(by first|rfl|(rw [HR_.out];first|done|rfl)|(simp;done)|(simp [*];done)),(by first|rfl|(rw [HR_.out];first|done|rfl)|(simp;done)|(simp [*];done)),H',⟨by have:=HK1.out;have:=HK2.out;omega⟩,⟨by (with_reducible repeat (first|apply Kd.N_alloc|apply Kd.N_drewN|apply Kd.N_drew));exact HO_5.out⟩,⟨by (with_reducible repeat (first|apply Kd.N_alloc|apply Kd.N_drewN|apply Kd.N_drew));exact HO_6.out⟩,⟨by (with_reducible repeat (first|apply Kd.N_alloc|apply Kd.N_drewN|apply Kd.N_drew));exact HO_9.out⟩,⟨zhb⟩⟩

set_option maxHeartbeats 8000000 in
set_option maxRecDepth 100000 in
theorem laws_FnJoin.way3 : laws_FnJoin.cut.2.2.2.1 := by
 intro k A0 c0 l0 A1 c1 l1 r w HT0 HR_ HR0 HC0 HR1 HC1 t417 t420 t423 t424 A5 t425 t429 t432 A7 A9 A6 iz1 w12 Ao13 co13 Ao14 co14 w15 w16 Ao17 co17 Ao18 co18 w19 HO419 HO422 HO428 HO431 iz2 iz3 iz4 iz5 iz6 u15 u73 u74 u75 u76 u77 u78 iz7 iz8 iz9 iz10 iz11 iz12 iz13 iz14 iz15 iz16 iz17 iz18 iz19 iz20 iz21 iz22 iz23 iz24 iz25 iz26 iz27 iz28 iz29 iz30 iz31 iz32 iz33 iz34 iz35 iz36 iz37 iz38 iz39 iz40 iz41 iz42 iz43 iz44 iz45 iz46 iz47 iz48 iz49 iz50 iz51 iz52 iz53 iz54 iz55 iz56 iz57 iz58 iz59 iz60 iz61 iz62 iz63 iz64 iz65 iz66 iz67 iz68 iz69 iz70 iz71 iz72 iz73 iz74 iz75 iz76 iz77 iz78 iz79 iz80 iz81 iz82 iz83 iz84 iz85 iz86 iz87 iz88 iz89 iz90 iz91 iz92 iz93 x13_1 x14_1 iz94 iz95 iz96 iz97 k1 iz98 HK1 iz99 iz100 wr u4 u79 u80 u81 u82 u83 u84 u85 u86 u87 u88 u89 u90 u91 u92 u93 u94 u95 u96 u97 u98 u99 u100 u101 u102 u103 u104 u105 u106 u107 u108 u109 u110 u111 u112 u113 u114 u115 u116 u117 u118 u119 u120 u121 u122 u123 u124 u125 u126 u127 u128 u129 u130 u131 u132 u133 u134 u135 u136 u137 u138 u139 u140 u141 u142 u143 u144 u145 u146 u147 u148 u149 u150 u151 u152 u153 u154 u155 u156 u157 u158 u159 u160 u161 u162 iz101 iz102 iz103 x13_2 x15_2 HO_5 HO_6 HO_9 HB k2 iz104 HK2 c21b0 c22b0 c23b0 c24b0 c25b0 c26b0 c27b0 c28b0 c29b0 c29b1 c30b0 c30b1 c31b0 c31b1 c31b2 c32b0 c32b1 c33b0 c33b1 c33b2 c34b0 c34b1 H'
 try go_wp2
 have n0_:=Aside0.mk (Kd.N_drew HO_5.out)
 have n1_:=Aside0.mk (Kd.N_drew HO_6.out)
 have n2_:=Aside0.mk (Kd.N_drew HO_9.out)
 have n3_:=Aside0.mk (below_drew1 HB.out)
 clear HO_5
 clear HO_6
 clear HO_9
 clear HB
 have HO_5:=n0_
 have HO_6:=n1_
 have HO_9:=n2_
 have HB:=n3_
 clear n0_ n1_ n2_ n3_
 have p434:0≤(x14_1:Int):=zod
 have q434:x14_1 < (t417.length:Int):=zod
 obtain ⟨ad434,A434_0,c434_0,e434,hx434_0,hx434_1,hl434_0,hi434_0⟩:=at_T31 (Kd.N_reads' HO_5.out).2.2 x14_1 p434 q434
 cases e434
 obtain ⟨ce434,hce434,hMe434,hcc434⟩:=Kd.N_get HO_5.out z31 x14_1 p434 (by first|exact q434|exact zod|(have e_:=(Kd.N_reads' HO_5.out).1;omega))
 obtain ⟨ua434_0,uc434_0,rfl,ul434_0,ge434_0⟩:=k31_openF hMe434
 have hv434_0:=hcc434 0 _ rfl
 rw [Nat.add_zero] at hv434_0
 replace hv434_0:=Option.some.inj (hv434_0.symm.trans hx434_0)
 injection hv434_0 with hva_ hvn_ hvc_
 rw [hva_] at ge434_0
 rw [hvc_] at ul434_0
 have HL434_0:=Aside0.mk (show Kd.V (Kd.int .i64) 3 _ w.heap.size _ _ ((rd_T31 t417 x14_1).f0) from Kd.V_mk ul434_0 ge434_0)
 clear hva_ hvn_ hvc_ ge434_0 ul434_0
 clear hcc434 hce434
 have HR434_0:=Aside0.mk hi434_0
 have HC434_0:=Aside0.mk hl434_0
 clear hi434_0 hl434_0
 replace p434:=eq_true p434
 replace q434:=eq_true q434
 have p435:0≤(t423:Int):=zod
 have q435:t423 < (((rd_T31 t417 x14_1).f0).length:Int):=zod
 obtain ⟨ad435,e435,hx435_0⟩:=Kd.at_int (zC HR434_0.out) t423 p435 q435
 cases e435
 replace p435:=eq_true p435
 replace q435:=eq_true q435
 have p436:0≤(x15_2:Int):=zod
 have q436:x15_2 < (t420.length:Int):=zod
 obtain ⟨ad436,A436_0,c436_0,e436,hx436_0,hx436_1,hl436_0,hi436_0⟩:=at_T31 (Kd.N_reads' HO_6.out).2.2 x15_2 p436 q436
 cases e436
 obtain ⟨ce436,hce436,hMe436,hcc436⟩:=Kd.N_get HO_6.out z31 x15_2 p436 (by first|exact q436|exact zod|(have e_:=(Kd.N_reads' HO_6.out).1;omega))
 obtain ⟨ua436_0,uc436_0,rfl,ul436_0,ge436_0⟩:=k31_openF hMe436
 have hv436_0:=hcc436 0 _ rfl
 rw [Nat.add_zero] at hv436_0
 replace hv436_0:=Option.some.inj (hv436_0.symm.trans hx436_0)
 injection hv436_0 with hva_ hvn_ hvc_
 rw [hva_] at ge436_0
 rw [hvc_] at ul436_0
 have HL436_0:=Aside0.mk (show Kd.V (Kd.int .i64) 3 _ w.heap.size _ _ ((rd_T31 t420 x15_2).f0) from Kd.V_mk ul436_0 ge436_0)
 clear hva_ hvn_ hvc_ ge436_0 ul436_0
 clear hcc436 hce436
 have HR436_0:=Aside0.mk hi436_0
 have HC436_0:=Aside0.mk hl436_0
 clear hi436_0 hl436_0
 replace p436:=eq_true p436
 replace q436:=eq_true q436
 have p437:0≤(t424:Int):=zod
 have q437:t424 < (((rd_T31 t420 x15_2).f0).length:Int):=zod
 obtain ⟨ad437,e437,hx437_0⟩:=Kd.at_int (zC HR436_0.out) t424 p437 q437
 cases e437
 replace p437:=eq_true p437
 replace q437:=eq_true q437
 refine start_ (n:=17) (S:=fun w'=>w'.cell? (ad434.add ((x14_1).toNat * 2))=some (.slice (some ad435) ((rd_T31 t417 x14_1).f0).length c434_0)∧w'.cell? ⟨(ad434.add ((x14_1).toNat * 2)).block,(ad434.add ((x14_1).toNat * 2)).off + 1,none⟩=some (.int .i64 ((rd_T31 t417 x14_1).f1))∧w'.cell? (ad435.add (t423).toNat)=some (.int .i64 (rd ((rd_T31 t417 x14_1).f0) t423))∧w'.cell? (ad436.add ((x15_2).toNat * 2))=some (.slice (some ad437) ((rd_T31 t420 x15_2).f0).length c436_0)∧w'.cell? ⟨(ad436.add ((x15_2).toNat * 2)).block,(ad436.add ((x15_2).toNat * 2)).off + 1,none⟩=some (.int .i64 ((rd_T31 t420 x15_2).f1))∧w'.cell? (ad437.add (t424).toNat)=some (.int .i64 (rd ((rd_T31 t420 x15_2).f0) t424))) (ds:=[]) (zm 17 0) (by kernel_rfl) rfl rfl ⟨hx434_0,hx434_1,hx435_0,hx436_0,hx436_1,hx437_0⟩ (fun hHeld=>?_);refine with_tabW laws_FnJoin.tab17 laws_FnJoin.bits17 (fun HT_ HW_=>?_)
 generalize wr.drew=w35 at HO_5 HO_6 HO_9 HB HL434_0 HL436_0 HR434_0 HR436_0 hx434_0 hx434_1 hx435_0 hx436_0 hx436_1 hx437_0 hHeld ⊢
 refine zpu 0 85 17 1 ?_
 refine zpu 1 86 17 3 ?_
 refine zpu 2 87 17 7 ?_
 refine zpu 3 88 17 15 ?_
 refine zpu 5 90 17 47 ?_
 refine zpu 8 93 17 303 ?_
 refine zpu 9 94 17 815 ?_
 refine zpu 10 95 17 1839 ?_
 refine zpu 11 96 17 3887 ?_
 refine zpu 13 98 17 12079 ?_
 refine zta 4 89 17 12095 ?_
 refine zpu 6 91 17 12159 ?_
 refine zta 7 92 17 12287 ?_
 refine zta 12 97 17 16383 ?_
 refine zpu 14 99 17 32767 ?_
 refine zta 15 100 17 65535 ?_
 refine zpu 16 101 17 131071 ?_
 refine done_ (done_of HT_.out (by kernel_rfl)) ?_
 try go_wp2
 have n0_:=Aside0.mk (Kd.N_drew HO_5.out)
 have n1_:=Aside0.mk (Kd.N_drew HO_6.out)
 have n2_:=Aside0.mk (Kd.N_drew HO_9.out)
 have n3_:=Aside0.mk (Kd.V_drew HL434_0.out)
 have n4_:=Aside0.mk (Kd.V_drew HL436_0.out)
 have n5_:=Aside0.mk (Kd.C_drew HR434_0.out)
 have n6_:=Aside0.mk (Kd.C_drew HR436_0.out)
 have n7_:=Aside0.mk (below_drew1 HB.out)
 clear HO_5
 clear HO_6
 clear HO_9
 clear HL434_0
 clear HL436_0
 clear HR434_0
 clear HR436_0
 clear HB
 have HO_5:=n0_
 have HO_6:=n1_
 have HO_9:=n2_
 have HL434_0:=n3_
 have HL436_0:=n4_
 have HR434_0:=n5_
 have HR436_0:=n6_
 have HB:=n7_
 clear n0_ n1_ n2_ n3_ n4_ n5_ n6_ n7_
 have p438:0≤(x14_1:Int):=zod
 have q438:x14_1 < (t417.length:Int):=zod
 obtain ⟨ad438,A438_0,c438_0,e438,hx438_0,hx438_1,hl438_0,hi438_0⟩:=at_T31 (Kd.N_reads' HO_5.out).2.2 x14_1 p438 q438
 obtain rfl:ad434=ad438:=(by injection e438)
 obtain ⟨ce438,hce438,hMe438,hcc438⟩:=Kd.N_get HO_5.out z31 x14_1 p438 (by first|exact q438|exact zod|(have e_:=(Kd.N_reads' HO_5.out).1;omega))
 obtain ⟨ua438_0,uc438_0,rfl,ul438_0,ge438_0⟩:=k31_openF hMe438
 have hv438_0:=hcc438 0 _ rfl
 rw [Nat.add_zero] at hv438_0
 replace hv438_0:=Option.some.inj (hv438_0.symm.trans hx438_0)
 injection hv438_0 with hva_ hvn_ hvc_
 rw [hva_] at ge438_0
 rw [hvc_] at ul438_0
 have HL438_0:=Aside0.mk (show Kd.V (Kd.int .i64) 3 _ w.heap.size _ _ ((rd_T31 t417 x14_1).f0) from Kd.V_mk ul438_0 ge438_0)
 clear hva_ hvn_ hvc_ ge438_0 ul438_0
 clear hcc438 hce438
 have HR438_0:=Aside0.mk hi438_0
 have HC438_0:=Aside0.mk hl438_0
 clear hi438_0 hl438_0
 replace p438:=eq_true p438
 replace q438:=eq_true q438
 have p439:0≤(0:Int):=(by omega)
 have q439:0 < (t417.length:Int):=zod
 obtain ⟨ad439,A439_0,c439_0,e439,hx439_0,hx439_1,hl439_0,hi439_0⟩:=at_T31 (Kd.N_reads' HO_5.out).2.2 0 p439 q439
 obtain rfl:ad434=ad439:=(by injection e439)
 obtain ⟨ce439,hce439,hMe439,hcc439⟩:=Kd.N_get HO_5.out z31 0 p439 (by first|exact q439|exact zod|(have e_:=(Kd.N_reads' HO_5.out).1;omega))
 obtain ⟨ua439_0,uc439_0,rfl,ul439_0,ge439_0⟩:=k31_openF hMe439
 have hv439_0:=hcc439 0 _ rfl
 rw [Nat.add_zero] at hv439_0
 replace hv439_0:=Option.some.inj (hv439_0.symm.trans hx439_0)
 injection hv439_0 with hva_ hvn_ hvc_
 rw [hva_] at ge439_0
 rw [hvc_] at ul439_0
 have HL439_0:=Aside0.mk (show Kd.V (Kd.int .i64) 3 _ w.heap.size _ _ ((rd_T31 t417 0).f0) from Kd.V_mk ul439_0 ge439_0)
 clear hva_ hvn_ hvc_ ge439_0 ul439_0
 clear hcc439 hce439
 have qi439:(0 < t417.length)=True:=eq_true (by omega)
 (try rw [show ((0:Int)).toNat=0 from rfl] at hx439_0)
 (try rw [show 0 * 2=0 from rfl] at hx439_0)
 (try rw [Addr.add_zero'] at hx439_0)
 (try rw [show ((0:Int)).toNat=0 from rfl] at hx439_1)
 (try rw [show 0 * 2=0 from rfl] at hx439_1)
 (try rw [Addr.add_zero'] at hx439_1)
 have HR439_0:=Aside0.mk hi439_0
 have HC439_0:=Aside0.mk hl439_0
 clear hi439_0 hl439_0
 replace p439:=eq_true p439
 replace q439:=eq_true q439
 have p440:0≤(x15_2:Int):=zod
 have q440:x15_2 < (t420.length:Int):=zod
 obtain ⟨ad440,A440_0,c440_0,e440,hx440_0,hx440_1,hl440_0,hi440_0⟩:=at_T31 (Kd.N_reads' HO_6.out).2.2 x15_2 p440 q440
 obtain rfl:ad436=ad440:=(by injection e440)
 obtain ⟨ce440,hce440,hMe440,hcc440⟩:=Kd.N_get HO_6.out z31 x15_2 p440 (by first|exact q440|exact zod|(have e_:=(Kd.N_reads' HO_6.out).1;omega))
 obtain ⟨ua440_0,uc440_0,rfl,ul440_0,ge440_0⟩:=k31_openF hMe440
 have hv440_0:=hcc440 0 _ rfl
 rw [Nat.add_zero] at hv440_0
 replace hv440_0:=Option.some.inj (hv440_0.symm.trans hx440_0)
 injection hv440_0 with hva_ hvn_ hvc_
 rw [hva_] at ge440_0
 rw [hvc_] at ul440_0
 have HL440_0:=Aside0.mk (show Kd.V (Kd.int .i64) 3 _ w.heap.size _ _ ((rd_T31 t420 x15_2).f0) from Kd.V_mk ul440_0 ge440_0)
 clear hva_ hvn_ hvc_ ge440_0 ul440_0
 clear hcc440 hce440
 have HR440_0:=Aside0.mk hi440_0
 have HC440_0:=Aside0.mk hl440_0
 clear hi440_0 hl440_0
 replace p440:=eq_true p440
 replace q440:=eq_true q440
 have p441:0≤(0:Int):=(by omega)
 have q441:0 < (t420.length:Int):=zod
 obtain ⟨ad441,A441_0,c441_0,e441,hx441_0,hx441_1,hl441_0,hi441_0⟩:=at_T31 (Kd.N_reads' HO_6.out).2.2 0 p441 q441
 obtain rfl:ad436=ad441:=(by injection e441)
 obtain ⟨ce441,hce441,hMe441,hcc441⟩:=Kd.N_get HO_6.out z31 0 p441 (by first|exact q441|exact zod|(have e_:=(Kd.N_reads' HO_6.out).1;omega))
 obtain ⟨ua441_0,uc441_0,rfl,ul441_0,ge441_0⟩:=k31_openF hMe441
 have hv441_0:=hcc441 0 _ rfl
 rw [Nat.add_zero] at hv441_0
 replace hv441_0:=Option.some.inj (hv441_0.symm.trans hx441_0)
 injection hv441_0 with hva_ hvn_ hvc_
 rw [hva_] at ge441_0
 rw [hvc_] at ul441_0
 have HL441_0:=Aside0.mk (show Kd.V (Kd.int .i64) 3 _ w.heap.size _ _ ((rd_T31 t420 0).f0) from Kd.V_mk ul441_0 ge441_0)
 clear hva_ hvn_ hvc_ ge441_0 ul441_0
 clear hcc441 hce441
 have qi441:(0 < t420.length)=True:=eq_true (by omega)
 (try rw [show ((0:Int)).toNat=0 from rfl] at hx441_0)
 (try rw [show 0 * 2=0 from rfl] at hx441_0)
 (try rw [Addr.add_zero'] at hx441_0)
 (try rw [show ((0:Int)).toNat=0 from rfl] at hx441_1)
 (try rw [show 0 * 2=0 from rfl] at hx441_1)
 (try rw [Addr.add_zero'] at hx441_1)
 have HR441_0:=Aside0.mk hi441_0
 have HC441_0:=Aside0.mk hl441_0
 clear hi441_0 hl441_0
 replace p441:=eq_true p441
 replace q441:=eq_true q441
 have p442:0≤(0:Int):=(by omega)
 have q442:0 < (t417.length:Int):=zod
 obtain ⟨ad442,A442_0,c442_0,e442,hx442_0,hx442_1,hl442_0,hi442_0⟩:=at_T31 (Kd.N_reads' HO_5.out).2.2 0 p442 q442
 obtain rfl:ad434=ad442:=(by injection e442)
 obtain ⟨ce442,hce442,hMe442,hcc442⟩:=Kd.N_get HO_5.out z31 0 p442 (by first|exact q442|exact zod|(have e_:=(Kd.N_reads' HO_5.out).1;omega))
 obtain ⟨ua442_0,uc442_0,rfl,ul442_0,ge442_0⟩:=k31_openF hMe442
 have hv442_0:=hcc442 0 _ rfl
 rw [Nat.add_zero] at hv442_0
 replace hv442_0:=Option.some.inj (hv442_0.symm.trans hx442_0)
 injection hv442_0 with hva_ hvn_ hvc_
 rw [hva_] at ge442_0
 rw [hvc_] at ul442_0
 have HL442_0:=Aside0.mk (show Kd.V (Kd.int .i64) 3 _ w.heap.size _ _ ((rd_T31 t417 0).f0) from Kd.V_mk ul442_0 ge442_0)
 clear hva_ hvn_ hvc_ ge442_0 ul442_0
 clear hcc442 hce442
 have qi442:(0 < t417.length)=True:=eq_true (by omega)
 (try rw [show ((0:Int)).toNat=0 from rfl] at hx442_0)
 (try rw [show 0 * 2=0 from rfl] at hx442_0)
 (try rw [Addr.add_zero'] at hx442_0)
 (try rw [show ((0:Int)).toNat=0 from rfl] at hx442_1)
 (try rw [show 0 * 2=0 from rfl] at hx442_1)
 (try rw [Addr.add_zero'] at hx442_1)
 have HR442_0:=Aside0.mk hi442_0
 have HC442_0:=Aside0.mk hl442_0
 clear hi442_0 hl442_0
 replace p442:=eq_true p442
 replace q442:=eq_true q442
 have ea_:=Option.some.inj (hx439_0.symm.trans hx442_0)
 injection ea_ with ea_ en_ ec_
 subst ea_
 subst ec_
 clear en_
 have p443:0≤(0:Int):=(by omega)
 have q443:0 < (t420.length:Int):=zod
 obtain ⟨ad443,A443_0,c443_0,e443,hx443_0,hx443_1,hl443_0,hi443_0⟩:=at_T31 (Kd.N_reads' HO_6.out).2.2 0 p443 q443
 obtain rfl:ad436=ad443:=(by injection e443)
 obtain ⟨ce443,hce443,hMe443,hcc443⟩:=Kd.N_get HO_6.out z31 0 p443 (by first|exact q443|exact zod|(have e_:=(Kd.N_reads' HO_6.out).1;omega))
 obtain ⟨ua443_0,uc443_0,rfl,ul443_0,ge443_0⟩:=k31_openF hMe443
 have hv443_0:=hcc443 0 _ rfl
 rw [Nat.add_zero] at hv443_0
 replace hv443_0:=Option.some.inj (hv443_0.symm.trans hx443_0)
 injection hv443_0 with hva_ hvn_ hvc_
 rw [hva_] at ge443_0
 rw [hvc_] at ul443_0
 have HL443_0:=Aside0.mk (show Kd.V (Kd.int .i64) 3 _ w.heap.size _ _ ((rd_T31 t420 0).f0) from Kd.V_mk ul443_0 ge443_0)
 clear hva_ hvn_ hvc_ ge443_0 ul443_0
 clear hcc443 hce443
 have qi443:(0 < t420.length)=True:=eq_true (by omega)
 (try rw [show ((0:Int)).toNat=0 from rfl] at hx443_0)
 (try rw [show 0 * 2=0 from rfl] at hx443_0)
 (try rw [Addr.add_zero'] at hx443_0)
 (try rw [show ((0:Int)).toNat=0 from rfl] at hx443_1)
 (try rw [show 0 * 2=0 from rfl] at hx443_1)
 (try rw [Addr.add_zero'] at hx443_1)
 have HR443_0:=Aside0.mk hi443_0
 have HC443_0:=Aside0.mk hl443_0
 clear hi443_0 hl443_0
 replace p443:=eq_true p443
 replace q443:=eq_true q443
 have ea_:=Option.some.inj (hx441_0.symm.trans hx443_0)
 injection ea_ with ea_ en_ ec_
 subst ea_
 subst ec_
 clear en_
 refine start_ (n:=59) (S:=fun w'=>w'.cell? (ad434.add ((x14_1).toNat * 2))=some (.slice A438_0 ((rd_T31 t417 x14_1).f0).length c438_0)∧w'.cell? ⟨(ad434.add ((x14_1).toNat * 2)).block,(ad434.add ((x14_1).toNat * 2)).off + 1,none⟩=some (.int .i64 ((rd_T31 t417 x14_1).f1))∧w'.cell? ad434=some (.slice A439_0 ((rd_T31 t417 0).f0).length c439_0)∧w'.cell? ⟨ad434.block,ad434.off + 1,none⟩=some (.int .i64 ((rd_T31 t417 0).f1))∧w'.cell? (ad436.add ((x15_2).toNat * 2))=some (.slice A440_0 ((rd_T31 t420 x15_2).f0).length c440_0)∧w'.cell? ⟨(ad436.add ((x15_2).toNat * 2)).block,(ad436.add ((x15_2).toNat * 2)).off + 1,none⟩=some (.int .i64 ((rd_T31 t420 x15_2).f1))∧w'.cell? ad436=some (.slice A441_0 ((rd_T31 t420 0).f0).length c441_0)∧w'.cell? ⟨ad436.block,ad436.off + 1,none⟩=some (.int .i64 ((rd_T31 t420 0).f1))∧w'.cell? ad434=some (.slice A439_0 ((rd_T31 t417 0).f0).length c439_0)∧w'.cell? ⟨ad434.block,ad434.off + 1,none⟩=some (.int .i64 ((rd_T31 t417 0).f1))∧w'.cell? ad436=some (.slice A441_0 ((rd_T31 t420 0).f0).length c441_0)∧w'.cell? ⟨ad436.block,ad436.off + 1,none⟩=some (.int .i64 ((rd_T31 t420 0).f1))) (ds:=[]) (zm 59 0) (by kernel_rfl) rfl rfl ⟨hx438_0,hx438_1,hx439_0,hx439_1,hx440_0,hx440_1,hx441_0,hx441_1,hx442_0,hx442_1,hx443_0,hx443_1⟩ (fun hHeld=>?_);refine with_tabW laws_FnJoin.tab19 laws_FnJoin.bits19 (fun HT_ HW_=>?_)
 generalize w35.drew=w36 at HO_5 HO_6 HO_9 HL434_0 HL436_0 HR434_0 HR436_0 HB HL438_0 HL439_0 HL440_0 HL441_0 HL442_0 HL443_0 HR438_0 HR439_0 HR440_0 HR441_0 HR442_0 HR443_0 hx438_0 hx438_1 hx439_0 hx439_1 hx440_0 hx440_1 hx441_0 hx441_1 hx442_0 hx442_1 hx443_0 hx443_1 hHeld ⊢
 refine zpu 0 104 59 1 ?_
 refine zpu 1 105 59 3 ?_
 refine zpu 2 106 59 7 ?_
 refine zpu 3 107 59 15 ?_
 refine zpu 6 110 59 79 ?_
 refine zpu 7 111 59 207 ?_
 refine zpu 8 112 59 463 ?_
 refine zta 4 108 59 479 ?_
 refine zpu 5 109 59 511 ?_
 refine zta 9 113 59 1023 ?_
 refine zpu 10 114 59 2047 ?_
 refine zpu 11 115 59 4095 ?_
 refine zpu 12 116 59 8191 ?_
 refine zpu 13 117 59 16383 ?_
 refine zpu 14 118 59 32767 ?_
 refine zpu 15 119 59 65535 ?_
 refine zpu 16 120 59 131071 ?_
 refine zpu 19 123 59 655359 ?_
 refine zpu 20 124 59 1703935 ?_
 refine zpu 21 125 59 3801087 ?_
 refine zta 17 121 59 3932159 ?_
 refine zpu 18 122 59 4194303 ?_
 refine zta 22 126 59 8388607 ?_
 refine zpu 23 127 59 16777215 ?_
 refine zpu 24 128 59 33554431 ?_
 refine zpu 25 129 59 67108863 ?_
 refine zpu 26 130 59 134217727 ?_
 refine zpu 27 131 59 268435455 ?_
 refine zpu 28 132 59 536870911 ?_
 refine zpu 29 133 59 1073741823 ?_
 refine zpu 31 135 59 3221225471 ?_
 refine zpu 32 136 59 7516192767 ?_
 refine zpu 33 137 59 16106127359 ?_
 refine zta 30 134 59 17179869183 ?_
 refine zta 34 138 59 34359738367 ?_
 refine zpu 35 139 59 68719476735 ?_
 refine zpu 36 140 59 137438953471 ?_
 refine zpu 37 141 59 274877906943 ?_
 refine zpu 38 142 59 549755813887 ?_
 refine zqu 39 143 59 1099511627775 ?_
 refine zqu 40 144 59 2199023255551 ?_
 refine zqu 41 145 59 4398046511103 ?_
 refine zqu 42 146 59 8796093022207 ?_
 refine zqu 43 147 59 17592186044415 ?_
 refine zqu 44 148 59 35184372088831 ?_
 refine zqu 45 149 59 70368744177663 ?_
 refine zqu 46 150 59 140737488355327 ?_
 refine zqu 47 151 59 281474976710655 ?_
 refine zqu 48 152 59 562949953421311 ?_
 refine zqu 49 153 59 1125899906842623 ?_
 refine zqu 50 154 59 2251799813685247 ?_
 refine zqu 51 155 59 4503599627370495 ?_
 refine zqu 52 156 59 9007199254740991 ?_
 refine zpu 53 157 59 18014398509481983 ?_
 refine zpu 54 158 59 36028797018963967 ?_
 refine zqu 55 159 59 72057594037927935 ?_
 refine zqu 56 160 59 144115188075855871 ?_
 refine zqu 57 161 59 288230376151711743 ?_
 refine zpu 58 162 59 576460752303423487 ?_
 refine done_ (done_of HT_.out (by kernel_rfl)) ?_
 try go_wp2
 go_roundg k2
 case measure=>have:=HK1.out;have:=HK2.out;omega
 case rel=>exact ⟨(wrap64 (x13_2 + 1)),(wrap64 (x15_2 + 1)),(by first|rfl|(rw [HR_.out];first|done|rfl)|(simp;done)|(simp [*];done)),(by first|rfl|(rw [HR_.out];first|done|rfl)|(simp;done)|(simp [*];done)),H',⟨by have:=HK1.out;have:=HK2.out;omega⟩,⟨by (with_reducible repeat (first|apply Kd.N_alloc|apply Kd.N_drewN|apply Kd.N_drew));exact HO_5.out⟩,⟨by (with_reducible repeat (first|apply Kd.N_alloc|apply Kd.N_drewN|apply Kd.N_drew));exact HO_6.out⟩,⟨by (with_reducible repeat (first|apply Kd.N_alloc|apply Kd.N_drewN|apply Kd.N_drew));exact HO_9.out⟩,⟨zhb⟩⟩

set_option maxHeartbeats 8000000 in
set_option maxRecDepth 100000 in
theorem laws_FnJoin.way4 : laws_FnJoin.cut.2.2.2.2.1 := by
 intro k A0 c0 l0 A1 c1 l1 r w HT0 HR_ HR0 HC0 HR1 HC1 t417 t420 t423 t424 A5 t425 t429 t432 A7 A9 A6 iz1 w12 Ao13 co13 Ao14 co14 w15 w16 Ao17 co17 Ao18 co18 w19 HO419 HO422 HO428 HO431 iz2 iz3 iz4 iz5 iz6 u15 u73 u74 u75 u76 u77 u78 iz7 iz8 iz9 iz10 iz11 iz12 iz13 iz14 iz15 iz16 iz17 iz18 iz19 iz20 iz21 iz22 iz23 iz24 iz25 iz26 iz27 iz28 iz29 iz30 iz31 iz32 iz33 iz34 iz35 iz36 iz37 iz38 iz39 iz40 iz41 iz42 iz43 iz44 iz45 iz46 iz47 iz48 iz49 iz50 iz51 iz52 iz53 iz54 iz55 iz56 iz57 iz58 iz59 iz60 iz61 iz62 iz63 iz64 iz65 iz66 iz67 iz68 iz69 iz70 iz71 iz72 iz73 iz74 iz75 iz76 iz77 iz78 iz79 iz80 iz81 iz82 iz83 iz84 iz85 iz86 iz87 iz88 iz89 iz90 iz91 iz92 iz93 x13_1 x14_1 iz94 iz95 iz96 iz97 k1 iz98 HK1 iz99 iz100 wr u4 u79 u80 u81 u82 u83 u84 u85 u86 u87 u88 u89 u90 u91 u92 u93 u94 u95 u96 u97 u98 u99 u100 u101 u102 u103 u104 u105 u106 u107 u108 u109 u110 u111 u112 u113 u114 u115 u116 u117 u118 u119 u120 u121 u122 u123 u124 u125 u126 u127 u128 u129 u130 u131 u132 u133 u134 u135 u136 u137 u138 u139 u140 u141 u142 u143 u144 u145 u146 u147 u148 u149 u150 u151 u152 u153 u154 u155 u156 u157 u158 u159 u160 u161 u162 iz101 iz102 iz103 x13_2 x15_2 HO_5 HO_6 HO_9 HB k2 iz104 HK2 c21b0 c22b0 c23b0 c24b0 c25b0 c26b0 c27b0 c28b0 c29b0 c29b1 c30b0 c30b1 c31b0 c31b1 c31b2 c32b0 c32b1 c33b0 c33b1 c33b2 c34 c34b0 c34b1 t446 A37 t449 A38 c39 c39b0 c39b1 H'
 try go_wp2
 have n0_:=Aside0.mk (Kd.N_drew HO_5.out)
 have n1_:=Aside0.mk (Kd.N_drew HO_6.out)
 have n2_:=Aside0.mk (Kd.N_drew HO_9.out)
 have n3_:=Aside0.mk (below_drew1 HB.out)
 clear HO_5
 clear HO_6
 clear HO_9
 clear HB
 have HO_5:=n0_
 have HO_6:=n1_
 have HO_9:=n2_
 have HB:=n3_
 clear n0_ n1_ n2_ n3_
 have p434:0≤(x14_1:Int):=zod
 have q434:x14_1 < (t417.length:Int):=zod
 obtain ⟨ad434,A434_0,c434_0,e434,hx434_0,hx434_1,hl434_0,hi434_0⟩:=at_T31 (Kd.N_reads' HO_5.out).2.2 x14_1 p434 q434
 cases e434
 obtain ⟨ce434,hce434,hMe434,hcc434⟩:=Kd.N_get HO_5.out z31 x14_1 p434 (by first|exact q434|exact zod|(have e_:=(Kd.N_reads' HO_5.out).1;omega))
 obtain ⟨ua434_0,uc434_0,rfl,ul434_0,ge434_0⟩:=k31_openF hMe434
 have hv434_0:=hcc434 0 _ rfl
 rw [Nat.add_zero] at hv434_0
 replace hv434_0:=Option.some.inj (hv434_0.symm.trans hx434_0)
 injection hv434_0 with hva_ hvn_ hvc_
 rw [hva_] at ge434_0
 rw [hvc_] at ul434_0
 have HL434_0:=Aside0.mk (show Kd.V (Kd.int .i64) 3 _ w.heap.size _ _ ((rd_T31 t417 x14_1).f0) from Kd.V_mk ul434_0 ge434_0)
 clear hva_ hvn_ hvc_ ge434_0 ul434_0
 clear hcc434 hce434
 have HR434_0:=Aside0.mk hi434_0
 have HC434_0:=Aside0.mk hl434_0
 clear hi434_0 hl434_0
 replace p434:=eq_true p434
 replace q434:=eq_true q434
 have p435:0≤(t423:Int):=zod
 have q435:t423 < (((rd_T31 t417 x14_1).f0).length:Int):=zod
 obtain ⟨ad435,e435,hx435_0⟩:=Kd.at_int (zC HR434_0.out) t423 p435 q435
 cases e435
 replace p435:=eq_true p435
 replace q435:=eq_true q435
 have p436:0≤(x15_2:Int):=zod
 have q436:x15_2 < (t420.length:Int):=zod
 obtain ⟨ad436,A436_0,c436_0,e436,hx436_0,hx436_1,hl436_0,hi436_0⟩:=at_T31 (Kd.N_reads' HO_6.out).2.2 x15_2 p436 q436
 cases e436
 obtain ⟨ce436,hce436,hMe436,hcc436⟩:=Kd.N_get HO_6.out z31 x15_2 p436 (by first|exact q436|exact zod|(have e_:=(Kd.N_reads' HO_6.out).1;omega))
 obtain ⟨ua436_0,uc436_0,rfl,ul436_0,ge436_0⟩:=k31_openF hMe436
 have hv436_0:=hcc436 0 _ rfl
 rw [Nat.add_zero] at hv436_0
 replace hv436_0:=Option.some.inj (hv436_0.symm.trans hx436_0)
 injection hv436_0 with hva_ hvn_ hvc_
 rw [hva_] at ge436_0
 rw [hvc_] at ul436_0
 have HL436_0:=Aside0.mk (show Kd.V (Kd.int .i64) 3 _ w.heap.size _ _ ((rd_T31 t420 x15_2).f0) from Kd.V_mk ul436_0 ge436_0)
 clear hva_ hvn_ hvc_ ge436_0 ul436_0
 clear hcc436 hce436
 have HR436_0:=Aside0.mk hi436_0
 have HC436_0:=Aside0.mk hl436_0
 clear hi436_0 hl436_0
 replace p436:=eq_true p436
 replace q436:=eq_true q436
 have p437:0≤(t424:Int):=zod
 have q437:t424 < (((rd_T31 t420 x15_2).f0).length:Int):=zod
 obtain ⟨ad437,e437,hx437_0⟩:=Kd.at_int (zC HR436_0.out) t424 p437 q437
 cases e437
 replace p437:=eq_true p437
 replace q437:=eq_true q437
 refine start_ (n:=17) (S:=fun w'=>w'.cell? (ad434.add ((x14_1).toNat * 2))=some (.slice (some ad435) ((rd_T31 t417 x14_1).f0).length c434_0)∧w'.cell? ⟨(ad434.add ((x14_1).toNat * 2)).block,(ad434.add ((x14_1).toNat * 2)).off + 1,none⟩=some (.int .i64 ((rd_T31 t417 x14_1).f1))∧w'.cell? (ad435.add (t423).toNat)=some (.int .i64 (rd ((rd_T31 t417 x14_1).f0) t423))∧w'.cell? (ad436.add ((x15_2).toNat * 2))=some (.slice (some ad437) ((rd_T31 t420 x15_2).f0).length c436_0)∧w'.cell? ⟨(ad436.add ((x15_2).toNat * 2)).block,(ad436.add ((x15_2).toNat * 2)).off + 1,none⟩=some (.int .i64 ((rd_T31 t420 x15_2).f1))∧w'.cell? (ad437.add (t424).toNat)=some (.int .i64 (rd ((rd_T31 t420 x15_2).f0) t424))) (ds:=[]) (zm 17 0) (by kernel_rfl) rfl rfl ⟨hx434_0,hx434_1,hx435_0,hx436_0,hx436_1,hx437_0⟩ (fun hHeld=>?_);refine with_tabW laws_FnJoin.tab17 laws_FnJoin.bits17 (fun HT_ HW_=>?_)
 generalize wr.drew=w46 at HO_5 HO_6 HO_9 HB HL434_0 HL436_0 HR434_0 HR436_0 hx434_0 hx434_1 hx435_0 hx436_0 hx436_1 hx437_0 hHeld ⊢
 refine zpu 0 85 17 1 ?_
 refine zpu 1 86 17 3 ?_
 refine zpu 2 87 17 7 ?_
 refine zpu 3 88 17 15 ?_
 refine zpu 5 90 17 47 ?_
 refine zpu 8 93 17 303 ?_
 refine zpu 9 94 17 815 ?_
 refine zpu 10 95 17 1839 ?_
 refine zpu 11 96 17 3887 ?_
 refine zpu 13 98 17 12079 ?_
 refine zta 4 89 17 12095 ?_
 refine zpu 6 91 17 12159 ?_
 refine zta 7 92 17 12287 ?_
 refine zta 12 97 17 16383 ?_
 refine zpu 14 99 17 32767 ?_
 refine zta 15 100 17 65535 ?_
 refine zpu 16 101 17 131071 ?_
 refine done_ (done_of HT_.out (by kernel_rfl)) ?_
 try go_wp2
 have n0_:=Aside0.mk (Kd.N_drew HO_5.out)
 have n1_:=Aside0.mk (Kd.N_drew HO_6.out)
 have n2_:=Aside0.mk (Kd.N_drew HO_9.out)
 have n3_:=Aside0.mk (Kd.V_drew HL434_0.out)
 have n4_:=Aside0.mk (Kd.V_drew HL436_0.out)
 have n5_:=Aside0.mk (Kd.C_drew HR434_0.out)
 have n6_:=Aside0.mk (Kd.C_drew HR436_0.out)
 have n7_:=Aside0.mk (below_drew1 HB.out)
 clear HO_5
 clear HO_6
 clear HO_9
 clear HL434_0
 clear HL436_0
 clear HR434_0
 clear HR436_0
 clear HB
 have HO_5:=n0_
 have HO_6:=n1_
 have HO_9:=n2_
 have HL434_0:=n3_
 have HL436_0:=n4_
 have HR434_0:=n5_
 have HR436_0:=n6_
 have HB:=n7_
 clear n0_ n1_ n2_ n3_ n4_ n5_ n6_ n7_
 have p438:0≤(x14_1:Int):=zod
 have q438:x14_1 < (t417.length:Int):=zod
 obtain ⟨ad438,A438_0,c438_0,e438,hx438_0,hx438_1,hl438_0,hi438_0⟩:=at_T31 (Kd.N_reads' HO_5.out).2.2 x14_1 p438 q438
 obtain rfl:ad434=ad438:=(by injection e438)
 obtain ⟨ce438,hce438,hMe438,hcc438⟩:=Kd.N_get HO_5.out z31 x14_1 p438 (by first|exact q438|exact zod|(have e_:=(Kd.N_reads' HO_5.out).1;omega))
 obtain ⟨ua438_0,uc438_0,rfl,ul438_0,ge438_0⟩:=k31_openF hMe438
 have hv438_0:=hcc438 0 _ rfl
 rw [Nat.add_zero] at hv438_0
 replace hv438_0:=Option.some.inj (hv438_0.symm.trans hx438_0)
 injection hv438_0 with hva_ hvn_ hvc_
 rw [hva_] at ge438_0
 rw [hvc_] at ul438_0
 have HL438_0:=Aside0.mk (show Kd.V (Kd.int .i64) 3 _ w.heap.size _ _ ((rd_T31 t417 x14_1).f0) from Kd.V_mk ul438_0 ge438_0)
 clear hva_ hvn_ hvc_ ge438_0 ul438_0
 clear hcc438 hce438
 have HR438_0:=Aside0.mk hi438_0
 have HC438_0:=Aside0.mk hl438_0
 clear hi438_0 hl438_0
 replace p438:=eq_true p438
 replace q438:=eq_true q438
 have p439:0≤(0:Int):=(by omega)
 have q439:0 < (t417.length:Int):=zod
 obtain ⟨ad439,A439_0,c439_0,e439,hx439_0,hx439_1,hl439_0,hi439_0⟩:=at_T31 (Kd.N_reads' HO_5.out).2.2 0 p439 q439
 obtain rfl:ad434=ad439:=(by injection e439)
 obtain ⟨ce439,hce439,hMe439,hcc439⟩:=Kd.N_get HO_5.out z31 0 p439 (by first|exact q439|exact zod|(have e_:=(Kd.N_reads' HO_5.out).1;omega))
 obtain ⟨ua439_0,uc439_0,rfl,ul439_0,ge439_0⟩:=k31_openF hMe439
 have hv439_0:=hcc439 0 _ rfl
 rw [Nat.add_zero] at hv439_0
 replace hv439_0:=Option.some.inj (hv439_0.symm.trans hx439_0)
 injection hv439_0 with hva_ hvn_ hvc_
 rw [hva_] at ge439_0
 rw [hvc_] at ul439_0
 have HL439_0:=Aside0.mk (show Kd.V (Kd.int .i64) 3 _ w.heap.size _ _ ((rd_T31 t417 0).f0) from Kd.V_mk ul439_0 ge439_0)
 clear hva_ hvn_ hvc_ ge439_0 ul439_0
 clear hcc439 hce439
 have qi439:(0 < t417.length)=True:=eq_true (by omega)
 (try rw [show ((0:Int)).toNat=0 from rfl] at hx439_0)
 (try rw [show 0 * 2=0 from rfl] at hx439_0)
 (try rw [Addr.add_zero'] at hx439_0)
 (try rw [show ((0:Int)).toNat=0 from rfl] at hx439_1)
 (try rw [show 0 * 2=0 from rfl] at hx439_1)
 (try rw [Addr.add_zero'] at hx439_1)
 have HR439_0:=Aside0.mk hi439_0
 have HC439_0:=Aside0.mk hl439_0
 clear hi439_0 hl439_0
 replace p439:=eq_true p439
 replace q439:=eq_true q439
 have p440:0≤(x15_2:Int):=zod
 have q440:x15_2 < (t420.length:Int):=zod
 obtain ⟨ad440,A440_0,c440_0,e440,hx440_0,hx440_1,hl440_0,hi440_0⟩:=at_T31 (Kd.N_reads' HO_6.out).2.2 x15_2 p440 q440
 obtain rfl:ad436=ad440:=(by injection e440)
 obtain ⟨ce440,hce440,hMe440,hcc440⟩:=Kd.N_get HO_6.out z31 x15_2 p440 (by first|exact q440|exact zod|(have e_:=(Kd.N_reads' HO_6.out).1;omega))
 obtain ⟨ua440_0,uc440_0,rfl,ul440_0,ge440_0⟩:=k31_openF hMe440
 have hv440_0:=hcc440 0 _ rfl
 rw [Nat.add_zero] at hv440_0
 replace hv440_0:=Option.some.inj (hv440_0.symm.trans hx440_0)
 injection hv440_0 with hva_ hvn_ hvc_
 rw [hva_] at ge440_0
 rw [hvc_] at ul440_0
 have HL440_0:=Aside0.mk (show Kd.V (Kd.int .i64) 3 _ w.heap.size _ _ ((rd_T31 t420 x15_2).f0) from Kd.V_mk ul440_0 ge440_0)
 clear hva_ hvn_ hvc_ ge440_0 ul440_0
 clear hcc440 hce440
 have HR440_0:=Aside0.mk hi440_0
 have HC440_0:=Aside0.mk hl440_0
 clear hi440_0 hl440_0
 replace p440:=eq_true p440
 replace q440:=eq_true q440
 have p441:0≤(0:Int):=(by omega)
 have q441:0 < (t420.length:Int):=zod
 obtain ⟨ad441,A441_0,c441_0,e441,hx441_0,hx441_1,hl441_0,hi441_0⟩:=at_T31 (Kd.N_reads' HO_6.out).2.2 0 p441 q441
 obtain rfl:ad436=ad441:=(by injection e441)
 obtain ⟨ce441,hce441,hMe441,hcc441⟩:=Kd.N_get HO_6.out z31 0 p441 (by first|exact q441|exact zod|(have e_:=(Kd.N_reads' HO_6.out).1;omega))
 obtain ⟨ua441_0,uc441_0,rfl,ul441_0,ge441_0⟩:=k31_openF hMe441
 have hv441_0:=hcc441 0 _ rfl
 rw [Nat.add_zero] at hv441_0
 replace hv441_0:=Option.some.inj (hv441_0.symm.trans hx441_0)
 injection hv441_0 with hva_ hvn_ hvc_
 rw [hva_] at ge441_0
 rw [hvc_] at ul441_0
 have HL441_0:=Aside0.mk (show Kd.V (Kd.int .i64) 3 _ w.heap.size _ _ ((rd_T31 t420 0).f0) from Kd.V_mk ul441_0 ge441_0)
 clear hva_ hvn_ hvc_ ge441_0 ul441_0
 clear hcc441 hce441
 have qi441:(0 < t420.length)=True:=eq_true (by omega)
 (try rw [show ((0:Int)).toNat=0 from rfl] at hx441_0)
 (try rw [show 0 * 2=0 from rfl] at hx441_0)
 (try rw [Addr.add_zero'] at hx441_0)
 (try rw [show ((0:Int)).toNat=0 from rfl] at hx441_1)
 (try rw [show 0 * 2=0 from rfl] at hx441_1)
 (try rw [Addr.add_zero'] at hx441_1)
 have HR441_0:=Aside0.mk hi441_0
 have HC441_0:=Aside0.mk hl441_0
 clear hi441_0 hl441_0
 replace p441:=eq_true p441
 replace q441:=eq_true q441
 have p442:0≤(0:Int):=(by omega)
 have q442:0 < (t417.length:Int):=zod
 obtain ⟨ad442,A442_0,c442_0,e442,hx442_0,hx442_1,hl442_0,hi442_0⟩:=at_T31 (Kd.N_reads' HO_5.out).2.2 0 p442 q442
 obtain rfl:ad434=ad442:=(by injection e442)
 obtain ⟨ce442,hce442,hMe442,hcc442⟩:=Kd.N_get HO_5.out z31 0 p442 (by first|exact q442|exact zod|(have e_:=(Kd.N_reads' HO_5.out).1;omega))
 obtain ⟨ua442_0,uc442_0,rfl,ul442_0,ge442_0⟩:=k31_openF hMe442
 have hv442_0:=hcc442 0 _ rfl
 rw [Nat.add_zero] at hv442_0
 replace hv442_0:=Option.some.inj (hv442_0.symm.trans hx442_0)
 injection hv442_0 with hva_ hvn_ hvc_
 rw [hva_] at ge442_0
 rw [hvc_] at ul442_0
 have HL442_0:=Aside0.mk (show Kd.V (Kd.int .i64) 3 _ w.heap.size _ _ ((rd_T31 t417 0).f0) from Kd.V_mk ul442_0 ge442_0)
 clear hva_ hvn_ hvc_ ge442_0 ul442_0
 clear hcc442 hce442
 have qi442:(0 < t417.length)=True:=eq_true (by omega)
 (try rw [show ((0:Int)).toNat=0 from rfl] at hx442_0)
 (try rw [show 0 * 2=0 from rfl] at hx442_0)
 (try rw [Addr.add_zero'] at hx442_0)
 (try rw [show ((0:Int)).toNat=0 from rfl] at hx442_1)
 (try rw [show 0 * 2=0 from rfl] at hx442_1)
 (try rw [Addr.add_zero'] at hx442_1)
 have HR442_0:=Aside0.mk hi442_0
 have HC442_0:=Aside0.mk hl442_0
 clear hi442_0 hl442_0
 replace p442:=eq_true p442
 replace q442:=eq_true q442
 have ea_:=Option.some.inj (hx439_0.symm.trans hx442_0)
 injection ea_ with ea_ en_ ec_
 subst ea_
 subst ec_
 clear en_
 have p443:0≤(0:Int):=(by omega)
 have q443:0 < (t420.length:Int):=zod
 obtain ⟨ad443,A443_0,c443_0,e443,hx443_0,hx443_1,hl443_0,hi443_0⟩:=at_T31 (Kd.N_reads' HO_6.out).2.2 0 p443 q443
 obtain rfl:ad436=ad443:=(by injection e443)
 obtain ⟨ce443,hce443,hMe443,hcc443⟩:=Kd.N_get HO_6.out z31 0 p443 (by first|exact q443|exact zod|(have e_:=(Kd.N_reads' HO_6.out).1;omega))
 obtain ⟨ua443_0,uc443_0,rfl,ul443_0,ge443_0⟩:=k31_openF hMe443
 have hv443_0:=hcc443 0 _ rfl
 rw [Nat.add_zero] at hv443_0
 replace hv443_0:=Option.some.inj (hv443_0.symm.trans hx443_0)
 injection hv443_0 with hva_ hvn_ hvc_
 rw [hva_] at ge443_0
 rw [hvc_] at ul443_0
 have HL443_0:=Aside0.mk (show Kd.V (Kd.int .i64) 3 _ w.heap.size _ _ ((rd_T31 t420 0).f0) from Kd.V_mk ul443_0 ge443_0)
 clear hva_ hvn_ hvc_ ge443_0 ul443_0
 clear hcc443 hce443
 have qi443:(0 < t420.length)=True:=eq_true (by omega)
 (try rw [show ((0:Int)).toNat=0 from rfl] at hx443_0)
 (try rw [show 0 * 2=0 from rfl] at hx443_0)
 (try rw [Addr.add_zero'] at hx443_0)
 (try rw [show ((0:Int)).toNat=0 from rfl] at hx443_1)
 (try rw [show 0 * 2=0 from rfl] at hx443_1)
 (try rw [Addr.add_zero'] at hx443_1)
 have HR443_0:=Aside0.mk hi443_0
 have HC443_0:=Aside0.mk hl443_0
 clear hi443_0 hl443_0
 replace p443:=eq_true p443
 replace q443:=eq_true q443
 have ea_:=Option.some.inj (hx441_0.symm.trans hx443_0)
 injection ea_ with ea_ en_ ec_
 subst ea_
 subst ec_
 clear en_
 have p444:0≤(x14_1:Int):=zod
 have q444:x14_1 < (t417.length:Int):=zod
 obtain ⟨ad444,A444_0,c444_0,e444,hx444_0,hx444_1,hl444_0,hi444_0⟩:=at_T31 (Kd.N_reads' HO_5.out).2.2 x14_1 p444 q444
 obtain rfl:ad434=ad444:=(by injection e444)
 obtain ⟨ce444,hce444,hMe444,hcc444⟩:=Kd.N_get HO_5.out z31 x14_1 p444 (by first|exact q444|exact zod|(have e_:=(Kd.N_reads' HO_5.out).1;omega))
 obtain ⟨ua444_0,uc444_0,rfl,ul444_0,ge444_0⟩:=k31_openF hMe444
 have hv444_0:=hcc444 0 _ rfl
 rw [Nat.add_zero] at hv444_0
 replace hv444_0:=Option.some.inj (hv444_0.symm.trans hx444_0)
 injection hv444_0 with hva_ hvn_ hvc_
 rw [hva_] at ge444_0
 rw [hvc_] at ul444_0
 have HL444_0:=Aside0.mk (show Kd.V (Kd.int .i64) 3 _ w.heap.size _ _ ((rd_T31 t417 x14_1).f0) from Kd.V_mk ul444_0 ge444_0)
 clear hva_ hvn_ hvc_ ge444_0 ul444_0
 clear hcc444 hce444
 have HR444_0:=Aside0.mk hi444_0
 have HC444_0:=Aside0.mk hl444_0
 clear hi444_0 hl444_0
 replace p444:=eq_true p444
 replace q444:=eq_true q444
 have ea_:=Option.some.inj (hx438_0.symm.trans hx444_0)
 injection ea_ with ea_ en_ ec_
 subst ea_
 subst ec_
 clear en_
 have p445:0≤(x15_2:Int):=zod
 have q445:x15_2 < (t420.length:Int):=zod
 obtain ⟨ad445,A445_0,c445_0,e445,hx445_0,hx445_1,hl445_0,hi445_0⟩:=at_T31 (Kd.N_reads' HO_6.out).2.2 x15_2 p445 q445
 obtain rfl:ad436=ad445:=(by injection e445)
 obtain ⟨ce445,hce445,hMe445,hcc445⟩:=Kd.N_get HO_6.out z31 x15_2 p445 (by first|exact q445|exact zod|(have e_:=(Kd.N_reads' HO_6.out).1;omega))
 obtain ⟨ua445_0,uc445_0,rfl,ul445_0,ge445_0⟩:=k31_openF hMe445
 have hv445_0:=hcc445 0 _ rfl
 rw [Nat.add_zero] at hv445_0
 replace hv445_0:=Option.some.inj (hv445_0.symm.trans hx445_0)
 injection hv445_0 with hva_ hvn_ hvc_
 rw [hva_] at ge445_0
 rw [hvc_] at ul445_0
 have HL445_0:=Aside0.mk (show Kd.V (Kd.int .i64) 3 _ w.heap.size _ _ ((rd_T31 t420 x15_2).f0) from Kd.V_mk ul445_0 ge445_0)
 clear hva_ hvn_ hvc_ ge445_0 ul445_0
 clear hcc445 hce445
 have HR445_0:=Aside0.mk hi445_0
 have HC445_0:=Aside0.mk hl445_0
 clear hi445_0 hl445_0
 replace p445:=eq_true p445
 replace q445:=eq_true q445
 have ea_:=Option.some.inj (hx440_0.symm.trans hx445_0)
 injection ea_ with ea_ en_ ec_
 subst ea_
 subst ec_
 clear en_
 refine start_ (n:=59) (S:=fun w'=>w'.cell? (ad434.add ((x14_1).toNat * 2))=some (.slice A438_0 ((rd_T31 t417 x14_1).f0).length c438_0)∧w'.cell? ⟨(ad434.add ((x14_1).toNat * 2)).block,(ad434.add ((x14_1).toNat * 2)).off + 1,none⟩=some (.int .i64 ((rd_T31 t417 x14_1).f1))∧w'.cell? ad434=some (.slice A439_0 ((rd_T31 t417 0).f0).length c439_0)∧w'.cell? ⟨ad434.block,ad434.off + 1,none⟩=some (.int .i64 ((rd_T31 t417 0).f1))∧w'.cell? (ad436.add ((x15_2).toNat * 2))=some (.slice A440_0 ((rd_T31 t420 x15_2).f0).length c440_0)∧w'.cell? ⟨(ad436.add ((x15_2).toNat * 2)).block,(ad436.add ((x15_2).toNat * 2)).off + 1,none⟩=some (.int .i64 ((rd_T31 t420 x15_2).f1))∧w'.cell? ad436=some (.slice A441_0 ((rd_T31 t420 0).f0).length c441_0)∧w'.cell? ⟨ad436.block,ad436.off + 1,none⟩=some (.int .i64 ((rd_T31 t420 0).f1))∧w'.cell? ad434=some (.slice A439_0 ((rd_T31 t417 0).f0).length c439_0)∧w'.cell? ⟨ad434.block,ad434.off + 1,none⟩=some (.int .i64 ((rd_T31 t417 0).f1))∧w'.cell? ad436=some (.slice A441_0 ((rd_T31 t420 0).f0).length c441_0)∧w'.cell? ⟨ad436.block,ad436.off + 1,none⟩=some (.int .i64 ((rd_T31 t420 0).f1))∧w'.cell? (ad434.add ((x14_1).toNat * 2))=some (.slice A438_0 ((rd_T31 t417 x14_1).f0).length c438_0)∧w'.cell? ⟨(ad434.add ((x14_1).toNat * 2)).block,(ad434.add ((x14_1).toNat * 2)).off + 1,none⟩=some (.int .i64 ((rd_T31 t417 x14_1).f1))∧w'.cell? (ad436.add ((x15_2).toNat * 2))=some (.slice A440_0 ((rd_T31 t420 x15_2).f0).length c440_0)∧w'.cell? ⟨(ad436.add ((x15_2).toNat * 2)).block,(ad436.add ((x15_2).toNat * 2)).off + 1,none⟩=some (.int .i64 ((rd_T31 t420 x15_2).f1))) (ds:=[]) (zm 59 0) (by kernel_rfl) rfl rfl ⟨hx438_0,hx438_1,hx439_0,hx439_1,hx440_0,hx440_1,hx441_0,hx441_1,hx442_0,hx442_1,hx443_0,hx443_1,hx444_0,hx444_1,hx445_0,hx445_1⟩ (fun hHeld=>?_);refine with_tabW laws_FnJoin.tab19 laws_FnJoin.bits19 (fun HT_ HW_=>?_)
 generalize w46.drew=w47 at HO_5 HO_6 HO_9 HL434_0 HL436_0 HR434_0 HR436_0 HB HL438_0 HL439_0 HL440_0 HL441_0 HL442_0 HL443_0 HL444_0 HL445_0 HR438_0 HR439_0 HR440_0 HR441_0 HR442_0 HR443_0 HR444_0 HR445_0 hx438_0 hx438_1 hx439_0 hx439_1 hx440_0 hx440_1 hx441_0 hx441_1 hx442_0 hx442_1 hx443_0 hx443_1 hx444_0 hx444_1 hx445_0 hx445_1 hHeld ⊢
 refine zpu 0 104 59 1 ?_
 refine zpu 1 105 59 3 ?_
 refine zpu 2 106 59 7 ?_
 refine zpu 3 107 59 15 ?_
 refine zpu 6 110 59 79 ?_
 refine zpu 7 111 59 207 ?_
 refine zpu 8 112 59 463 ?_
 refine zta 4 108 59 479 ?_
 refine zpu 5 109 59 511 ?_
 refine zta 9 113 59 1023 ?_
 refine zpu 10 114 59 2047 ?_
 refine zpu 11 115 59 4095 ?_
 refine zpu 12 116 59 8191 ?_
 refine zpu 13 117 59 16383 ?_
 refine zpu 14 118 59 32767 ?_
 refine zpu 15 119 59 65535 ?_
 refine zpu 16 120 59 131071 ?_
 refine zpu 19 123 59 655359 ?_
 refine zpu 20 124 59 1703935 ?_
 refine zpu 21 125 59 3801087 ?_
 refine zta 17 121 59 3932159 ?_
 refine zpu 18 122 59 4194303 ?_
 refine zta 22 126 59 8388607 ?_
 refine zpu 23 127 59 16777215 ?_
 refine zpu 24 128 59 33554431 ?_
 refine zpu 25 129 59 67108863 ?_
 refine zpu 26 130 59 134217727 ?_
 refine zpu 27 131 59 268435455 ?_
 refine zpu 28 132 59 536870911 ?_
 refine zpu 29 133 59 1073741823 ?_
 refine zpu 31 135 59 3221225471 ?_
 refine zpu 32 136 59 7516192767 ?_
 refine zpu 33 137 59 16106127359 ?_
 refine zta 30 134 59 17179869183 ?_
 refine zta 34 138 59 34359738367 ?_
 refine zpu 35 139 59 68719476735 ?_
 refine zpu 36 140 59 137438953471 ?_
 refine zpu 37 141 59 274877906943 ?_
 refine zpu 38 142 59 549755813887 ?_
 refine zpu 39 143 59 1099511627775 ?_
 refine zpu 40 144 59 2199023255551 ?_
 refine zpu 41 145 59 4398046511103 ?_
 refine zpu 42 146 59 8796093022207 ?_
 refine zpu 43 147 59 17592186044415 ?_
 refine zpu 45 149 59 52776558133247 ?_
 refine zpu 46 150 59 123145302310911 ?_
 refine zpu 47 151 59 263882790666239 ?_
 refine zpu 48 152 59 545357767376895 ?_
 refine zta 44 148 59 562949953421311 ?_
 refine zta 49 153 59 1125899906842623 ?_
 refine one_ (i:=50) (N:=some 154) (zm 59 2251799813685247) rfl rfl (one_of HT_.out (by kernel_rfl)) (by decide) (fun K hK=>?_)
 refine goes_ Tryd.func18 (by kernel_rfl) rfl #[.slice A438_0 ((rd_T31 t417 x14_1).f0).length c438_0,.slice A440_0 ((rd_T31 t420 x15_2).f0).length c440_0] (by rfl) rfl rfl zar ?_
 with_reducible refine (impl_RowJoin.calls k2 (fun k_=>((some k_≠(.slice (some ad436) t420.length co14:Value).ownBlock∧some k_≠(.slice Ao17 t425.length co17:Value).ownBlock)∧some k_≠(.slice (some ad434) t417.length co13:Value).ownBlock)) _ _ ((rd_T31 t417 x14_1).f0) (fun k_=>((some k_≠(.slice (some ad434) t417.length co13:Value).ownBlock∧some k_≠(.slice Ao17 t425.length co17:Value).ownBlock)∧some k_≠(.slice (some ad436) t420.length co14:Value).ownBlock)) _ _ ((rd_T31 t420 x15_2).f0) t446 _ ?side1 ?side2 A37.out).mono ?_
 (case side1=>exact HL438_0.out)
 (case side2=>exact HL440_0.out)
 rintro e w48 ⟨v447,rfl,ho0,hb⟩
 have HS0_:=zhs hb hHeld.1
 have HS1_:=zhs hb hHeld.2.1
 have HS2_:=zhs hb hHeld.2.2.1
 have HS3_:=zhs hb hHeld.2.2.2.1
 have HS4_:=zhs hb hHeld.2.2.2.2.1
 have HS5_:=zhs hb hHeld.2.2.2.2.2.1
 have HS6_:=zhs hb hHeld.2.2.2.2.2.2.1
 have HS7_:=zhs hb hHeld.2.2.2.2.2.2.2.1
 have HS8_:=zhs hb hHeld.2.2.2.2.2.2.2.2.1
 have HS9_:=zhs hb hHeld.2.2.2.2.2.2.2.2.2.1
 have HS10_:=zhs hb hHeld.2.2.2.2.2.2.2.2.2.2.1
 have HS11_:=zhs hb hHeld.2.2.2.2.2.2.2.2.2.2.2.1
 have HS12_:=zhs hb hHeld.2.2.2.2.2.2.2.2.2.2.2.2.1
 have HS13_:=zhs hb hHeld.2.2.2.2.2.2.2.2.2.2.2.2.2.1
 have HS14_:=zhs hb hHeld.2.2.2.2.2.2.2.2.2.2.2.2.2.2.1
 have HS15_:=zhs hb hHeld.2.2.2.2.2.2.2.2.2.2.2.2.2.2.2
 refine ⟨_,rfl,?_⟩
 have n0_:=Aside0.mk (Kd.N_elder' (zN HO_5.out) (Kd.R_base ho0) hb)
 have n1_:=Aside0.mk (Kd.N_elder' (zN HO_6.out) (Kd.R_base ho0) hb)
 have n2_:=Aside0.mk (Kd.N_elder' (zN HO_9.out) (Kd.R_base ho0) hb)
 have n3_:=Aside0.mk (Kd.V_elder' (zV HL434_0.out) (Kd.R_base ho0) hb)
 have n4_:=Aside0.mk (Kd.V_elder' (zV HL436_0.out) (Kd.R_base ho0) hb)
 have n5_:=Aside0.mk (Kd.V_elder' (zV HL438_0.out) (Kd.R_base ho0) hb)
 have n6_:=Aside0.mk (Kd.V_elder' (zV HL439_0.out) (Kd.R_base ho0) hb)
 have n7_:=Aside0.mk (Kd.V_elder' (zV HL440_0.out) (Kd.R_base ho0) hb)
 have n8_:=Aside0.mk (Kd.V_elder' (zV HL441_0.out) (Kd.R_base ho0) hb)
 have n9_:=Aside0.mk (Kd.R_lower (Kd.R_mono (ok':=fun k_=>True) ho0 (fun _ hk_=>trivial)) (below_size zhb))
 have n10_:=Aside0.mk (Kd.C_below (zC HR434_0.out) hb)
 have n11_:=Aside0.mk (Kd.C_below (zC HR436_0.out) hb)
 have n12_:=Aside0.mk (Kd.C_below (zC HR438_0.out) hb)
 have n13_:=Aside0.mk (Kd.C_below (zC HR439_0.out) hb)
 have n14_:=Aside0.mk (Kd.C_below (zC HR440_0.out) hb)
 have n15_:=Aside0.mk (Kd.C_below (zC HR441_0.out) hb)
 have n16_:=Aside0.mk (below_step zhb hb)
 clear HO_5
 clear HO_6
 clear HO_9
 clear HL434_0
 clear HL436_0
 clear HL438_0
 clear HL439_0
 clear HL440_0
 clear HL441_0
 clear HR434_0
 clear HR436_0
 clear HR438_0
 clear HR439_0
 clear HR440_0
 clear HR441_0
 clear HB
 have HO_5:=n0_
 have HO_6:=n1_
 have HO_9:=n2_
 have HL434_0:=n3_
 have HL436_0:=n4_
 have HL438_0:=n5_
 have HL439_0:=n6_
 have HL440_0:=n7_
 have HL441_0:=n8_
 have HO448:=n9_
 have HR434_0:=n10_
 have HR436_0:=n11_
 have HR438_0:=n12_
 have HR439_0:=n13_
 have HR440_0:=n14_
 have HR441_0:=n15_
 have HB:=n16_
 clear n0_ n1_ n2_ n3_ n4_ n5_ n6_ n7_ n8_ n9_ n10_ n11_ n12_ n13_ n14_ n15_ n16_
 (try clear hb)
 (try clear hb2)
 (try clear hk)
 (try clear hi)
 (try clear ho0)
 obtain ⟨Ao49,co49,eo49⟩:=Kd.R_slice HO448.out
 (first|subst eo49|(injection eo49 with f1_ f2_ f3_;have f4_:=f1_.symm;have f5_:=f3_.symm;clear f1_ f2_ f3_;subst f4_;subst f5_))
 refine hK.out _ _ ⟨HS0_,HS1_,HS2_,HS3_,HS4_,HS5_,HS6_,HS7_,HS8_,HS9_,HS10_,HS11_,HS12_,HS13_,HS14_,HS15_⟩ (fun hHeld=>?_)
 clear hK K
 refine norm_ (a':=?_) ?_ ?_
 rotate_left
 ·show Act.put _ (some 154) _=_
  simp only [Act.put,zp1,zp2,zp3,i64_w,i32_w]
  rfl
 refine one_ (i:=51) (N:=some 155) (zm 59 4503599627370495) rfl rfl (one_of HT_.out (by kernel_rfl)) (by decide) (fun K hK=>?_)
 refine goes_ Tryd.func17 (by kernel_rfl) rfl #[.slice Ao17 t425.length co17,.slice Ao49 t446.length co49] (by rfl) rfl rfl zar ?_
 with_reducible refine (impl_ZGet.calls k2 _ _ t425 _ _ t446 t449 _ ?side1 ?side2 ?side3 ?side4 A38.out).mono ?_
 (case side1=>exact zC (Kd.N_reads' HO_9.out).2.2)
 (case side2=>exact (Kd.N_reads' HO_9.out).2.1)
 (case side3=>repeat (first|exact (Kd.R_reads' HO448.out).2.2|(with_reducible refine Kd.C_alloc ?_ _)|(with_reducible refine Kd.C_drewN ?_ _)|(with_reducible refine Kd.C_drew ?_)))
 (case side4=>exact (Kd.R_reads' HO448.out).2.1)
 rintro e w50 ⟨rfl,hb⟩
 have HS0_:=zhs hb hHeld.1
 have HS1_:=zhs hb hHeld.2.1
 have HS2_:=zhs hb hHeld.2.2.1
 have HS3_:=zhs hb hHeld.2.2.2.1
 have HS4_:=zhs hb hHeld.2.2.2.2.1
 have HS5_:=zhs hb hHeld.2.2.2.2.2.1
 have HS6_:=zhs hb hHeld.2.2.2.2.2.2.1
 have HS7_:=zhs hb hHeld.2.2.2.2.2.2.2.1
 have HS8_:=zhs hb hHeld.2.2.2.2.2.2.2.2.1
 have HS9_:=zhs hb hHeld.2.2.2.2.2.2.2.2.2.1
 have HS10_:=zhs hb hHeld.2.2.2.2.2.2.2.2.2.2.1
 have HS11_:=zhs hb hHeld.2.2.2.2.2.2.2.2.2.2.2.1
 have HS12_:=zhs hb hHeld.2.2.2.2.2.2.2.2.2.2.2.2.1
 have HS13_:=zhs hb hHeld.2.2.2.2.2.2.2.2.2.2.2.2.2.1
 have HS14_:=zhs hb hHeld.2.2.2.2.2.2.2.2.2.2.2.2.2.2.1
 have HS15_:=zhs hb hHeld.2.2.2.2.2.2.2.2.2.2.2.2.2.2.2
 refine ⟨_,rfl,?_⟩
 have n0_:=Aside0.mk (Kd.N_below (zN HO_5.out) hb)
 have n1_:=Aside0.mk (Kd.N_below (zN HO_6.out) hb)
 have n2_:=Aside0.mk (Kd.N_below (zN HO_9.out) hb)
 have n3_:=Aside0.mk (Kd.V_below (zV HL434_0.out) hb)
 have n4_:=Aside0.mk (Kd.V_below (zV HL436_0.out) hb)
 have n5_:=Aside0.mk (Kd.V_below (zV HL438_0.out) hb)
 have n6_:=Aside0.mk (Kd.V_below (zV HL439_0.out) hb)
 have n7_:=Aside0.mk (Kd.V_below (zV HL440_0.out) hb)
 have n8_:=Aside0.mk (Kd.V_below (zV HL441_0.out) hb)
 have n9_:=Aside0.mk (Kd.R_below (by (with_reducible repeat (first|apply Kd.R_alloc|apply Kd.R_drewN|apply Kd.R_drew));exact HO448.out) hb)
 have n10_:=Aside0.mk (Kd.C_below (zC HR434_0.out) hb)
 have n11_:=Aside0.mk (Kd.C_below (zC HR436_0.out) hb)
 have n12_:=Aside0.mk (Kd.C_below (zC HR438_0.out) hb)
 have n13_:=Aside0.mk (Kd.C_below (zC HR439_0.out) hb)
 have n14_:=Aside0.mk (Kd.C_below (zC HR440_0.out) hb)
 have n15_:=Aside0.mk (Kd.C_below (zC HR441_0.out) hb)
 have n16_:=Aside0.mk (below_step zhb hb)
 clear HO_5
 clear HO_6
 clear HO_9
 clear HL434_0
 clear HL436_0
 clear HL438_0
 clear HL439_0
 clear HL440_0
 clear HL441_0
 clear HO448
 clear HR434_0
 clear HR436_0
 clear HR438_0
 clear HR439_0
 clear HR440_0
 clear HR441_0
 clear HB
 have HO_5:=n0_
 have HO_6:=n1_
 have HO_9:=n2_
 have HL434_0:=n3_
 have HL436_0:=n4_
 have HL438_0:=n5_
 have HL439_0:=n6_
 have HL440_0:=n7_
 have HL441_0:=n8_
 have HO448:=n9_
 have HR434_0:=n10_
 have HR436_0:=n11_
 have HR438_0:=n12_
 have HR439_0:=n13_
 have HR440_0:=n14_
 have HR441_0:=n15_
 have HB:=n16_
 clear n0_ n1_ n2_ n3_ n4_ n5_ n6_ n7_ n8_ n9_ n10_ n11_ n12_ n13_ n14_ n15_ n16_
 (try clear hb)
 (try clear hb2)
 (try clear hk)
 (try clear hi)
 refine hK.out _ _ ⟨HS0_,HS1_,HS2_,HS3_,HS4_,HS5_,HS6_,HS7_,HS8_,HS9_,HS10_,HS11_,HS12_,HS13_,HS14_,HS15_⟩ (fun hHeld=>?_)
 clear hK K
 refine norm_ (a':=?_) ?_ ?_
 rotate_left
 ·show Act.put _ (some 155) _=_
  simp only [Act.put,zp1,zp2,zp3,i64_w,i32_w]
  rfl
 refine zpu 52 156 59 9007199254740991 ?_
 refine zpu 53 157 59 18014398509481983 ?_
 refine zpu 54 158 59 36028797018963967 ?_
 refine zqu 55 159 59 72057594037927935 ?_
 refine zqu 56 160 59 144115188075855871 ?_
 refine zqu 57 161 59 288230376151711743 ?_
 refine zpu 58 162 59 576460752303423487 ?_
 refine done_ (done_of HT_.out (by kernel_rfl)) ?_
 try go_wp2
 go_roundg k2
 case measure=>have:=HK1.out;have:=HK2.out;omega
 case rel=>exact ⟨(wrap64 (x13_2 + 1)),(wrap64 (x15_2 + 1)),(by first|rfl|(rw [HR_.out];first|done|rfl)|(simp;done)|(simp [*];done)),(by first|rfl|(rw [HR_.out];first|done|rfl)|(simp;done)|(simp [*];done)),H',⟨by have:=HK1.out;have:=HK2.out;omega⟩,⟨by (with_reducible repeat (first|apply Kd.N_alloc|apply Kd.N_drewN|apply Kd.N_drew));exact Kd.N_mono HO_5.out (fun _ hk=>⟨hk.1.1,hk.1.2⟩)⟩,⟨by (with_reducible repeat (first|apply Kd.N_alloc|apply Kd.N_drewN|apply Kd.N_drew));exact Kd.N_mono HO_6.out (fun _ hk=>⟨hk.1.1,hk.1.2⟩)⟩,⟨by (with_reducible repeat (first|apply Kd.N_alloc|apply Kd.N_drewN|apply Kd.N_drew));exact Kd.N_mono HO_9.out (fun _ hk=>⟨hk.1.1,hk.1.2⟩)⟩,⟨zhb⟩⟩

set_option maxHeartbeats 8000000 in
set_option maxRecDepth 100000 in
theorem laws_FnJoin.way5 : laws_FnJoin.cut.2.2.2.2.2.1 := by
 intro k A0 c0 l0 A1 c1 l1 r w HT0 HR_ HR0 HC0 HR1 HC1 t417 t420 t423 t424 A5 t425 t429 t432 A7 A9 A6 iz1 w12 Ao13 co13 Ao14 co14 w15 w16 Ao17 co17 Ao18 co18 w19 HO419 HO422 HO428 HO431 iz2 iz3 iz4 iz5 iz6 u15 u73 u74 u75 u76 u77 u78 iz7 iz8 iz9 iz10 iz11 iz12 iz13 iz14 iz15 iz16 iz17 iz18 iz19 iz20 iz21 iz22 iz23 iz24 iz25 iz26 iz27 iz28 iz29 iz30 iz31 iz32 iz33 iz34 iz35 iz36 iz37 iz38 iz39 iz40 iz41 iz42 iz43 iz44 iz45 iz46 iz47 iz48 iz49 iz50 iz51 iz52 iz53 iz54 iz55 iz56 iz57 iz58 iz59 iz60 iz61 iz62 iz63 iz64 iz65 iz66 iz67 iz68 iz69 iz70 iz71 iz72 iz73 iz74 iz75 iz76 iz77 iz78 iz79 iz80 iz81 iz82 iz83 iz84 iz85 iz86 iz87 iz88 iz89 iz90 iz91 iz92 iz93 x13_1 x14_1 iz94 iz95 iz96 iz97 k1 iz98 HK1 iz99 iz100 wr u4 u79 u80 u81 u82 u83 u84 u85 u86 u87 u88 u89 u90 u91 u92 u93 u94 u95 u96 u97 u98 u99 u100 u101 u102 u103 u104 u105 u106 u107 u108 u109 u110 u111 u112 u113 u114 u115 u116 u117 u118 u119 u120 u121 u122 u123 u124 u125 u126 u127 u128 u129 u130 u131 u132 u133 u134 u135 u136 u137 u138 u139 u140 u141 u142 u143 u144 u145 u146 u147 u148 u149 u150 u151 u152 u153 u154 u155 u156 u157 u158 u159 u160 u161 u162 iz101 iz102 iz103 x13_2 x15_2 HO_5 HO_6 HO_9 HB k2 iz104 HK2 c21b0 c22b0 c23b0 c24b0 c25b0 c26b0 c27b0 c28b0 c29b0 c29b1 c30b0 c30b1 c31b0 c31b1 c31b2 c32b0 c32b1 c33b0 c33b1 c33b2 c34 c34b0 c34b1 t446 A37 t449 A38 c39b0 c39b1 c40b0 c40b1 H'
 try go_wp2
 have n0_:=Aside0.mk (Kd.N_drew HO_5.out)
 have n1_:=Aside0.mk (Kd.N_drew HO_6.out)
 have n2_:=Aside0.mk (Kd.N_drew HO_9.out)
 have n3_:=Aside0.mk (below_drew1 HB.out)
 clear HO_5
 clear HO_6
 clear HO_9
 clear HB
 have HO_5:=n0_
 have HO_6:=n1_
 have HO_9:=n2_
 have HB:=n3_
 clear n0_ n1_ n2_ n3_
 have p434:0≤(x14_1:Int):=zod
 have q434:x14_1 < (t417.length:Int):=zod
 obtain ⟨ad434,A434_0,c434_0,e434,hx434_0,hx434_1,hl434_0,hi434_0⟩:=at_T31 (Kd.N_reads' HO_5.out).2.2 x14_1 p434 q434
 cases e434
 obtain ⟨ce434,hce434,hMe434,hcc434⟩:=Kd.N_get HO_5.out z31 x14_1 p434 (by first|exact q434|exact zod|(have e_:=(Kd.N_reads' HO_5.out).1;omega))
 obtain ⟨ua434_0,uc434_0,rfl,ul434_0,ge434_0⟩:=k31_openF hMe434
 have hv434_0:=hcc434 0 _ rfl
 rw [Nat.add_zero] at hv434_0
 replace hv434_0:=Option.some.inj (hv434_0.symm.trans hx434_0)
 injection hv434_0 with hva_ hvn_ hvc_
 rw [hva_] at ge434_0
 rw [hvc_] at ul434_0
 have HL434_0:=Aside0.mk (show Kd.V (Kd.int .i64) 3 _ w.heap.size _ _ ((rd_T31 t417 x14_1).f0) from Kd.V_mk ul434_0 ge434_0)
 clear hva_ hvn_ hvc_ ge434_0 ul434_0
 clear hcc434 hce434
 have HR434_0:=Aside0.mk hi434_0
 have HC434_0:=Aside0.mk hl434_0
 clear hi434_0 hl434_0
 replace p434:=eq_true p434
 replace q434:=eq_true q434
 have p435:0≤(t423:Int):=zod
 have q435:t423 < (((rd_T31 t417 x14_1).f0).length:Int):=zod
 obtain ⟨ad435,e435,hx435_0⟩:=Kd.at_int (zC HR434_0.out) t423 p435 q435
 cases e435
 replace p435:=eq_true p435
 replace q435:=eq_true q435
 have p436:0≤(x15_2:Int):=zod
 have q436:x15_2 < (t420.length:Int):=zod
 obtain ⟨ad436,A436_0,c436_0,e436,hx436_0,hx436_1,hl436_0,hi436_0⟩:=at_T31 (Kd.N_reads' HO_6.out).2.2 x15_2 p436 q436
 cases e436
 obtain ⟨ce436,hce436,hMe436,hcc436⟩:=Kd.N_get HO_6.out z31 x15_2 p436 (by first|exact q436|exact zod|(have e_:=(Kd.N_reads' HO_6.out).1;omega))
 obtain ⟨ua436_0,uc436_0,rfl,ul436_0,ge436_0⟩:=k31_openF hMe436
 have hv436_0:=hcc436 0 _ rfl
 rw [Nat.add_zero] at hv436_0
 replace hv436_0:=Option.some.inj (hv436_0.symm.trans hx436_0)
 injection hv436_0 with hva_ hvn_ hvc_
 rw [hva_] at ge436_0
 rw [hvc_] at ul436_0
 have HL436_0:=Aside0.mk (show Kd.V (Kd.int .i64) 3 _ w.heap.size _ _ ((rd_T31 t420 x15_2).f0) from Kd.V_mk ul436_0 ge436_0)
 clear hva_ hvn_ hvc_ ge436_0 ul436_0
 clear hcc436 hce436
 have HR436_0:=Aside0.mk hi436_0
 have HC436_0:=Aside0.mk hl436_0
 clear hi436_0 hl436_0
 replace p436:=eq_true p436
 replace q436:=eq_true q436
 have p437:0≤(t424:Int):=zod
 have q437:t424 < (((rd_T31 t420 x15_2).f0).length:Int):=zod
 obtain ⟨ad437,e437,hx437_0⟩:=Kd.at_int (zC HR436_0.out) t424 p437 q437
 cases e437
 replace p437:=eq_true p437
 replace q437:=eq_true q437
 refine start_ (n:=17) (S:=fun w'=>w'.cell? (ad434.add ((x14_1).toNat * 2))=some (.slice (some ad435) ((rd_T31 t417 x14_1).f0).length c434_0)∧w'.cell? ⟨(ad434.add ((x14_1).toNat * 2)).block,(ad434.add ((x14_1).toNat * 2)).off + 1,none⟩=some (.int .i64 ((rd_T31 t417 x14_1).f1))∧w'.cell? (ad435.add (t423).toNat)=some (.int .i64 (rd ((rd_T31 t417 x14_1).f0) t423))∧w'.cell? (ad436.add ((x15_2).toNat * 2))=some (.slice (some ad437) ((rd_T31 t420 x15_2).f0).length c436_0)∧w'.cell? ⟨(ad436.add ((x15_2).toNat * 2)).block,(ad436.add ((x15_2).toNat * 2)).off + 1,none⟩=some (.int .i64 ((rd_T31 t420 x15_2).f1))∧w'.cell? (ad437.add (t424).toNat)=some (.int .i64 (rd ((rd_T31 t420 x15_2).f0) t424))) (ds:=[]) (zm 17 0) (by kernel_rfl) rfl rfl ⟨hx434_0,hx434_1,hx435_0,hx436_0,hx436_1,hx437_0⟩ (fun hHeld=>?_);refine with_tabW laws_FnJoin.tab17 laws_FnJoin.bits17 (fun HT_ HW_=>?_)
 generalize wr.drew=w41 at HO_5 HO_6 HO_9 HB HL434_0 HL436_0 HR434_0 HR436_0 hx434_0 hx434_1 hx435_0 hx436_0 hx436_1 hx437_0 hHeld ⊢
 refine zpu 0 85 17 1 ?_
 refine zpu 1 86 17 3 ?_
 refine zpu 2 87 17 7 ?_
 refine zpu 3 88 17 15 ?_
 refine zpu 5 90 17 47 ?_
 refine zpu 8 93 17 303 ?_
 refine zpu 9 94 17 815 ?_
 refine zpu 10 95 17 1839 ?_
 refine zpu 11 96 17 3887 ?_
 refine zpu 13 98 17 12079 ?_
 refine zta 4 89 17 12095 ?_
 refine zpu 6 91 17 12159 ?_
 refine zta 7 92 17 12287 ?_
 refine zta 12 97 17 16383 ?_
 refine zpu 14 99 17 32767 ?_
 refine zta 15 100 17 65535 ?_
 refine zpu 16 101 17 131071 ?_
 refine done_ (done_of HT_.out (by kernel_rfl)) ?_
 try go_wp2
 have n0_:=Aside0.mk (Kd.N_drew HO_5.out)
 have n1_:=Aside0.mk (Kd.N_drew HO_6.out)
 have n2_:=Aside0.mk (Kd.N_drew HO_9.out)
 have n3_:=Aside0.mk (Kd.V_drew HL434_0.out)
 have n4_:=Aside0.mk (Kd.V_drew HL436_0.out)
 have n5_:=Aside0.mk (Kd.C_drew HR434_0.out)
 have n6_:=Aside0.mk (Kd.C_drew HR436_0.out)
 have n7_:=Aside0.mk (below_drew1 HB.out)
 clear HO_5
 clear HO_6
 clear HO_9
 clear HL434_0
 clear HL436_0
 clear HR434_0
 clear HR436_0
 clear HB
 have HO_5:=n0_
 have HO_6:=n1_
 have HO_9:=n2_
 have HL434_0:=n3_
 have HL436_0:=n4_
 have HR434_0:=n5_
 have HR436_0:=n6_
 have HB:=n7_
 clear n0_ n1_ n2_ n3_ n4_ n5_ n6_ n7_
 have p438:0≤(x14_1:Int):=zod
 have q438:x14_1 < (t417.length:Int):=zod
 obtain ⟨ad438,A438_0,c438_0,e438,hx438_0,hx438_1,hl438_0,hi438_0⟩:=at_T31 (Kd.N_reads' HO_5.out).2.2 x14_1 p438 q438
 obtain rfl:ad434=ad438:=(by injection e438)
 obtain ⟨ce438,hce438,hMe438,hcc438⟩:=Kd.N_get HO_5.out z31 x14_1 p438 (by first|exact q438|exact zod|(have e_:=(Kd.N_reads' HO_5.out).1;omega))
 obtain ⟨ua438_0,uc438_0,rfl,ul438_0,ge438_0⟩:=k31_openF hMe438
 have hv438_0:=hcc438 0 _ rfl
 rw [Nat.add_zero] at hv438_0
 replace hv438_0:=Option.some.inj (hv438_0.symm.trans hx438_0)
 injection hv438_0 with hva_ hvn_ hvc_
 rw [hva_] at ge438_0
 rw [hvc_] at ul438_0
 have HL438_0:=Aside0.mk (show Kd.V (Kd.int .i64) 3 _ w.heap.size _ _ ((rd_T31 t417 x14_1).f0) from Kd.V_mk ul438_0 ge438_0)
 clear hva_ hvn_ hvc_ ge438_0 ul438_0
 clear hcc438 hce438
 have HR438_0:=Aside0.mk hi438_0
 have HC438_0:=Aside0.mk hl438_0
 clear hi438_0 hl438_0
 replace p438:=eq_true p438
 replace q438:=eq_true q438
 have p439:0≤(0:Int):=(by omega)
 have q439:0 < (t417.length:Int):=zod
 obtain ⟨ad439,A439_0,c439_0,e439,hx439_0,hx439_1,hl439_0,hi439_0⟩:=at_T31 (Kd.N_reads' HO_5.out).2.2 0 p439 q439
 obtain rfl:ad434=ad439:=(by injection e439)
 obtain ⟨ce439,hce439,hMe439,hcc439⟩:=Kd.N_get HO_5.out z31 0 p439 (by first|exact q439|exact zod|(have e_:=(Kd.N_reads' HO_5.out).1;omega))
 obtain ⟨ua439_0,uc439_0,rfl,ul439_0,ge439_0⟩:=k31_openF hMe439
 have hv439_0:=hcc439 0 _ rfl
 rw [Nat.add_zero] at hv439_0
 replace hv439_0:=Option.some.inj (hv439_0.symm.trans hx439_0)
 injection hv439_0 with hva_ hvn_ hvc_
 rw [hva_] at ge439_0
 rw [hvc_] at ul439_0
 have HL439_0:=Aside0.mk (show Kd.V (Kd.int .i64) 3 _ w.heap.size _ _ ((rd_T31 t417 0).f0) from Kd.V_mk ul439_0 ge439_0)
 clear hva_ hvn_ hvc_ ge439_0 ul439_0
 clear hcc439 hce439
 have qi439:(0 < t417.length)=True:=eq_true (by omega)
 (try rw [show ((0:Int)).toNat=0 from rfl] at hx439_0)
 (try rw [show 0 * 2=0 from rfl] at hx439_0)
 (try rw [Addr.add_zero'] at hx439_0)
 (try rw [show ((0:Int)).toNat=0 from rfl] at hx439_1)
 (try rw [show 0 * 2=0 from rfl] at hx439_1)
 (try rw [Addr.add_zero'] at hx439_1)
 have HR439_0:=Aside0.mk hi439_0
 have HC439_0:=Aside0.mk hl439_0
 clear hi439_0 hl439_0
 replace p439:=eq_true p439
 replace q439:=eq_true q439
 have p440:0≤(x15_2:Int):=zod
 have q440:x15_2 < (t420.length:Int):=zod
 obtain ⟨ad440,A440_0,c440_0,e440,hx440_0,hx440_1,hl440_0,hi440_0⟩:=at_T31 (Kd.N_reads' HO_6.out).2.2 x15_2 p440 q440
 obtain rfl:ad436=ad440:=(by injection e440)
 obtain ⟨ce440,hce440,hMe440,hcc440⟩:=Kd.N_get HO_6.out z31 x15_2 p440 (by first|exact q440|exact zod|(have e_:=(Kd.N_reads' HO_6.out).1;omega))
 obtain ⟨ua440_0,uc440_0,rfl,ul440_0,ge440_0⟩:=k31_openF hMe440
 have hv440_0:=hcc440 0 _ rfl
 rw [Nat.add_zero] at hv440_0
 replace hv440_0:=Option.some.inj (hv440_0.symm.trans hx440_0)
 injection hv440_0 with hva_ hvn_ hvc_
 rw [hva_] at ge440_0
 rw [hvc_] at ul440_0
 have HL440_0:=Aside0.mk (show Kd.V (Kd.int .i64) 3 _ w.heap.size _ _ ((rd_T31 t420 x15_2).f0) from Kd.V_mk ul440_0 ge440_0)
 clear hva_ hvn_ hvc_ ge440_0 ul440_0
 clear hcc440 hce440
 have HR440_0:=Aside0.mk hi440_0
 have HC440_0:=Aside0.mk hl440_0
 clear hi440_0 hl440_0
 replace p440:=eq_true p440
 replace q440:=eq_true q440
 have p441:0≤(0:Int):=(by omega)
 have q441:0 < (t420.length:Int):=zod
 obtain ⟨ad441,A441_0,c441_0,e441,hx441_0,hx441_1,hl441_0,hi441_0⟩:=at_T31 (Kd.N_reads' HO_6.out).2.2 0 p441 q441
 obtain rfl:ad436=ad441:=(by injection e441)
 obtain ⟨ce441,hce441,hMe441,hcc441⟩:=Kd.N_get HO_6.out z31 0 p441 (by first|exact q441|exact zod|(have e_:=(Kd.N_reads' HO_6.out).1;omega))
 obtain ⟨ua441_0,uc441_0,rfl,ul441_0,ge441_0⟩:=k31_openF hMe441
 have hv441_0:=hcc441 0 _ rfl
 rw [Nat.add_zero] at hv441_0
 replace hv441_0:=Option.some.inj (hv441_0.symm.trans hx441_0)
 injection hv441_0 with hva_ hvn_ hvc_
 rw [hva_] at ge441_0
 rw [hvc_] at ul441_0
 have HL441_0:=Aside0.mk (show Kd.V (Kd.int .i64) 3 _ w.heap.size _ _ ((rd_T31 t420 0).f0) from Kd.V_mk ul441_0 ge441_0)
 clear hva_ hvn_ hvc_ ge441_0 ul441_0
 clear hcc441 hce441
 have qi441:(0 < t420.length)=True:=eq_true (by omega)
 (try rw [show ((0:Int)).toNat=0 from rfl] at hx441_0)
 (try rw [show 0 * 2=0 from rfl] at hx441_0)
 (try rw [Addr.add_zero'] at hx441_0)
 (try rw [show ((0:Int)).toNat=0 from rfl] at hx441_1)
 (try rw [show 0 * 2=0 from rfl] at hx441_1)
 (try rw [Addr.add_zero'] at hx441_1)
 have HR441_0:=Aside0.mk hi441_0
 have HC441_0:=Aside0.mk hl441_0
 clear hi441_0 hl441_0
 replace p441:=eq_true p441
 replace q441:=eq_true q441
 have p442:0≤(0:Int):=(by omega)
 have q442:0 < (t417.length:Int):=zod
 obtain ⟨ad442,A442_0,c442_0,e442,hx442_0,hx442_1,hl442_0,hi442_0⟩:=at_T31 (Kd.N_reads' HO_5.out).2.2 0 p442 q442
 obtain rfl:ad434=ad442:=(by injection e442)
 obtain ⟨ce442,hce442,hMe442,hcc442⟩:=Kd.N_get HO_5.out z31 0 p442 (by first|exact q442|exact zod|(have e_:=(Kd.N_reads' HO_5.out).1;omega))
 obtain ⟨ua442_0,uc442_0,rfl,ul442_0,ge442_0⟩:=k31_openF hMe442
 have hv442_0:=hcc442 0 _ rfl
 rw [Nat.add_zero] at hv442_0
 replace hv442_0:=Option.some.inj (hv442_0.symm.trans hx442_0)
 injection hv442_0 with hva_ hvn_ hvc_
 rw [hva_] at ge442_0
 rw [hvc_] at ul442_0
 have HL442_0:=Aside0.mk (show Kd.V (Kd.int .i64) 3 _ w.heap.size _ _ ((rd_T31 t417 0).f0) from Kd.V_mk ul442_0 ge442_0)
 clear hva_ hvn_ hvc_ ge442_0 ul442_0
 clear hcc442 hce442
 have qi442:(0 < t417.length)=True:=eq_true (by omega)
 (try rw [show ((0:Int)).toNat=0 from rfl] at hx442_0)
 (try rw [show 0 * 2=0 from rfl] at hx442_0)
 (try rw [Addr.add_zero'] at hx442_0)
 (try rw [show ((0:Int)).toNat=0 from rfl] at hx442_1)
 (try rw [show 0 * 2=0 from rfl] at hx442_1)
 (try rw [Addr.add_zero'] at hx442_1)
 have HR442_0:=Aside0.mk hi442_0
 have HC442_0:=Aside0.mk hl442_0
 clear hi442_0 hl442_0
 replace p442:=eq_true p442
 replace q442:=eq_true q442
 have ea_:=Option.some.inj (hx439_0.symm.trans hx442_0)
 injection ea_ with ea_ en_ ec_
 subst ea_
 subst ec_
 clear en_
 have p443:0≤(0:Int):=(by omega)
 have q443:0 < (t420.length:Int):=zod
 obtain ⟨ad443,A443_0,c443_0,e443,hx443_0,hx443_1,hl443_0,hi443_0⟩:=at_T31 (Kd.N_reads' HO_6.out).2.2 0 p443 q443
 obtain rfl:ad436=ad443:=(by injection e443)
 obtain ⟨ce443,hce443,hMe443,hcc443⟩:=Kd.N_get HO_6.out z31 0 p443 (by first|exact q443|exact zod|(have e_:=(Kd.N_reads' HO_6.out).1;omega))
 obtain ⟨ua443_0,uc443_0,rfl,ul443_0,ge443_0⟩:=k31_openF hMe443
 have hv443_0:=hcc443 0 _ rfl
 rw [Nat.add_zero] at hv443_0
 replace hv443_0:=Option.some.inj (hv443_0.symm.trans hx443_0)
 injection hv443_0 with hva_ hvn_ hvc_
 rw [hva_] at ge443_0
 rw [hvc_] at ul443_0
 have HL443_0:=Aside0.mk (show Kd.V (Kd.int .i64) 3 _ w.heap.size _ _ ((rd_T31 t420 0).f0) from Kd.V_mk ul443_0 ge443_0)
 clear hva_ hvn_ hvc_ ge443_0 ul443_0
 clear hcc443 hce443
 have qi443:(0 < t420.length)=True:=eq_true (by omega)
 (try rw [show ((0:Int)).toNat=0 from rfl] at hx443_0)
 (try rw [show 0 * 2=0 from rfl] at hx443_0)
 (try rw [Addr.add_zero'] at hx443_0)
 (try rw [show ((0:Int)).toNat=0 from rfl] at hx443_1)
 (try rw [show 0 * 2=0 from rfl] at hx443_1)
 (try rw [Addr.add_zero'] at hx443_1)
 have HR443_0:=Aside0.mk hi443_0
 have HC443_0:=Aside0.mk hl443_0
 clear hi443_0 hl443_0
 replace p443:=eq_true p443
 replace q443:=eq_true q443
 have ea_:=Option.some.inj (hx441_0.symm.trans hx443_0)
 injection ea_ with ea_ en_ ec_
 subst ea_
 subst ec_
 clear en_
 have p444:0≤(x14_1:Int):=zod
 have q444:x14_1 < (t417.length:Int):=zod
 obtain ⟨ad444,A444_0,c444_0,e444,hx444_0,hx444_1,hl444_0,hi444_0⟩:=at_T31 (Kd.N_reads' HO_5.out).2.2 x14_1 p444 q444
 obtain rfl:ad434=ad444:=(by injection e444)
 obtain ⟨ce444,hce444,hMe444,hcc444⟩:=Kd.N_get HO_5.out z31 x14_1 p444 (by first|exact q444|exact zod|(have e_:=(Kd.N_reads' HO_5.out).1;omega))
 obtain ⟨ua444_0,uc444_0,rfl,ul444_0,ge444_0⟩:=k31_openF hMe444
 have hv444_0:=hcc444 0 _ rfl
 rw [Nat.add_zero] at hv444_0
 replace hv444_0:=Option.some.inj (hv444_0.symm.trans hx444_0)
 injection hv444_0 with hva_ hvn_ hvc_
 rw [hva_] at ge444_0
 rw [hvc_] at ul444_0
 have HL444_0:=Aside0.mk (show Kd.V (Kd.int .i64) 3 _ w.heap.size _ _ ((rd_T31 t417 x14_1).f0) from Kd.V_mk ul444_0 ge444_0)
 clear hva_ hvn_ hvc_ ge444_0 ul444_0
 clear hcc444 hce444
 have HR444_0:=Aside0.mk hi444_0
 have HC444_0:=Aside0.mk hl444_0
 clear hi444_0 hl444_0
 replace p444:=eq_true p444
 replace q444:=eq_true q444
 have ea_:=Option.some.inj (hx438_0.symm.trans hx444_0)
 injection ea_ with ea_ en_ ec_
 subst ea_
 subst ec_
 clear en_
 have p445:0≤(x15_2:Int):=zod
 have q445:x15_2 < (t420.length:Int):=zod
 obtain ⟨ad445,A445_0,c445_0,e445,hx445_0,hx445_1,hl445_0,hi445_0⟩:=at_T31 (Kd.N_reads' HO_6.out).2.2 x15_2 p445 q445
 obtain rfl:ad436=ad445:=(by injection e445)
 obtain ⟨ce445,hce445,hMe445,hcc445⟩:=Kd.N_get HO_6.out z31 x15_2 p445 (by first|exact q445|exact zod|(have e_:=(Kd.N_reads' HO_6.out).1;omega))
 obtain ⟨ua445_0,uc445_0,rfl,ul445_0,ge445_0⟩:=k31_openF hMe445
 have hv445_0:=hcc445 0 _ rfl
 rw [Nat.add_zero] at hv445_0
 replace hv445_0:=Option.some.inj (hv445_0.symm.trans hx445_0)
 injection hv445_0 with hva_ hvn_ hvc_
 rw [hva_] at ge445_0
 rw [hvc_] at ul445_0
 have HL445_0:=Aside0.mk (show Kd.V (Kd.int .i64) 3 _ w.heap.size _ _ ((rd_T31 t420 x15_2).f0) from Kd.V_mk ul445_0 ge445_0)
 clear hva_ hvn_ hvc_ ge445_0 ul445_0
 clear hcc445 hce445
 have HR445_0:=Aside0.mk hi445_0
 have HC445_0:=Aside0.mk hl445_0
 clear hi445_0 hl445_0
 replace p445:=eq_true p445
 replace q445:=eq_true q445
 have ea_:=Option.some.inj (hx440_0.symm.trans hx445_0)
 injection ea_ with ea_ en_ ec_
 subst ea_
 subst ec_
 clear en_
 refine start_ (n:=59) (S:=fun w'=>w'.cell? (ad434.add ((x14_1).toNat * 2))=some (.slice A438_0 ((rd_T31 t417 x14_1).f0).length c438_0)∧w'.cell? ⟨(ad434.add ((x14_1).toNat * 2)).block,(ad434.add ((x14_1).toNat * 2)).off + 1,none⟩=some (.int .i64 ((rd_T31 t417 x14_1).f1))∧w'.cell? ad434=some (.slice A439_0 ((rd_T31 t417 0).f0).length c439_0)∧w'.cell? ⟨ad434.block,ad434.off + 1,none⟩=some (.int .i64 ((rd_T31 t417 0).f1))∧w'.cell? (ad436.add ((x15_2).toNat * 2))=some (.slice A440_0 ((rd_T31 t420 x15_2).f0).length c440_0)∧w'.cell? ⟨(ad436.add ((x15_2).toNat * 2)).block,(ad436.add ((x15_2).toNat * 2)).off + 1,none⟩=some (.int .i64 ((rd_T31 t420 x15_2).f1))∧w'.cell? ad436=some (.slice A441_0 ((rd_T31 t420 0).f0).length c441_0)∧w'.cell? ⟨ad436.block,ad436.off + 1,none⟩=some (.int .i64 ((rd_T31 t420 0).f1))∧w'.cell? ad434=some (.slice A439_0 ((rd_T31 t417 0).f0).length c439_0)∧w'.cell? ⟨ad434.block,ad434.off + 1,none⟩=some (.int .i64 ((rd_T31 t417 0).f1))∧w'.cell? ad436=some (.slice A441_0 ((rd_T31 t420 0).f0).length c441_0)∧w'.cell? ⟨ad436.block,ad436.off + 1,none⟩=some (.int .i64 ((rd_T31 t420 0).f1))∧w'.cell? (ad434.add ((x14_1).toNat * 2))=some (.slice A438_0 ((rd_T31 t417 x14_1).f0).length c438_0)∧w'.cell? ⟨(ad434.add ((x14_1).toNat * 2)).block,(ad434.add ((x14_1).toNat * 2)).off + 1,none⟩=some (.int .i64 ((rd_T31 t417 x14_1).f1))∧w'.cell? (ad436.add ((x15_2).toNat * 2))=some (.slice A440_0 ((rd_T31 t420 x15_2).f0).length c440_0)∧w'.cell? ⟨(ad436.add ((x15_2).toNat * 2)).block,(ad436.add ((x15_2).toNat * 2)).off + 1,none⟩=some (.int .i64 ((rd_T31 t420 x15_2).f1))) (ds:=[]) (zm 59 0) (by kernel_rfl) rfl rfl ⟨hx438_0,hx438_1,hx439_0,hx439_1,hx440_0,hx440_1,hx441_0,hx441_1,hx442_0,hx442_1,hx443_0,hx443_1,hx444_0,hx444_1,hx445_0,hx445_1⟩ (fun hHeld=>?_);refine with_tabW laws_FnJoin.tab19 laws_FnJoin.bits19 (fun HT_ HW_=>?_)
 generalize w41.drew=w42 at HO_5 HO_6 HO_9 HL434_0 HL436_0 HR434_0 HR436_0 HB HL438_0 HL439_0 HL440_0 HL441_0 HL442_0 HL443_0 HL444_0 HL445_0 HR438_0 HR439_0 HR440_0 HR441_0 HR442_0 HR443_0 HR444_0 HR445_0 hx438_0 hx438_1 hx439_0 hx439_1 hx440_0 hx440_1 hx441_0 hx441_1 hx442_0 hx442_1 hx443_0 hx443_1 hx444_0 hx444_1 hx445_0 hx445_1 hHeld ⊢
 refine zpu 0 104 59 1 ?_
 refine zpu 1 105 59 3 ?_
 refine zpu 2 106 59 7 ?_
 refine zpu 3 107 59 15 ?_
 refine zpu 6 110 59 79 ?_
 refine zpu 7 111 59 207 ?_
 refine zpu 8 112 59 463 ?_
 refine zta 4 108 59 479 ?_
 refine zpu 5 109 59 511 ?_
 refine zta 9 113 59 1023 ?_
 refine zpu 10 114 59 2047 ?_
 refine zpu 11 115 59 4095 ?_
 refine zpu 12 116 59 8191 ?_
 refine zpu 13 117 59 16383 ?_
 refine zpu 14 118 59 32767 ?_
 refine zpu 15 119 59 65535 ?_
 refine zpu 16 120 59 131071 ?_
 refine zpu 19 123 59 655359 ?_
 refine zpu 20 124 59 1703935 ?_
 refine zpu 21 125 59 3801087 ?_
 refine zta 17 121 59 3932159 ?_
 refine zpu 18 122 59 4194303 ?_
 refine zta 22 126 59 8388607 ?_
 refine zpu 23 127 59 16777215 ?_
 refine zpu 24 128 59 33554431 ?_
 refine zpu 25 129 59 67108863 ?_
 refine zpu 26 130 59 134217727 ?_
 refine zpu 27 131 59 268435455 ?_
 refine zpu 28 132 59 536870911 ?_
 refine zpu 29 133 59 1073741823 ?_
 refine zpu 31 135 59 3221225471 ?_
 refine zpu 32 136 59 7516192767 ?_
 refine zpu 33 137 59 16106127359 ?_
 refine zta 30 134 59 17179869183 ?_
 refine zta 34 138 59 34359738367 ?_
 refine zpu 35 139 59 68719476735 ?_
 refine zpu 36 140 59 137438953471 ?_
 refine zpu 37 141 59 274877906943 ?_
 refine zpu 38 142 59 549755813887 ?_
 refine zpu 39 143 59 1099511627775 ?_
 refine zpu 40 144 59 2199023255551 ?_
 refine zpu 41 145 59 4398046511103 ?_
 refine zpu 42 146 59 8796093022207 ?_
 refine zpu 43 147 59 17592186044415 ?_
 refine zpu 45 149 59 52776558133247 ?_
 refine zpu 46 150 59 123145302310911 ?_
 refine zpu 47 151 59 263882790666239 ?_
 refine zpu 48 152 59 545357767376895 ?_
 refine zta 44 148 59 562949953421311 ?_
 refine zta 49 153 59 1125899906842623 ?_
 refine one_ (i:=50) (N:=some 154) (zm 59 2251799813685247) rfl rfl (one_of HT_.out (by kernel_rfl)) (by decide) (fun K hK=>?_)
 refine goes_ Tryd.func18 (by kernel_rfl) rfl #[.slice A438_0 ((rd_T31 t417 x14_1).f0).length c438_0,.slice A440_0 ((rd_T31 t420 x15_2).f0).length c440_0] (by rfl) rfl rfl zar ?_
 with_reducible refine (impl_RowJoin.calls k2 (fun k_=>((some k_≠(.slice (some ad436) t420.length co14:Value).ownBlock∧some k_≠(.slice Ao17 t425.length co17:Value).ownBlock)∧some k_≠(.slice (some ad434) t417.length co13:Value).ownBlock)) _ _ ((rd_T31 t417 x14_1).f0) (fun k_=>((some k_≠(.slice (some ad434) t417.length co13:Value).ownBlock∧some k_≠(.slice Ao17 t425.length co17:Value).ownBlock)∧some k_≠(.slice (some ad436) t420.length co14:Value).ownBlock)) _ _ ((rd_T31 t420 x15_2).f0) t446 _ ?side1 ?side2 A37.out).mono ?_
 (case side1=>exact HL438_0.out)
 (case side2=>exact HL440_0.out)
 rintro e w43 ⟨v447,rfl,ho0,hb⟩
 have HS0_:=zhs hb hHeld.1
 have HS1_:=zhs hb hHeld.2.1
 have HS2_:=zhs hb hHeld.2.2.1
 have HS3_:=zhs hb hHeld.2.2.2.1
 have HS4_:=zhs hb hHeld.2.2.2.2.1
 have HS5_:=zhs hb hHeld.2.2.2.2.2.1
 have HS6_:=zhs hb hHeld.2.2.2.2.2.2.1
 have HS7_:=zhs hb hHeld.2.2.2.2.2.2.2.1
 have HS8_:=zhs hb hHeld.2.2.2.2.2.2.2.2.1
 have HS9_:=zhs hb hHeld.2.2.2.2.2.2.2.2.2.1
 have HS10_:=zhs hb hHeld.2.2.2.2.2.2.2.2.2.2.1
 have HS11_:=zhs hb hHeld.2.2.2.2.2.2.2.2.2.2.2.1
 have HS12_:=zhs hb hHeld.2.2.2.2.2.2.2.2.2.2.2.2.1
 have HS13_:=zhs hb hHeld.2.2.2.2.2.2.2.2.2.2.2.2.2.1
 have HS14_:=zhs hb hHeld.2.2.2.2.2.2.2.2.2.2.2.2.2.2.1
 have HS15_:=zhs hb hHeld.2.2.2.2.2.2.2.2.2.2.2.2.2.2.2
 refine ⟨_,rfl,?_⟩
 have n0_:=Aside0.mk (Kd.N_elder' (zN HO_5.out) (Kd.R_base ho0) hb)
 have n1_:=Aside0.mk (Kd.N_elder' (zN HO_6.out) (Kd.R_base ho0) hb)
 have n2_:=Aside0.mk (Kd.N_elder' (zN HO_9.out) (Kd.R_base ho0) hb)
 have n3_:=Aside0.mk (Kd.V_elder' (zV HL434_0.out) (Kd.R_base ho0) hb)
 have n4_:=Aside0.mk (Kd.V_elder' (zV HL436_0.out) (Kd.R_base ho0) hb)
 have n5_:=Aside0.mk (Kd.V_elder' (zV HL438_0.out) (Kd.R_base ho0) hb)
 have n6_:=Aside0.mk (Kd.V_elder' (zV HL439_0.out) (Kd.R_base ho0) hb)
 have n7_:=Aside0.mk (Kd.V_elder' (zV HL440_0.out) (Kd.R_base ho0) hb)
 have n8_:=Aside0.mk (Kd.V_elder' (zV HL441_0.out) (Kd.R_base ho0) hb)
 have n9_:=Aside0.mk (Kd.R_lower (Kd.R_mono (ok':=fun k_=>True) ho0 (fun _ hk_=>trivial)) (below_size zhb))
 have n10_:=Aside0.mk (Kd.C_below (zC HR434_0.out) hb)
 have n11_:=Aside0.mk (Kd.C_below (zC HR436_0.out) hb)
 have n12_:=Aside0.mk (Kd.C_below (zC HR438_0.out) hb)
 have n13_:=Aside0.mk (Kd.C_below (zC HR439_0.out) hb)
 have n14_:=Aside0.mk (Kd.C_below (zC HR440_0.out) hb)
 have n15_:=Aside0.mk (Kd.C_below (zC HR441_0.out) hb)
 have n16_:=Aside0.mk (below_step zhb hb)
 clear HO_5
 clear HO_6
 clear HO_9
 clear HL434_0
 clear HL436_0
 clear HL438_0
 clear HL439_0
 clear HL440_0
 clear HL441_0
 clear HR434_0
 clear HR436_0
 clear HR438_0
 clear HR439_0
 clear HR440_0
 clear HR441_0
 clear HB
 have HO_5:=n0_
 have HO_6:=n1_
 have HO_9:=n2_
 have HL434_0:=n3_
 have HL436_0:=n4_
 have HL438_0:=n5_
 have HL439_0:=n6_
 have HL440_0:=n7_
 have HL441_0:=n8_
 have HO448:=n9_
 have HR434_0:=n10_
 have HR436_0:=n11_
 have HR438_0:=n12_
 have HR439_0:=n13_
 have HR440_0:=n14_
 have HR441_0:=n15_
 have HB:=n16_
 clear n0_ n1_ n2_ n3_ n4_ n5_ n6_ n7_ n8_ n9_ n10_ n11_ n12_ n13_ n14_ n15_ n16_
 (try clear hb)
 (try clear hb2)
 (try clear hk)
 (try clear hi)
 (try clear ho0)
 obtain ⟨Ao44,co44,eo44⟩:=Kd.R_slice HO448.out
 (first|subst eo44|(injection eo44 with f1_ f2_ f3_;have f4_:=f1_.symm;have f5_:=f3_.symm;clear f1_ f2_ f3_;subst f4_;subst f5_))
 refine hK.out _ _ ⟨HS0_,HS1_,HS2_,HS3_,HS4_,HS5_,HS6_,HS7_,HS8_,HS9_,HS10_,HS11_,HS12_,HS13_,HS14_,HS15_⟩ (fun hHeld=>?_)
 clear hK K
 refine norm_ (a':=?_) ?_ ?_
 rotate_left
 ·show Act.put _ (some 154) _=_
  simp only [Act.put,zp1,zp2,zp3,i64_w,i32_w]
  rfl
 refine one_ (i:=51) (N:=some 155) (zm 59 4503599627370495) rfl rfl (one_of HT_.out (by kernel_rfl)) (by decide) (fun K hK=>?_)
 refine goes_ Tryd.func17 (by kernel_rfl) rfl #[.slice Ao17 t425.length co17,.slice Ao44 t446.length co44] (by rfl) rfl rfl zar ?_
 with_reducible refine (impl_ZGet.calls k2 _ _ t425 _ _ t446 t449 _ ?side1 ?side2 ?side3 ?side4 A38.out).mono ?_
 (case side1=>exact zC (Kd.N_reads' HO_9.out).2.2)
 (case side2=>exact (Kd.N_reads' HO_9.out).2.1)
 (case side3=>repeat (first|exact (Kd.R_reads' HO448.out).2.2|(with_reducible refine Kd.C_alloc ?_ _)|(with_reducible refine Kd.C_drewN ?_ _)|(with_reducible refine Kd.C_drew ?_)))
 (case side4=>exact (Kd.R_reads' HO448.out).2.1)
 rintro e w45 ⟨rfl,hb⟩
 have HS0_:=zhs hb hHeld.1
 have HS1_:=zhs hb hHeld.2.1
 have HS2_:=zhs hb hHeld.2.2.1
 have HS3_:=zhs hb hHeld.2.2.2.1
 have HS4_:=zhs hb hHeld.2.2.2.2.1
 have HS5_:=zhs hb hHeld.2.2.2.2.2.1
 have HS6_:=zhs hb hHeld.2.2.2.2.2.2.1
 have HS7_:=zhs hb hHeld.2.2.2.2.2.2.2.1
 have HS8_:=zhs hb hHeld.2.2.2.2.2.2.2.2.1
 have HS9_:=zhs hb hHeld.2.2.2.2.2.2.2.2.2.1
 have HS10_:=zhs hb hHeld.2.2.2.2.2.2.2.2.2.2.1
 have HS11_:=zhs hb hHeld.2.2.2.2.2.2.2.2.2.2.2.1
 have HS12_:=zhs hb hHeld.2.2.2.2.2.2.2.2.2.2.2.2.1
 have HS13_:=zhs hb hHeld.2.2.2.2.2.2.2.2.2.2.2.2.2.1
 have HS14_:=zhs hb hHeld.2.2.2.2.2.2.2.2.2.2.2.2.2.2.1
 have HS15_:=zhs hb hHeld.2.2.2.2.2.2.2.2.2.2.2.2.2.2.2
 refine ⟨_,rfl,?_⟩
 have n0_:=Aside0.mk (Kd.N_below (zN HO_5.out) hb)
 have n1_:=Aside0.mk (Kd.N_below (zN HO_6.out) hb)
 have n2_:=Aside0.mk (Kd.N_below (zN HO_9.out) hb)
 have n3_:=Aside0.mk (Kd.V_below (zV HL434_0.out) hb)
 have n4_:=Aside0.mk (Kd.V_below (zV HL436_0.out) hb)
 have n5_:=Aside0.mk (Kd.V_below (zV HL438_0.out) hb)
 have n6_:=Aside0.mk (Kd.V_below (zV HL439_0.out) hb)
 have n7_:=Aside0.mk (Kd.V_below (zV HL440_0.out) hb)
 have n8_:=Aside0.mk (Kd.V_below (zV HL441_0.out) hb)
 have n9_:=Aside0.mk (Kd.R_below (by (with_reducible repeat (first|apply Kd.R_alloc|apply Kd.R_drewN|apply Kd.R_drew));exact HO448.out) hb)
 have n10_:=Aside0.mk (Kd.C_below (zC HR434_0.out) hb)
 have n11_:=Aside0.mk (Kd.C_below (zC HR436_0.out) hb)
 have n12_:=Aside0.mk (Kd.C_below (zC HR438_0.out) hb)
 have n13_:=Aside0.mk (Kd.C_below (zC HR439_0.out) hb)
 have n14_:=Aside0.mk (Kd.C_below (zC HR440_0.out) hb)
 have n15_:=Aside0.mk (Kd.C_below (zC HR441_0.out) hb)
 have n16_:=Aside0.mk (below_step zhb hb)
 clear HO_5
 clear HO_6
 clear HO_9
 clear HL434_0
 clear HL436_0
 clear HL438_0
 clear HL439_0
 clear HL440_0
 clear HL441_0
 clear HO448
 clear HR434_0
 clear HR436_0
 clear HR438_0
 clear HR439_0
 clear HR440_0
 clear HR441_0
 clear HB
 have HO_5:=n0_
 have HO_6:=n1_
 have HO_9:=n2_
 have HL434_0:=n3_
 have HL436_0:=n4_
 have HL438_0:=n5_
 have HL439_0:=n6_
 have HL440_0:=n7_
 have HL441_0:=n8_
 have HO448:=n9_
 have HR434_0:=n10_
 have HR436_0:=n11_
 have HR438_0:=n12_
 have HR439_0:=n13_
 have HR440_0:=n14_
 have HR441_0:=n15_
 have HB:=n16_
 clear n0_ n1_ n2_ n3_ n4_ n5_ n6_ n7_ n8_ n9_ n10_ n11_ n12_ n13_ n14_ n15_ n16_
 (try clear hb)
 (try clear hb2)
 (try clear hk)
 (try clear hi)
 refine hK.out _ _ ⟨HS0_,HS1_,HS2_,HS3_,HS4_,HS5_,HS6_,HS7_,HS8_,HS9_,HS10_,HS11_,HS12_,HS13_,HS14_,HS15_⟩ (fun hHeld=>?_)
 clear hK K
 refine norm_ (a':=?_) ?_ ?_
 rotate_left
 ·show Act.put _ (some 155) _=_
  simp only [Act.put,zp1,zp2,zp3,i64_w,i32_w]
  rfl
 refine zpu 52 156 59 9007199254740991 ?_
 refine zpu 53 157 59 18014398509481983 ?_
 refine zpu 54 158 59 36028797018963967 ?_
 refine zpu 55 159 59 72057594037927935 ?_
 refine zpu 56 160 59 144115188075855871 ?_
 refine zpu 57 161 59 288230376151711743 ?_
 refine zpu 58 162 59 576460752303423487 ?_
 refine done_ (done_of HT_.out (by kernel_rfl)) ?_
 try go_wp2
 go_roundg k2
 case measure=>have:=HK1.out;have:=HK2.out;omega
 case rel=>exact ⟨(wrap64 (x13_2 + 1)),(wrap64 (x15_2 + 1)),(by first|rfl|(rw [HR_.out];first|done|rfl)|(simp;done)|(simp [*];done)),(by first|rfl|(rw [HR_.out];first|done|rfl)|(simp;done)|(simp [*];done)),H',⟨by have:=HK1.out;have:=HK2.out;omega⟩,⟨by (with_reducible repeat (first|apply Kd.N_alloc|apply Kd.N_drewN|apply Kd.N_drew));exact Kd.N_mono HO_5.out (fun _ hk=>⟨hk.1.1,hk.1.2⟩)⟩,⟨by (with_reducible repeat (first|apply Kd.N_alloc|apply Kd.N_drewN|apply Kd.N_drew));exact Kd.N_mono HO_6.out (fun _ hk=>⟨hk.1.1,hk.1.2⟩)⟩,⟨by (with_reducible repeat (first|apply Kd.N_alloc|apply Kd.N_drewN|apply Kd.N_drew));exact Kd.N_mono HO_9.out (fun _ hk=>⟨hk.1.1,hk.1.2⟩)⟩,⟨zhb⟩⟩

theorem laws_FnJoin.calls (k : Nat) (A0 : Option Addr) (c0 : Nat) (l0 : List Int) (A1 : Option Addr) (c1 : Nat) (l1 : List Int) (r : Bool) (w : World) (hr0 : Kd.C (Kd.int .u8) w A0 l0.length l0) (hc0 : l0.length ≤ c0) (hr1 : Kd.C (Kd.int .u8) w A1 l1.length l1) (hc1 : l1.length ≤ c1) (h : laws_FnJoin.f k l0 l1 = some r) (hr_ : r = true) (hT : Lib.TabIs Tryd.prog w "internal/strconv.uint64pow10" .u64 Lib.pow10Tab := by first | exact TxtW.tab (TxtW.on HT0.out zhb) | exact tab_on HT0.out zhb) :
  Calls Tryd.prog 6 #[.slice A0 l0.length c0,.slice A1 l1.length c1] w fun e w'=>e=.returned (.bool r)∧Below w.heap.size w w':= laws_FnJoin.cut.2.2.2.2.2.2 k A0 c0 l0 A1 c1 l1 r w hr0 hc0 hr1 hc1 h hr_ hT ⟨laws_FnJoin.way0⟩ ⟨laws_FnJoin.way1⟩ ⟨laws_FnJoin.way2⟩ ⟨laws_FnJoin.way3⟩ ⟨laws_FnJoin.way4⟩ ⟨laws_FnJoin.way5⟩
/-- THE ONE PURE STATEMENT of laws_FnJoin: yours. -/
def laws_FnJoin.Pure:Prop:=∀ (l0:List Int) (l1:List Int),l0.length≤maxLen→l0.length * 1≤140737488351232→(∀ x ∈ l0,(Lit.int .u8 x).wf=true)→l1.length≤maxLen→l1.length * 1≤140737488351232→(∀ x ∈ l1,(Lit.int .u8 x).wf=true)→∃ k,laws_FnJoin.f k l0 l1=some true
theorem laws_FnJoin.walk (P : laws_FnJoin.Pure) (a0 : Option Addr) (len0 cap0 : Nat) (z0 : List Int) (a1 : Option Addr) (len1 cap1 : Nat) (z1 : List Int) (w : World) (w0 : (a0 = none ∧ len0 = 0 ∧ cap0 = 0 ∧ z0 = []) ∨ ∃ x, a0 = some x ∧ len0 ≤ cap0 ∧ cap0 ≤ maxLen ∧ z0.length = cap0 ∧ (∀ i, i < z0.length → w.cell? (x.add i) = some (.int .u8 (z0.getD i 0))) ∧ ∀ n ∈ z0, (Lit.int .u8 n).wf = true) (y0 : len0 * 1 ≤ 140737488351232) (w1 : (a1 = none ∧ len1 = 0 ∧ cap1 = 0 ∧ z1 = []) ∨ ∃ x, a1 = some x ∧ len1 ≤ cap1 ∧ cap1 ≤ maxLen ∧ z1.length = cap1 ∧ (∀ i, i < z1.length → w.cell? (x.add i) = some (.int .u8 (z1.getD i 0))) ∧ ∀ n ∈ z1, (Lit.int .u8 n).wf = true) (y1 : len1 * 1 ≤ 140737488351232) (hT : Lib.TabIs Tryd.prog w "internal/strconv.uint64pow10" .u64 Lib.pow10Tab) :
  Calls Tryd.prog 6 #[.slice a0 len0 cap0,.slice a1 len1 cap1] w fun e w'=>e=.returned (.bool true)∧Below w.heap.size w w':=by
 obtain ⟨l0,rfl,hr0,hm0,hw0,hc0⟩:=ReadsInt.ofRowC w0
 obtain ⟨l1,rfl,hr1,hm1,hw1,hc1⟩:=ReadsInt.ofRowC w1
 obtain ⟨k,h⟩:=P l0 l1 hm0 y0 hw0 hm1 y1 hw1
 refine (laws_FnJoin.calls k _ _ l0 _ _ l1 true w (Kd.C_of_reads (d:=(0:Int)) (h1:=fun _=>rfl) hr0) hc0 (Kd.C_of_reads (d:=(0:Int)) (h1:=fun _=>rfl) hr1) hc1 h rfl hT).mono ?_
 rintro e w' ⟨rfl,hd⟩
 exact ⟨rfl,hd⟩

end Go.Proofs.YtlknceioincaeaaDoor.PFnJoin
