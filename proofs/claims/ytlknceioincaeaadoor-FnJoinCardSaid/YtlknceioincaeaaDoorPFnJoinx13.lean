-- Written by wip/tools/pp.py, a program of this session over the kit's printer: not the kit's own print
import Derived.Test.YtlknceioincaeaaDoorPFnJoinx0
import Derived.Test.YtlknceioincaeaaDoorPFnJoinx4
import Derived.Test.YtlknceioincaeaaDoorPFnJoinx5
import Derived.Test.YtlknceioincaeaaDoorPFnJoinx12
namespace Go.Proofs.YtlknceioincaeaaDoor.PFnJoin
open Go.RowKit Go.Proofs.YtlknceioincaeaaDoorW.PrintWords Go.Proofs.YtlknceioincaeaaDoorW.PrintLast Go.Proofs.YtlknceioincaeaaDoorW.PrintMore
attribute [local go_sem] max2_int min2_int max_two min_two max_three min_three max_four min_four   -- for this text's walks alone
set_option linter.unusedVariables false
set_option linter.unusedSimpArgs false

/-! ### slices_BinarySearchFunc_impl_Item_impl_Item_int__impl_ZGet_1: function 42 -/
def slices_BinarySearchFunc_impl_Item_impl_Item_int__impl_ZGet_1.l0:Nat→List (S31)→List Int→Int→Int→Int→Option (Int × Bool)
 | 0,_,_,_,_,_=>none
 | k + 1,x0,x1,x8,x9,x10=>if x9 < x10 then (if 0≤(wrap64 ((IntKind.u64.wrap (wrap64 (x9 + x10))) / 2)) then (if (wrap64 ((IntKind.u64.wrap (wrap64 (x9 + x10))) / 2)) < (x0.length:Int) then ((impl_ZGet_1.f k ((rd_T31 x0 (wrap64 ((IntKind.u64.wrap (wrap64 (x9 + x10))) / 2))).f0) ((rd_T31 x0 (wrap64 ((IntKind.u64.wrap (wrap64 (x9 + x10))) / 2))).f1) x1).bind fun t337=>(if t337 < 0 then (slices_BinarySearchFunc_impl_Item_impl_Item_int__impl_ZGet_1.l0 k x0 x1 x8 (wrap64 ((wrap64 ((IntKind.u64.wrap (wrap64 (x9 + x10))) / 2)) + 1)) x10) else (slices_BinarySearchFunc_impl_Item_impl_Item_int__impl_ZGet_1.l0 k x0 x1 x8 x9 (wrap64 ((IntKind.u64.wrap (wrap64 (x9 + x10))) / 2))))) else (none)) else (none)) else (if x9 < x8 then (if 0≤x9 then (if x9 < (x0.length:Int) then ((impl_ZGet_1.f k ((rd_T31 x0 x9).f0) ((rd_T31 x0 x9).f1) x1).bind fun t339=>(some (x9,(t339 == 0)))) else (none)) else (none)) else (some (x9,false)))
def slices_BinarySearchFunc_impl_Item_impl_Item_int__impl_ZGet_1.f (k:Nat) (l0:List (S31)) (l1:List Int) :Option (Int × Bool):=slices_BinarySearchFunc_impl_Item_impl_Item_int__impl_ZGet_1.l0 k l0 l1 (l0.length:Int) 0 (l0.length:Int)
theorem slices_BinarySearchFunc_impl_Item_impl_Item_int__impl_ZGet_1.mono_l : ∀ k,(∀ y0 y1 y2 y3 y4,LeO (slices_BinarySearchFunc_impl_Item_impl_Item_int__impl_ZGet_1.l0 k y0 y1 y2 y3 y4) (slices_BinarySearchFunc_impl_Item_impl_Item_int__impl_ZGet_1.l0 (k + 1) y0 y1 y2 y3 y4))
 | 0=>fun _ _ _ _ _ r h=>by simp [slices_BinarySearchFunc_impl_Item_impl_Item_int__impl_ZGet_1.l0] at h
 | k + 1=>by
  have ih0:=slices_BinarySearchFunc_impl_Item_impl_Item_int__impl_ZGet_1.mono_l k
  ·intro y0 y1 y2 y3 y4
   unfold slices_BinarySearchFunc_impl_Item_impl_Item_int__impl_ZGet_1.l0
   repeat' first
   | (with_reducible exact ih0 _ _ _ _ _)
   | (with_reducible exact impl_ZGet_1.mono _ _ _ _)
   | (with_reducible exact LeO.refl _)
   | (with_reducible exact LeO.none _)
   | (with_reducible refine LeO.ite ?_ ?_)
   | (with_reducible refine LeO.bind ?_ (fun _=>?_))
   | exact LeO.none _
   | refine LeO.ite ?_ ?_
   | refine LeO.bind ?_ (fun _=>?_)
theorem slices_BinarySearchFunc_impl_Item_impl_Item_int__impl_ZGet_1.mono : ∀ a0 a1 k,LeO (slices_BinarySearchFunc_impl_Item_impl_Item_int__impl_ZGet_1.f k a0 a1) (slices_BinarySearchFunc_impl_Item_impl_Item_int__impl_ZGet_1.f (k + 1) a0 a1):=by
 intro a0 a1 k
 have ih0:=slices_BinarySearchFunc_impl_Item_impl_Item_int__impl_ZGet_1.mono_l k
 unfold slices_BinarySearchFunc_impl_Item_impl_Item_int__impl_ZGet_1.f
 repeat' first
   | (with_reducible exact ih0 _ _ _ _ _)
   | (with_reducible exact impl_ZGet_1.mono _ _ _ _)
   | (with_reducible exact LeO.refl _)
   | (with_reducible exact LeO.none _)
   | (with_reducible refine LeO.ite ?_ ?_)
   | (with_reducible refine LeO.bind ?_ (fun _=>?_))
   | exact LeO.none _
   | refine LeO.ite ?_ ?_
   | refine LeO.bind ?_ (fun _=>?_)
set_option maxHeartbeats 8000000 in
set_option maxRecDepth 100000 in
theorem slices_BinarySearchFunc_impl_Item_impl_Item_int__impl_ZGet_1.calls (k:Nat) (A0:Option Addr) (c0:Nat) (l0:List (S31)) (A1:Option Addr) (c1:Nat) (l1:List Int)  (r1:Int) (r2:Bool) (w:World) (hr0:Kd.C k31 w A0 l0.length l0) (hc0:l0.length≤c0) (hr1:Kd.C (Kd.int .i64) w A1 l1.length l1) (hc1:l1.length≤c1) (h:slices_BinarySearchFunc_impl_Item_impl_Item_int__impl_ZGet_1.f k l0 l1=some (r1,r2)) :
  Calls Tryd.prog 42 #[.slice A0 l0.length c0,.slice A1 l1.length c1,.func (.func 43) #[] #[]] w fun e w'=>e=.returned (.tuple #[.int .i64 r1,.bool r2])∧Below w.heap.size w w':=by
 have hu31:=Tryd.underlying31
 have HR0:=Aside0.mk hr0
 have HC0:=Aside0.mk hc0
 clear hr0 hc0
 have HR1:=Aside0.mk hr1
 have HC1:=Aside0.mk hc1
 clear hr1 hc1
 have HB:=Aside0.mk (Below.refl w.heap.size w)
 have H:(slices_BinarySearchFunc_impl_Item_impl_Item_int__impl_ZGet_1.l0 k l0 l1 (l0.length:Int) 0 (l0.length:Int))=some (r1,r2):=h
 clear h
 have H':=Aside0.mk H
 clear H
 go_enter Tryd.func42,Tryd.ntmps42
 go_wp2
 go_loopg [9,10] k (fun kq v9 v10 w'=>∃ (x9_1:Int) (x10_1:Int),v9=.int .i64 x9_1∧v10=.int .i64 x10_1∧Aside0 (slices_BinarySearchFunc_impl_Item_impl_Item_int__impl_ZGet_1.l0 kq l0 l1 (l0.length:Int) x9_1 x10_1=some (r1,r2))∧Aside0 (kq≤k)∧Aside0 (Below w.heap.size w w'))
 case atStart=>exact ⟨(0),((l0.length:Int)),(by first|rfl|(simp;done)|(simp [*];done)),(by first|rfl|(simp;done)|(simp [*];done)),H',⟨Nat.le_refl _⟩,⟨zhb⟩⟩
 case round =>
  clear H'
  try clear c1
  try clear p2
  obtain ⟨x9_1,x10_1,rfl,rfl,HA,HK1,HB⟩:=hrel
  cases gk with
  | zero=>exact absurd HA.out (by simp [slices_BinarySearchFunc_impl_Item_impl_Item_int__impl_ZGet_1.l0])
  | succ k1 =>
   have H:=HA.out
   clear HA
   simp only [slices_BinarySearchFunc_impl_Item_impl_Item_int__impl_ZGet_1.l0] at H
   by_cases c4:x9_1 < x10_1
   rotate_left
   ·rw [if_neg c4] at H
    have c4b0:decide (x9_1 < x10_1)=false:=decide_eq_false c4
    clear c4
    by_cases c12:x9_1 < (l0.length:Int)
    rotate_left
    ·rw [if_neg c12] at H
     have c12b0:decide (x9_1 < (l0.length:Int))=false:=decide_eq_false c12
     clear c12
     simp only [Option.some.injEq,Prod.mk.injEq] at H
     obtain ⟨rfl,rfl⟩:=H
     go_wp2
     go_ret2
     exact ⟨by first|rfl|(simp [errW_none,errW_some] <;> rfl)|(simp [*,errW_none,errW_some] <;> rfl),zhb⟩

    rw [if_pos c12] at H
    have c12b0:decide (x9_1 < (l0.length:Int))=true:=decide_eq_true c12
    clear c12
    by_cases c13:0≤x9_1
    rotate_left
    ·rw [if_neg c13] at H
     exact absurd H (by simp)
    rw [if_pos c13] at H
    have c13b0:decide (0≤x9_1)=true:=decide_eq_true c13
    clear c13
    by_cases c14:x9_1 < (l0.length:Int)
    rotate_left
    ·rw [if_neg c14] at H
     exact absurd H (by simp)
    rw [if_pos c14] at H
    have c14b0:decide (x9_1 < (l0.length:Int))=true:=decide_eq_true c14
    clear c14
    replace H:=Option.bind_eq_some_iff.mp H
    obtain ⟨t339,A150,H⟩:=H
    (try dsimp only at H)
    have A15:=Aside0.mk A150
    clear A150
    simp only [Option.some.injEq,Prod.mk.injEq] at H
    obtain ⟨rfl,rfl⟩:=H
    have p338:0≤(x9_1:Int):=zod
    have q338:x9_1 < (l0.length:Int):=zod
    obtain ⟨ad338,A338_0,c338_0,e338,hx338_0,hx338_1,hl338_0,hi338_0⟩:=at_T31 HR0.out x9_1 p338 q338
    cases e338
    replace hx338_0:=(HB.out.cell (World.block_lt_of_cell? w _ hx338_0)).trans hx338_0
    replace hx338_1:=(HB.out.cell (World.block_lt_of_cell? w _ hx338_1)).trans hx338_1
    have HR338_0:=Aside0.mk hi338_0
    have HC338_0:=Aside0.mk hl338_0
    clear hi338_0 hl338_0
    replace p338:=eq_true p338
    replace q338:=eq_true q338
    go_wp2_with (first|(go_at_call 43;(with_reducible refine (impl_ZGet_1.calls k1 _ _ ((rd_T31 l0 x9_1).f0) ((rd_T31 l0 x9_1).f1) _ _ l1 t339 _ ?side1 ?side2 ?side3 ?side4 A15.out).mono ?_);(case side1=>exact zC (Kd.C_below HR338_0.out HB.out));(case side2=>exact HC338_0.out);(case side3=>exact zC (Kd.C_below HR1.out HB.out));(case side4=>exact HC1.out);rintro e w16 ⟨rfl,hb⟩;have n0_:=Aside0.mk (below_step zhb hb);clear HB;have HB:=n0_;clear n0_;(try clear hb);(try clear hb2);(try clear hk);(try clear hi)))
    go_ret2
    exact ⟨by first|rfl|(simp [errW_none,errW_some] <;> rfl)|(simp [*,errW_none,errW_some] <;> rfl),zhb⟩
   rw [if_pos c4] at H
   have c4b0:decide (x9_1 < x10_1)=true:=decide_eq_true c4
   clear c4
   obtain ⟨ji5,hji5⟩ : ∃ j_:Int,(wrap64 ((IntKind.u64.wrap (wrap64 (x9_1 + x10_1))) / 2))=j_:=⟨_,rfl⟩
   replace H:(if 0≤(ji5) then (if (ji5) < (l0.length:Int) then ((impl_ZGet_1.f k1 ((rd_T31 l0 (ji5)).f0) ((rd_T31 l0 (ji5)).f1) l1).bind fun t337=>(if t337 < 0 then (slices_BinarySearchFunc_impl_Item_impl_Item_int__impl_ZGet_1.l0 k1 l0 l1 (l0.length:Int) (wrap64 ((ji5) + 1)) x10_1) else (slices_BinarySearchFunc_impl_Item_impl_Item_int__impl_ZGet_1.l0 k1 l0 l1 (l0.length:Int) x9_1 ji5))) else (none)) else (none))=some (r1,r2):=by first|(rw [hji5] at H;exact H)|(simp only [hji5] at H ⊢;exact H)
   have hji5w:(IntKind.i64.wrap ((IntKind.u64.wrap (wrap64 (x9_1 + x10_1))) / 2))=ji5:=(i64_w _).trans hji5
   by_cases c6:0≤(ji5)
   rotate_left
   ·rw [if_neg c6] at H
    exact absurd H (by simp)
   rw [if_pos c6] at H
   have c6b0:decide (0≤(ji5))=true:=decide_eq_true c6
   clear c6
   by_cases c7:(ji5) < (l0.length:Int)
   rotate_left
   ·rw [if_neg c7] at H
    exact absurd H (by simp)
   rw [if_pos c7] at H
   have c7b0:decide ((ji5) < (l0.length:Int))=true:=decide_eq_true c7
   clear c7
   replace H:=Option.bind_eq_some_iff.mp H
   obtain ⟨t337,A80,H⟩:=H
   (try dsimp only at H)
   have A8:=Aside0.mk A80
   clear A80
   by_cases c9:t337 < 0
   ·rw [if_pos c9] at H
    have c9b0:decide (t337 < 0)=true:=decide_eq_true c9
    clear c9
    have H':=Aside0.mk H
    clear H
    have p336:0≤((ji5):Int):=zod
    have q336:(ji5) < (l0.length:Int):=zod
    obtain ⟨ad336,A336_0,c336_0,e336,hx336_0,hx336_1,hl336_0,hi336_0⟩:=at_T31 HR0.out (ji5) p336 q336
    cases e336
    replace hx336_0:=(HB.out.cell (World.block_lt_of_cell? w _ hx336_0)).trans hx336_0
    replace hx336_1:=(HB.out.cell (World.block_lt_of_cell? w _ hx336_1)).trans hx336_1
    have HR336_0:=Aside0.mk hi336_0
    have HC336_0:=Aside0.mk hl336_0
    clear hi336_0 hl336_0
    replace p336:=eq_true p336
    replace q336:=eq_true q336
    go_wp2_with (first|(go_at_call 43;(with_reducible refine (impl_ZGet_1.calls k1 _ _ ((rd_T31 l0 (ji5)).f0) ((rd_T31 l0 (ji5)).f1) _ _ l1 t337 _ ?side1 ?side2 ?side3 ?side4 A8.out).mono ?_);(case side1=>exact zC (Kd.C_below HR336_0.out HB.out));(case side2=>exact HC336_0.out);(case side3=>exact zC (Kd.C_below HR1.out HB.out));(case side4=>exact HC1.out);rintro e w10 ⟨rfl,hb⟩;have n0_:=Aside0.mk (below_step zhb hb);clear HB;have HB:=n0_;clear n0_;(try clear hb);(try clear hb2);(try clear hk);(try clear hi)))
    go_roundg k1
    case measure=>have:=HK1.out;omega
    case rel=>exact ⟨(wrap64 ((ji5) + 1)),(x10_1),(by first|rfl|(simp;done)|(simp only [← hji5] <;> (first|rfl|simp))|(simp [*];done)),(by first|rfl|(simp;done)|(simp [*];done)),H',⟨by have:=HK1.out;omega⟩,⟨zhb⟩⟩
   rw [if_neg c9] at H
   have c9b0:decide (t337 < 0)=false:=decide_eq_false c9
   clear c9
   have H':=Aside0.mk H
   clear H
   have p336:0≤((ji5):Int):=zod
   have q336:(ji5) < (l0.length:Int):=zod
   obtain ⟨ad336,A336_0,c336_0,e336,hx336_0,hx336_1,hl336_0,hi336_0⟩:=at_T31 HR0.out (ji5) p336 q336
   cases e336
   replace hx336_0:=(HB.out.cell (World.block_lt_of_cell? w _ hx336_0)).trans hx336_0
   replace hx336_1:=(HB.out.cell (World.block_lt_of_cell? w _ hx336_1)).trans hx336_1
   have HR336_0:=Aside0.mk hi336_0
   have HC336_0:=Aside0.mk hl336_0
   clear hi336_0 hl336_0
   replace p336:=eq_true p336
   replace q336:=eq_true q336
   go_wp2_with (first|(go_at_call 43;(with_reducible refine (impl_ZGet_1.calls k1 _ _ ((rd_T31 l0 (ji5)).f0) ((rd_T31 l0 (ji5)).f1) _ _ l1 t337 _ ?side1 ?side2 ?side3 ?side4 A8.out).mono ?_);(case side1=>exact zC (Kd.C_below HR336_0.out HB.out));(case side2=>exact HC336_0.out);(case side3=>exact zC (Kd.C_below HR1.out HB.out));(case side4=>exact HC1.out);rintro e w11 ⟨rfl,hb⟩;have n0_:=Aside0.mk (below_step zhb hb);clear HB;have HB:=n0_;clear n0_;(try clear hb);(try clear hb2);(try clear hk);(try clear hi)))
   go_roundg k1
   case measure=>have:=HK1.out;omega
   case rel=>exact ⟨(x9_1),(ji5),(by first|rfl|(simp;done)|(simp [*];done)),(by first|rfl|(simp;done)|(simp only [← hji5] <;> (first|rfl|simp))|(simp [*];done)),H',⟨by have:=HK1.out;omega⟩,⟨zhb⟩⟩
/-! ### impl_ZGet: function 17 -/
def impl_ZGet.f (k:Nat) (l0:List (S31)) (l1:List Int):Option (Int):=(impl_ZOk.f k l0).bind fun t340=>(if t340=true then ((slices_BinarySearchFunc_impl_Item_impl_Item_int__impl_ZGet_1.f k l0 l1).bind fun bt341=>(if bt341.2=true then (if 0≤bt341.1 then (if bt341.1 < (l0.length:Int) then (some ((rd_T31 l0 bt341.1).f1)) else (none)) else (none)) else (some 0))) else (some 0))
theorem impl_ZGet.mono : ∀ a0 a1 k,LeO (impl_ZGet.f k a0 a1) (impl_ZGet.f (k + 1) a0 a1):=by
 intro a0 a1 k
 unfold impl_ZGet.f
 repeat' first
   | (with_reducible exact impl_ZOk.mono _ _)
   | (with_reducible exact slices_BinarySearchFunc_impl_Item_impl_Item_int__impl_ZGet_1.mono _ _ _)
   | (with_reducible exact LeO.refl _)
   | (with_reducible exact LeO.none _)
   | (with_reducible refine LeO.ite ?_ ?_)
   | (with_reducible refine LeO.bind ?_ (fun _=>?_))
   | exact LeO.none _
   | refine LeO.ite ?_ ?_
   | refine LeO.bind ?_ (fun _=>?_)
set_option maxHeartbeats 8000000 in
set_option maxRecDepth 100000 in
theorem impl_ZGet.calls (k:Nat) (A0:Option Addr) (c0:Nat) (l0:List (S31)) (A1:Option Addr) (c1:Nat) (l1:List Int) (r:Int) (w:World) (hr0:Kd.C k31 w A0 l0.length l0) (hc0:l0.length≤c0) (hr1:Kd.C (Kd.int .i64) w A1 l1.length l1) (hc1:l1.length≤c1) (h:impl_ZGet.f k l0 l1=some r) :
  Calls Tryd.prog 17 #[.slice A0 l0.length c0,.slice A1 l1.length c1] w fun e w'=>e=.returned (.int .i64 r)∧Below w.heap.size w w':=by
 have HR0:=Aside0.mk hr0
 have HC0:=Aside0.mk hc0
 clear hr0 hc0
 have HR1:=Aside0.mk hr1
 have HC1:=Aside0.mk hc1
 clear hr1 hc1
 have HB:=Aside0.mk (Below.refl w.heap.size w)
 have H:((impl_ZOk.f k l0).bind fun t340=>(if t340=true then ((slices_BinarySearchFunc_impl_Item_impl_Item_int__impl_ZGet_1.f k l0 l1).bind fun bt341=>(if bt341.2=true then (if 0≤bt341.1 then (if bt341.1 < (l0.length:Int) then (some ((rd_T31 l0 bt341.1).f1)) else (none)) else (none)) else (some 0))) else (some 0)))=some r:=h
 clear h
 replace H:=Option.bind_eq_some_iff.mp H
 obtain ⟨t340,A30,H⟩:=H
 (try dsimp only at H)
 have A3:=Aside0.mk A30
 clear A30
 by_cases c4:t340=true
 rotate_left
 ·replace c4:=Bool.eq_false_iff.mpr c4
  subst c4
  have H1:(some 0)=some r:=by rw [if_neg (show ¬ (false=true) by decide)] at H;exact H
  clear H
  have H:=H1
  clear H1
  obtain rfl:=Option.some.inj H
  go_enter Tryd.func17,Tryd.ntmps17
  go_wp2_with (first|((with_reducible refine gate_callee (f:=23) rfl ?_);refine goesL_ (some 8) rfl rfl Tryd.func23 (by kernel_rfl) rfl #[.slice A0 l0.length c0] rfl zar ?_;(with_reducible refine (impl_ZOk.calls k _ _ l0 false _ ?side1 ?side2 A3.out).mono ?_);(case side1=>exact zC HR0.out);(case side2=>exact HC0.out);rintro e w13 ⟨rfl,hb⟩;refine ⟨_,rfl,?_⟩;have n0_:=Aside0.mk (below_step zhb hb);clear HB;have HB:=n0_;clear n0_;(try clear hb);(try clear hb2);(try clear hk);(try clear hi)))
  go_ret
  exact ⟨by first|rfl|(simp [errW_none,errW_some] <;> rfl)|(simp [*,errW_none,errW_some] <;> rfl),zhb⟩

 subst c4
 have H1:((slices_BinarySearchFunc_impl_Item_impl_Item_int__impl_ZGet_1.f k l0 l1).bind fun bt341=>(if bt341.2=true then (if 0≤bt341.1 then (if bt341.1 < (l0.length:Int) then (some ((rd_T31 l0 bt341.1).f1)) else (none)) else (none)) else (some 0)))=some r:=by rw [if_pos rfl] at H;exact H
 clear H
 have H:=H1
 clear H1
 replace H:=Option.bind_eq_some_iff.mp H
 obtain ⟨⟨t341,t342⟩,A50,H⟩:=H
 (try dsimp only at H)
 have A5:=Aside0.mk A50
 clear A50
 by_cases c6:t342=true
 rotate_left
 ·replace c6:=Bool.eq_false_iff.mpr c6
  subst c6
  have H1:(some 0)=some r:=by rw [if_neg (show ¬ (false=true) by decide)] at H;exact H
  clear H
  have H:=H1
  clear H1
  obtain rfl:=Option.some.inj H
  go_enter Tryd.func17,Tryd.ntmps17
  go_wp2_with (first|((with_reducible refine gate_callee (f:=23) rfl ?_);refine goesL_ (some 8) rfl rfl Tryd.func23 (by kernel_rfl) rfl #[.slice A0 l0.length c0] rfl zar ?_;(with_reducible refine (impl_ZOk.calls k _ _ l0 true _ ?side1 ?side2 A3.out).mono ?_);(case side1=>exact zC HR0.out);(case side2=>exact HC0.out);rintro e w11 ⟨rfl,hb⟩;refine ⟨_,rfl,?_⟩;have n0_:=Aside0.mk (below_step zhb hb);clear HB;have HB:=n0_;clear n0_;(try clear hb);(try clear hb2);(try clear hk);(try clear hi))|(go_at_call 42;(with_reducible refine (slices_BinarySearchFunc_impl_Item_impl_Item_int__impl_ZGet_1.calls k _ _ l0 _ _ l1  t341 false _ ?side1 ?side2 ?side3 ?side4 A5.out).mono ?_);(case side1=>exact zC (Kd.C_below HR0.out HB.out));(case side2=>exact HC0.out);(case side3=>exact zC (Kd.C_below HR1.out HB.out));(case side4=>exact HC1.out);rintro e w12 ⟨rfl,hb⟩;have n0_:=Aside0.mk (below_step zhb hb);clear HB;have HB:=n0_;clear n0_;(try clear hb);(try clear hb2);(try clear hk);(try clear hi)))
  go_ret
  exact ⟨by first|rfl|(simp [errW_none,errW_some] <;> rfl)|(simp [*,errW_none,errW_some] <;> rfl),zhb⟩
 subst c6
 have H1:(if 0≤t341 then (if t341 < (l0.length:Int) then (some ((rd_T31 l0 t341).f1)) else (none)) else (none))=some r:=by rw [if_pos rfl] at H;exact H
 clear H
 have H:=H1
 clear H1
 by_cases c7:0≤t341
 rotate_left
 ·rw [if_neg c7] at H
  exact absurd H (by simp)
 rw [if_pos c7] at H
 have c7b0:decide (0≤t341)=true:=decide_eq_true c7
 clear c7
 by_cases c8:t341 < (l0.length:Int)
 rotate_left
 ·rw [if_neg c8] at H
  exact absurd H (by simp)
 rw [if_pos c8] at H
 have c8b0:decide (t341 < (l0.length:Int))=true:=decide_eq_true c8
 clear c8
 obtain rfl:=Option.some.inj H
 go_enter Tryd.func17,Tryd.ntmps17
 go_wp2_with (first|((with_reducible refine gate_callee (f:=23) rfl ?_);refine goesL_ (some 8) rfl rfl Tryd.func23 (by kernel_rfl) rfl #[.slice A0 l0.length c0] rfl zar ?_;(with_reducible refine (impl_ZOk.calls k _ _ l0 true _ ?side1 ?side2 A3.out).mono ?_);(case side1=>exact zC HR0.out);(case side2=>exact HC0.out);rintro e w9 ⟨rfl,hb⟩;refine ⟨_,rfl,?_⟩;have n0_:=Aside0.mk (below_step zhb hb);clear HB;have HB:=n0_;clear n0_;(try clear hb);(try clear hb2);(try clear hk);(try clear hi))|(go_at_call 42;(with_reducible refine (slices_BinarySearchFunc_impl_Item_impl_Item_int__impl_ZGet_1.calls k _ _ l0 _ _ l1  t341 true _ ?side1 ?side2 ?side3 ?side4 A5.out).mono ?_);(case side1=>exact zC (Kd.C_below HR0.out HB.out));(case side2=>exact HC0.out);(case side3=>exact zC (Kd.C_below HR1.out HB.out));(case side4=>exact HC1.out);rintro e w10 ⟨rfl,hb⟩;have n0_:=Aside0.mk (below_step zhb hb);clear HB;have HB:=n0_;clear n0_;(try clear hb);(try clear hb2);(try clear hk);(try clear hi);have p343:0≤(t341:Int):=zod;have q343:t341 < (l0.length:Int):=zod;obtain ⟨ad343,A343_0,c343_0,e343,hx343_0,hx343_1,hl343_0,hi343_0⟩:=at_T31 HR0.out t341 p343 q343;cases e343;replace hx343_0:=(HB.out.cell (World.block_lt_of_cell? w _ hx343_0)).trans hx343_0;replace hx343_1:=(HB.out.cell (World.block_lt_of_cell? w _ hx343_1)).trans hx343_1;have HR343_0:=Aside0.mk hi343_0;have HC343_0:=Aside0.mk hl343_0;clear hi343_0 hl343_0;replace p343:=eq_true p343;replace q343:=eq_true q343))
 go_ret
 exact ⟨by first|rfl|(simp [errW_none,errW_some] <;> rfl)|(simp [*,errW_none,errW_some] <;> rfl),zhb⟩
/-! ### impl_cmpItem: function 54 -/
def impl_cmpItem.f (k:Nat) (l0_0:List Int) (a0_1:Int) (l1_0:List Int) (a1_1:Int):Option (Int):=(slices_Compare_int_int.f k l0_0 l1_0).bind fun t346=>(some t346)
theorem impl_cmpItem.mono : ∀ a0 a1 a2 a3 k,LeO (impl_cmpItem.f k a0 a1 a2 a3) (impl_cmpItem.f (k + 1) a0 a1 a2 a3):=by
 intro a0 a1 a2 a3 k
 unfold impl_cmpItem.f
 repeat' first
   | (with_reducible exact slices_Compare_int_int.mono _ _ _)
   | (with_reducible exact LeO.refl _)
   | (with_reducible exact LeO.none _)
   | (with_reducible refine LeO.ite ?_ ?_)
   | (with_reducible refine LeO.bind ?_ (fun _=>?_))
   | exact LeO.none _
   | refine LeO.ite ?_ ?_
   | refine LeO.bind ?_ (fun _=>?_)
set_option maxHeartbeats 8000000 in
set_option maxRecDepth 100000 in
theorem impl_cmpItem.calls (k:Nat) (A0_0:Option Addr) (c0_0:Nat) (l0_0:List Int) (a0_1:Int) (A1_0:Option Addr) (c1_0:Nat) (l1_0:List Int) (a1_1:Int) (r:Int) (w:World) (hr0_0:Kd.C (Kd.int .i64) w A0_0 l0_0.length l0_0) (hc0_0:l0_0.length≤c0_0) (hr1_0:Kd.C (Kd.int .i64) w A1_0 l1_0.length l1_0) (hc1_0:l1_0.length≤c1_0) (h:impl_cmpItem.f k l0_0 a0_1 l1_0 a1_1=some r) :
  Calls Tryd.prog 54 #[.agg #[.slice A0_0 l0_0.length c0_0,.int .i64 a0_1],.agg #[.slice A1_0 l1_0.length c1_0,.int .i64 a1_1]] w fun e w'=>e=.returned (.int .i64 r)∧Below w.heap.size w w':=by
 have hu31:=Tryd.underlying31
 have HR0_0:=Aside0.mk hr0_0
 have HC0_0:=Aside0.mk hc0_0
 clear hr0_0 hc0_0
 have HR1_0:=Aside0.mk hr1_0
 have HC1_0:=Aside0.mk hc1_0
 clear hr1_0 hc1_0
 have HB:=Aside0.mk (Below.refl w.heap.size w)
 have H:((slices_Compare_int_int.f k l0_0 l1_0).bind fun t346=>(some t346))=some r:=h
 clear h
 replace H:=Option.bind_eq_some_iff.mp H
 obtain ⟨t346,A30,H⟩:=H
 (try dsimp only at H)
 have A3:=Aside0.mk A30
 clear A30
 obtain rfl:=Option.some.inj H
 go_enter Tryd.func54,Tryd.ntmps54
 go_wp2_with (first|((with_reducible refine gate_dst (N:=2) rfl ?_);refine box_event ?hg (N:=2) ?hd (cs:=#[.slice A0_0 l0_0.length c0_0,.int .i64 a0_1]) (t:=31) ?hr ?_;(case hd=>rfl);(case hg=>rfl);(case hr=>first|(go_simp;done)|(go_simp;rfl));intro gb344 hg w4 hbox hb;have n0_:=Aside0.mk (below_step zhb hb);have n1_:=Aside0.mk (hbox);have n2_:=Aside0.mk ((by rw [hg];exact (below_size zhb):w.heap.size≤gb344));have n3_:=Aside0.mk ((by rw [hg];exact (below_size zhb):w.heap.size≤gb344));clear HB;have HB:=n0_;have BK344:=n1_;have GW344:=n2_;have GE344:=n3_;clear n0_ n1_ n2_ n3_;clear hb hbox hg)|((with_reducible refine gate_dst (N:=3) rfl ?_);refine box_event ?hg (N:=3) ?hd (cs:=#[.slice A1_0 l1_0.length c1_0,.int .i64 a1_1]) (t:=31) ?hr ?_;(case hd=>rfl);(case hg=>rfl);(case hr=>first|(go_simp;done)|(go_simp;rfl));intro gb345 hg w5 hbox hb;have n0_:=Aside0.mk (blk_below (g:=gb344) (o:=.cells #[.slice A0_0 l0_0.length c0_0,.int .i64 a0_1] 31 (0,0)) (by (with_reducible repeat (first|refine blk_drewN ?_ _|refine blk_drew ?_|refine blk_alloc ?_ _));exact BK344.out) hb);have n1_:=Aside0.mk (below_step (by repeat (first|(with_reducible first|exact HB.out|apply below_alloc|apply pw_below_drewN|apply below_drew1|refine below_set ?_ GE344.out)|exact HB.out)) hb);have n2_:=Aside0.mk (hbox);have n3_:=Aside0.mk ((by rw [hg];exact (below_size (by repeat (first|(with_reducible first|exact HB.out|apply below_alloc|apply pw_below_drewN|apply below_drew1|refine below_set ?_ GE344.out)|exact HB.out))):w.heap.size≤gb345));have n4_:=Aside0.mk ((by rw [hg];exact (below_size (by repeat (first|(with_reducible first|exact HB.out|apply below_alloc|apply pw_below_drewN|apply below_drew1|refine below_set ?_ GE344.out)|exact HB.out))):w.heap.size≤gb345));have n5_:=Aside0.mk ((by rw [hg];exact Nat.ne_of_lt (blk_lt (g:=gb344) (o:=.cells #[.slice A0_0 l0_0.length c0_0,.int .i64 a0_1] 31 (0,0)) (by (with_reducible repeat (first|refine blk_drewN ?_ _|refine blk_drew ?_|refine blk_alloc ?_ _));exact BK344.out)):gb344≠gb345));have n6_:=Aside0.mk ((by rw [hg];exact Nat.ne_of_gt (blk_lt (g:=gb344) (o:=.cells #[.slice A0_0 l0_0.length c0_0,.int .i64 a0_1] 31 (0,0)) (by (with_reducible repeat (first|refine blk_drewN ?_ _|refine blk_drew ?_|refine blk_alloc ?_ _));exact BK344.out)):gb345≠gb344));clear BK344;clear HB;have BK344:=n0_;have HB:=n1_;have BK345:=n2_;have GW345:=n3_;have GE345:=n4_;have NB344_345:=n5_;have NB345_344:=n6_;clear n0_ n1_ n2_ n3_ n4_ n5_ n6_;clear hb hbox hg;have hnb6:=NB344_345.out;have hnc6:=NB345_344.out;have hcz7_0:w5.cell? ⟨gb344,0,none⟩=some (.slice A0_0 l0_0.length c0_0):=(blk_cell BK344.out 0).trans rfl;have hcz7_1:w5.cell? ⟨gb344,1,none⟩=some (.int .i64 a0_1):=(blk_cell BK344.out 1).trans rfl;have hfz7_0:=blk_frozen BK344.out 0;have hfz7_1:=blk_frozen BK344.out 1;have hcz8_0:w5.cell? ⟨gb345,0,none⟩=some (.slice A1_0 l1_0.length c1_0):=(blk_cell BK345.out 0).trans rfl;have hcz8_1:w5.cell? ⟨gb345,1,none⟩=some (.int .i64 a1_1):=(blk_cell BK345.out 1).trans rfl;have hfz8_0:=blk_frozen BK345.out 0;have hfz8_1:=blk_frozen BK345.out 1)|((with_reducible refine gate_callee (f:=44) rfl ?_);refine goesL_ (some 9) rfl rfl Tryd.func44 (by kernel_rfl) rfl #[.slice A0_0 l0_0.length c0_0,.slice A1_0 l1_0.length c1_0] rfl zar ?_;(with_reducible refine (slices_Compare_int_int.calls k _ _ l0_0 _ _ l1_0 t346 _ ?side1 ?side2 ?side3 ?side4 A3.out).mono ?_);(case side1=>exact zC (Kd.C_below HR0_0.out HB.out));(case side2=>exact HC0_0.out);(case side3=>exact zC (Kd.C_below HR1_0.out HB.out));(case side4=>exact HC1_0.out);rintro e w' ⟨rfl,⟨nd,rfl⟩⟩;refine ⟨_,rfl,?_⟩))
 go_ret
 exact ⟨by first|rfl|(simp [errW_none,errW_some] <;> rfl)|(simp [*,errW_none,errW_some] <;> rfl),by repeat (first|(with_reducible first|exact HB.out|apply below_alloc|apply pw_below_drewN|apply below_drew1|refine below_set ?_ GE344.out|refine below_set ?_ GE345.out)|exact HB.out)⟩

-- NOT PRINTED: function 67 (impl_merged_impl_Item)

/-! ### impl_together_1: function 68 -/
def impl_together_1.f (l0_0:List Int) (a0_1:Int) (l1_0:List Int) (a1_1:Int):Option (List Int × Int × Bool):=some (l0_0,wrap64 (a0_1 + a1_1),((wrap64 (a0_1 + a1_1)) != 0))
def impl_together_1.T1:Bool × List (List Nat × List Nat):=(true,[([],[]),([0],[0]),([],[]),([2],[2]),([],[]),([4],[4]),([3,5],[3,5]),([1,6],[1,6]),([],[]),([8],[8]),([],[]),([10],[10]),([9,11],[9,11]),([12],[12]),([7,0,1,2,3,4,5,6,7],[7]),([13,14,0,1,2,3,4,5,6,7,8,9,10,11,12,13,14],[13])])
def impl_together_1.B1:List Nat:=[0,1,0,4,0,16,60,127,0,256,0,1024,3840,7936,255,32767]
theorem impl_together_1.tab1:rtab .any (opsOf Tryd.f68 1)=impl_together_1.T1:=by kernel_rfl
theorem impl_together_1.bits1:waitsOk impl_together_1.T1.2 impl_together_1.B1=true:=by kernel_rfl
set_option maxHeartbeats 8000000 in
set_option maxRecDepth 100000 in
theorem impl_together_1.calls (P0_0_:Nat→Prop) (A0_0:Option Addr) (c0_0:Nat) (l0_0:List Int) (a0_1:Int) (A1_0:Option Addr) (c1_0:Nat) (l1_0:List Int) (a1_1:Int) (r1:List Int) (r2:Int) (r3:Bool) (w:World) (hs0_0:Kd.V (Kd.int .i64) 3 w w.heap.size (fun k_=>P0_0_ k_) (.slice A0_0 l0_0.length c0_0) l0_0) (hr1_0:Kd.C (Kd.int .i64) w A1_0 l1_0.length l1_0) (hc1_0:l1_0.length≤c1_0) (h:impl_together_1.f l0_0 a0_1 l1_0 a1_1=some (r1,r2,r3)) :
  Calls Tryd.prog 68 #[.agg #[.slice A0_0 l0_0.length c0_0,.int .i64 a0_1],.agg #[.slice A1_0 l1_0.length c1_0,.int .i64 a1_1]] w fun e w'=>∃ v0_:Value,e=.returned (.tuple #[.agg #[v0_,.int .i64 r2],.bool r3])∧Kd.V (Kd.int .i64) 3 w' w.heap.size (fun k_=>(P0_0_ k_∨w.heap.size≤k_)) v0_ r1∧Below w.heap.size w w':=by
 have hu31:=Tryd.underlying31
 have HO0_0:=Aside0.mk (show Kd.V (Kd.int .i64) 3 w w.heap.size (fun k_=>(P0_0_ k_∨w.heap.size≤k_)) (.slice A0_0 l0_0.length c0_0) l0_0 from Kd.V_mono hs0_0 (fun k_ hk=>.inl hk))
 have HR1_0:=Aside0.mk hr1_0
 have HC1_0:=Aside0.mk hc1_0
 clear hr1_0 hc1_0
 have HB:=Aside0.mk (Below.refl w.heap.size w)
 have H:(some (l0_0,wrap64 (a0_1 + a1_1),((wrap64 (a0_1 + a1_1)) != 0)))=some (r1,r2,r3):=h
 clear h
 simp only [Option.some.injEq,Prod.mk.injEq] at H
 obtain ⟨rfl,rfl,rfl⟩:=H
 go_enter Tryd.func68,Tryd.ntmps68
 try go_wp2_with (first|((with_reducible refine gate_dst (N:=2) rfl ?_);refine box_event ?hg (N:=2) ?hd (cs:=#[.slice A0_0 l0_0.length c0_0,.int .i64 a0_1]) (t:=31) ?hr ?_;(case hd=>rfl);(case hg=>rfl);(case hr=>first|(go_simp;done)|(go_simp;rfl));intro gb347 hg w3 hbox hb;have n0_:=Aside0.mk (Kd.V_below (Kd.V_elderB (zV HO0_0.out) gb347 (Nat.le_of_eq hg.symm)) hb);have n1_:=Aside0.mk (below_step zhb hb);have n2_:=Aside0.mk (hbox);have n3_:=Aside0.mk ((by rw [hg];exact (below_size zhb):w.heap.size≤gb347));have n4_:=Aside0.mk ((by rw [hg];exact (below_size zhb):w.heap.size≤gb347));clear HO0_0;clear HB;have HO0_0:=n0_;have HB:=n1_;have BK347:=n2_;have GW347:=n3_;have GE347:=n4_;clear n0_ n1_ n2_ n3_ n4_;clear hb hbox hg)|((with_reducible refine gate_dst (N:=3) rfl ?_);refine box_event ?hg (N:=3) ?hd (cs:=#[.slice A1_0 l1_0.length c1_0,.int .i64 a1_1]) (t:=31) ?hr ?_;(case hd=>rfl);(case hg=>rfl);(case hr=>first|(go_simp;done)|(go_simp;rfl));intro gb348 hg w4 hbox hb;have n0_:=Aside0.mk (Kd.V_below (Kd.V_elderB (zV HO0_0.out) gb348 (Nat.le_of_eq hg.symm)) hb);have n1_:=Aside0.mk (blk_below (g:=gb347) (o:=.cells #[.slice A0_0 l0_0.length c0_0,.int .i64 a0_1] 31 (0,0)) (by (with_reducible repeat (first|refine blk_drewN ?_ _|refine blk_drew ?_|refine blk_alloc ?_ _));exact BK347.out) hb);have n2_:=Aside0.mk (below_step (by repeat (first|(with_reducible first|exact HB.out|apply below_alloc|apply pw_below_drewN|apply below_drew1|refine below_set ?_ GE347.out)|exact HB.out)) hb);have n3_:=Aside0.mk (hbox);have n4_:=Aside0.mk ((by rw [hg];exact (below_size (by repeat (first|(with_reducible first|exact HB.out|apply below_alloc|apply pw_below_drewN|apply below_drew1|refine below_set ?_ GE347.out)|exact HB.out))):w.heap.size≤gb348));have n5_:=Aside0.mk ((by rw [hg];exact (below_size (by repeat (first|(with_reducible first|exact HB.out|apply below_alloc|apply pw_below_drewN|apply below_drew1|refine below_set ?_ GE347.out)|exact HB.out))):w.heap.size≤gb348));have n6_:=Aside0.mk ((by rw [hg];exact Nat.ne_of_lt (blk_lt (g:=gb347) (o:=.cells #[.slice A0_0 l0_0.length c0_0,.int .i64 a0_1] 31 (0,0)) (by (with_reducible repeat (first|refine blk_drewN ?_ _|refine blk_drew ?_|refine blk_alloc ?_ _));exact BK347.out)):gb347≠gb348));have n7_:=Aside0.mk ((by rw [hg];exact Nat.ne_of_gt (blk_lt (g:=gb347) (o:=.cells #[.slice A0_0 l0_0.length c0_0,.int .i64 a0_1] 31 (0,0)) (by (with_reducible repeat (first|refine blk_drewN ?_ _|refine blk_drew ?_|refine blk_alloc ?_ _));exact BK347.out)):gb348≠gb347));clear HO0_0;clear BK347;clear HB;have HO0_0:=n0_;have BK347:=n1_;have HB:=n2_;have BK348:=n3_;have GW348:=n4_;have GE348:=n5_;have NB347_348:=n6_;have NB348_347:=n7_;clear n0_ n1_ n2_ n3_ n4_ n5_ n6_ n7_;clear hb hbox hg)|((with_reducible refine gate_dst (N:=4) rfl ?_);refine box_event ?hg (N:=4) ?hd (cs:=#[.slice none 0 0,.int .i64 0]) (t:=31) ?hr ?_;(case hd=>rfl);(case hg=>rfl);(case hr=>first|(go_simp;done)|(go_simp;rfl));intro gb349 hg w5 hbox hb;have n0_:=Aside0.mk (Kd.V_below (Kd.V_elderB (zV HO0_0.out) gb349 (Nat.le_of_eq hg.symm)) hb);have n1_:=Aside0.mk (blk_below (g:=gb347) (o:=.cells #[.slice A0_0 l0_0.length c0_0,.int .i64 a0_1] 31 (0,0)) (by (with_reducible repeat (first|refine blk_drewN ?_ _|refine blk_drew ?_|refine blk_alloc ?_ _));exact BK347.out) hb);have n2_:=Aside0.mk (blk_below (g:=gb348) (o:=.cells #[.slice A1_0 l1_0.length c1_0,.int .i64 a1_1] 31 (0,0)) (by (with_reducible repeat (first|refine blk_drewN ?_ _|refine blk_drew ?_|refine blk_alloc ?_ _));exact BK348.out) hb);have n3_:=Aside0.mk (below_step (by repeat (first|(with_reducible first|exact HB.out|apply below_alloc|apply pw_below_drewN|apply below_drew1|refine below_set ?_ GE347.out|refine below_set ?_ GE348.out)|exact HB.out)) hb);have n4_:=Aside0.mk (hbox);have n5_:=Aside0.mk ((by rw [hg];exact (below_size (by repeat (first|(with_reducible first|exact HB.out|apply below_alloc|apply pw_below_drewN|apply below_drew1|refine below_set ?_ GE347.out|refine below_set ?_ GE348.out)|exact HB.out))):w.heap.size≤gb349));have n6_:=Aside0.mk ((by rw [hg];exact (below_size (by repeat (first|(with_reducible first|exact HB.out|apply below_alloc|apply pw_below_drewN|apply below_drew1|refine below_set ?_ GE347.out|refine below_set ?_ GE348.out)|exact HB.out))):w.heap.size≤gb349));have n7_:=Aside0.mk ((by rw [hg];exact Nat.ne_of_lt (blk_lt (g:=gb347) (o:=.cells #[.slice A0_0 l0_0.length c0_0,.int .i64 a0_1] 31 (0,0)) (by (with_reducible repeat (first|refine blk_drewN ?_ _|refine blk_drew ?_|refine blk_alloc ?_ _));exact BK347.out)):gb347≠gb349));have n8_:=Aside0.mk ((by rw [hg];exact Nat.ne_of_gt (blk_lt (g:=gb347) (o:=.cells #[.slice A0_0 l0_0.length c0_0,.int .i64 a0_1] 31 (0,0)) (by (with_reducible repeat (first|refine blk_drewN ?_ _|refine blk_drew ?_|refine blk_alloc ?_ _));exact BK347.out)):gb349≠gb347));have n9_:=Aside0.mk ((by rw [hg];exact Nat.ne_of_lt (blk_lt (g:=gb348) (o:=.cells #[.slice A1_0 l1_0.length c1_0,.int .i64 a1_1] 31 (0,0)) (by (with_reducible repeat (first|refine blk_drewN ?_ _|refine blk_drew ?_|refine blk_alloc ?_ _));exact BK348.out)):gb348≠gb349));have n10_:=Aside0.mk ((by rw [hg];exact Nat.ne_of_gt (blk_lt (g:=gb348) (o:=.cells #[.slice A1_0 l1_0.length c1_0,.int .i64 a1_1] 31 (0,0)) (by (with_reducible repeat (first|refine blk_drewN ?_ _|refine blk_drew ?_|refine blk_alloc ?_ _));exact BK348.out)):gb349≠gb348));clear HO0_0;clear BK347;clear BK348;clear HB;have HO0_0:=n0_;have BK347:=n1_;have BK348:=n2_;have HB:=n3_;have BK349:=n4_;have GW349:=n5_;have GE349:=n6_;have NB347_349:=n7_;have NB349_347:=n8_;have NB348_349:=n9_;have NB349_348:=n10_;clear n0_ n1_ n2_ n3_ n4_ n5_ n6_ n7_ n8_ n9_ n10_;clear hb hbox hg))
 have n0_:=Aside0.mk (Kd.V_drew HO0_0.out)
 have n1_:=Aside0.mk (blk_drew BK347.out)
 have n2_:=Aside0.mk (blk_drew BK348.out)
 have n3_:=Aside0.mk (blk_drew BK349.out)
 have n4_:=Aside0.mk (below_drew1 HB.out)
 clear HO0_0
 clear BK347
 clear BK348
 clear BK349
 clear HB
 have HO0_0:=n0_
 have BK347:=n1_
 have BK348:=n2_
 have BK349:=n3_
 have HB:=n4_
 clear n0_ n1_ n2_ n3_ n4_
 refine start_ (n:=16) (S:=fun w'=>w'.cell? ⟨gb347,0,none⟩=some (.slice A0_0 l0_0.length c0_0)∧w'.cell? ⟨gb347,1,none⟩=some (.int .i64 a0_1)∧w'.cell? ⟨gb348,0,none⟩=some (.slice A1_0 l1_0.length c1_0)∧w'.cell? ⟨gb348,1,none⟩=some (.int .i64 a1_1)) (ds:=[]) (zm 16 0) (by kernel_rfl) rfl rfl ⟨(blk_cell BK347.out 0).trans rfl,(blk_cell BK347.out 1).trans rfl,(blk_cell BK348.out 0).trans rfl,(blk_cell BK348.out 1).trans rfl⟩ (fun hHeld=>?_);refine with_tabW impl_together_1.tab1 impl_together_1.bits1 (fun HT_ HW_=>?_)
 generalize w5.drew=w6 at HO0_0 BK347 BK348 BK349 HB hHeld ⊢
 refine zpu 0 6 16 1 ?_
 refine zpu 2 8 16 5 ?_
 refine zpu 4 10 16 21 ?_
 refine zpu 8 14 16 277 ?_
 refine zpu 10 16 16 1301 ?_
 refine zta 1 7 16 1303 ?_
 refine zta 3 9 16 1311 ?_
 refine zta 5 11 16 1343 ?_
 refine zpu 6 12 16 1407 ?_
 refine zpu 7 13 16 1535 ?_
 refine zta 9 15 16 2047 ?_
 refine zta 11 17 16 4095 ?_
 refine zpu 12 18 16 8191 ?_
 refine zpu 13 19 16 16383 ?_
 refine one_ (i:=14) (N:=none) (zm 16 32767) rfl rfl (one_of HT_.out (by kernel_rfl)) (by decide) (fun K hK=>?_)
 have hs7:w6.cell? ⟨gb349,0,none⟩=some (.slice none 0 0):=(blk_cell BK349.out 0).trans rfl
 have hfs7:=blk_frozen BK349.out 0
 have hns7_0:=NB347_349.out
 have hns7_1:=NB348_349.out
 have hms7_0:=NB349_347.out
 have hms7_1:=NB349_348.out
 have hs8:w6.cell? ⟨gb349,1,none⟩=some (.int .i64 0):=(blk_cell BK349.out 1).trans rfl
 have hfs8:=blk_frozen BK349.out 1
 have hns8_0:=NB347_349.out
 have hns8_1:=NB348_349.out
 have hms8_0:=NB349_347.out
 have hms8_1:=NB349_348.out
 refine skip_ (w1:=?_) (by rfl) rfl ?_ ?_
 rotate_left
 ·go_simp
  rfl
 refine hK.out _ _ ⟨((cell_far (p:=⟨gb349,_,none⟩) NB347_349.out _).trans (((cell_far (p:=⟨gb349,_,none⟩) NB347_349.out _).trans (hHeld.1)))),((cell_far (p:=⟨gb349,_,none⟩) NB347_349.out _).trans (((cell_far (p:=⟨gb349,_,none⟩) NB347_349.out _).trans (hHeld.2.1)))),((cell_far (p:=⟨gb349,_,none⟩) NB348_349.out _).trans (((cell_far (p:=⟨gb349,_,none⟩) NB348_349.out _).trans (hHeld.2.2.1)))),((cell_far (p:=⟨gb349,_,none⟩) NB348_349.out _).trans (((cell_far (p:=⟨gb349,_,none⟩) NB348_349.out _).trans (hHeld.2.2.2))))⟩ (fun hHeld=>?_)
 clear hK K
 refine zpu 15 5 16 65535 ?_
 refine done_ (done_of HT_.out (by kernel_rfl)) ?_
 try go_wp2
 refine bodyPost_ret (results_ct rfl _ _ gb349 31 #[.slice A0_0 l0_0.length c0_0,.int .i64 (wrap64 (a0_1 + a1_1))] (0,0) _ rfl (by (with_reducible repeat (first|refine blk_drewN ?_ _|refine blk_drew ?_|refine blk_alloc ?_ _));refine blk_put (cs:=#[.slice A0_0 l0_0.length c0_0,.int .i64 0]) ?_ 1 _ rfl;(with_reducible repeat (first|refine blk_drewN ?_ _|refine blk_drew ?_|refine blk_alloc ?_ _));refine blk_put (cs:=#[.slice none 0 0,.int .i64 0]) ?_ 0 _ rfl;(with_reducible repeat (first|refine blk_drewN ?_ _|refine blk_drew ?_|refine blk_alloc ?_ _));exact BK349.out) Tryd.underlying31 rfl (by kernel_rfl)) rfl ?_
 exact ⟨_,by first|rfl|(simp [errW_none,errW_some] <;> rfl)|(simp [*,errW_none,errW_some] <;> rfl),by (with_reducible repeat (first|apply Kd.V_alloc|apply Kd.V_drewN|apply Kd.V_drew));exact Kd.V_mono (Kd.V_far (p:=⟨gb349,1,none⟩) (Kd.V_far (p:=⟨gb349,0,none⟩) (Kd.V_mono HO0_0.out (fun k_ hk=>(⟨hk,hk.2⟩:_∧k_≠gb349))) (fun _ hk=>hk.2) (.slice A0_0 l0_0.length c0_0)) (fun _ hk=>hk.2) (.int .i64 (wrap64 (a0_1 + a1_1)))) (fun _ hk=>hk.1.1.1.1),by repeat (first|(with_reducible first|exact HB.out|apply below_alloc|apply pw_below_drewN|apply below_drew1|refine below_set ?_ GE347.out|refine below_set ?_ GE348.out|refine below_set ?_ GE349.out)|exact HB.out)⟩

end Go.Proofs.YtlknceioincaeaaDoor.PFnJoin
