-- Written by wip/tools/pp.py, a program of this session over the kit's printer: not the kit's own print
import Derived.Test.YtaifnkapbffmaaaPFnZTwicex0
import Derived.Test.YtaifnkapbffmaaaPFnZTwicex7
import Derived.Test.YtaifnkapbffmaaaPFnZTwicex8
import Derived.Test.YtaifnkapbffmaaaPFnZTwicex11
namespace Go.Proofs.Ytaifnkapbffmaaa.PFnZTwice
open Go.RowKit Go.Proofs.YtaifnkapbffmaaaW.PrintWords Go.Proofs.YtaifnkapbffmaaaW.PrintLast Go.Proofs.YtaifnkapbffmaaaW.PrintMore
attribute [local go_sem] max2_int min2_int max_two min_two max_three min_three max_four min_four   -- for this text's walks alone
set_option linter.unusedVariables false
set_option linter.unusedSimpArgs false

/-! ### slices_BinarySearchFunc_impl_Item_impl_Item_int__impl_ZGet_1: function 71 -/
def slices_BinarySearchFunc_impl_Item_impl_Item_int__impl_ZGet_1.l0:Nat→List (S54)→List Int→Int→Int→Int→Option (Int × Bool)
 | 0,_,_,_,_,_=>none
 | k + 1,x0,x1,x8,x9,x10=>if x9 < x10 then (if 0≤(wrap64 ((IntKind.u64.wrap (wrap64 (x9 + x10))) / 2)) then (if (wrap64 ((IntKind.u64.wrap (wrap64 (x9 + x10))) / 2)) < (x0.length:Int) then ((impl_ZGet_1.f k ((rd_T54 x0 (wrap64 ((IntKind.u64.wrap (wrap64 (x9 + x10))) / 2))).f0) ((rd_T54 x0 (wrap64 ((IntKind.u64.wrap (wrap64 (x9 + x10))) / 2))).f1) x1).bind fun t351=>(if t351 < 0 then (slices_BinarySearchFunc_impl_Item_impl_Item_int__impl_ZGet_1.l0 k x0 x1 x8 (wrap64 ((wrap64 ((IntKind.u64.wrap (wrap64 (x9 + x10))) / 2)) + 1)) x10) else (slices_BinarySearchFunc_impl_Item_impl_Item_int__impl_ZGet_1.l0 k x0 x1 x8 x9 (wrap64 ((IntKind.u64.wrap (wrap64 (x9 + x10))) / 2))))) else (none)) else (none)) else (if x9 < x8 then (if 0≤x9 then (if x9 < (x0.length:Int) then ((impl_ZGet_1.f k ((rd_T54 x0 x9).f0) ((rd_T54 x0 x9).f1) x1).bind fun t353=>(some (x9,(t353 == 0)))) else (none)) else (none)) else (some (x9,false)))
def slices_BinarySearchFunc_impl_Item_impl_Item_int__impl_ZGet_1.f (k:Nat) (l0:List (S54)) (l1:List Int) :Option (Int × Bool):=slices_BinarySearchFunc_impl_Item_impl_Item_int__impl_ZGet_1.l0 k l0 l1 (l0.length:Int) 0 (l0.length:Int)
theorem slices_BinarySearchFunc_impl_Item_impl_Item_int__impl_ZGet_1.mono_l : ∀ k,(∀ y0 y1 y2 y3 y4,LeO (slices_BinarySearchFunc_impl_Item_impl_Item_int__impl_ZGet_1.l0 k y0 y1 y2 y3 y4) (slices_BinarySearchFunc_impl_Item_impl_Item_int__impl_ZGet_1.l0 (k + 1) y0 y1 y2 y3 y4))
 | 0=>fun _ _ _ _ _ r h=>by simp [slices_BinarySearchFunc_impl_Item_impl_Item_int__impl_ZGet_1.l0] at h
 | k + 1=>by
  have ih0:=slices_BinarySearchFunc_impl_Item_impl_Item_int__impl_ZGet_1.mono_l k
  ·intro y0 y1 y2 y3 y4
   unfold slices_BinarySearchFunc_impl_Item_impl_Item_int__impl_ZGet_1.l0
   repeat' first
   | (with_reducible exact ih0 _ _ _ _ _)
   | (with_reducible exact impl_ZGet_1.mono _ _ _ _)
   | (with_reducible exact LeO.refl _)
   | (with_reducible exact LeO.none _)
   | (with_reducible refine LeO.ite ?_ ?_)
   | (with_reducible refine LeO.bind ?_ (fun _=>?_))
   | exact LeO.none _
   | refine LeO.ite ?_ ?_
   | refine LeO.bind ?_ (fun _=>?_)
theorem slices_BinarySearchFunc_impl_Item_impl_Item_int__impl_ZGet_1.mono : ∀ a0 a1 k,LeO (slices_BinarySearchFunc_impl_Item_impl_Item_int__impl_ZGet_1.f k a0 a1) (slices_BinarySearchFunc_impl_Item_impl_Item_int__impl_ZGet_1.f (k + 1) a0 a1):=by
 intro a0 a1 k
 have ih0:=slices_BinarySearchFunc_impl_Item_impl_Item_int__impl_ZGet_1.mono_l k
 unfold slices_BinarySearchFunc_impl_Item_impl_Item_int__impl_ZGet_1.f
 repeat' first
   | (with_reducible exact ih0 _ _ _ _ _)
   | (with_reducible exact impl_ZGet_1.mono _ _ _ _)
   | (with_reducible exact LeO.refl _)
   | (with_reducible exact LeO.none _)
   | (with_reducible refine LeO.ite ?_ ?_)
   | (with_reducible refine LeO.bind ?_ (fun _=>?_))
   | exact LeO.none _
   | refine LeO.ite ?_ ?_
   | refine LeO.bind ?_ (fun _=>?_)
set_option maxHeartbeats 8000000 in
set_option maxRecDepth 100000 in
theorem slices_BinarySearchFunc_impl_Item_impl_Item_int__impl_ZGet_1.calls (k:Nat) (A0:Option Addr) (c0:Nat) (l0:List (S54)) (A1:Option Addr) (c1:Nat) (l1:List Int)  (r1:Int) (r2:Bool) (w:World) (hr0:Kd.C k54 w A0 l0.length l0) (hc0:l0.length≤c0) (hr1:Kd.C (Kd.int .i64) w A1 l1.length l1) (hc1:l1.length≤c1) (h:slices_BinarySearchFunc_impl_Item_impl_Item_int__impl_ZGet_1.f k l0 l1=some (r1,r2)) :
  Calls Try.prog 71 #[.slice A0 l0.length c0,.slice A1 l1.length c1,.func (.func 72) #[] #[]] w fun e w'=>e=.returned (.tuple #[.int .i64 r1,.bool r2])∧Below w.heap.size w w':=by
 have hu54:=Try.underlying54
 have HR0:=Aside0.mk hr0
 have HC0:=Aside0.mk hc0
 clear hr0 hc0
 have HR1:=Aside0.mk hr1
 have HC1:=Aside0.mk hc1
 clear hr1 hc1
 have HB:=Aside0.mk (Below.refl w.heap.size w)
 have H:(slices_BinarySearchFunc_impl_Item_impl_Item_int__impl_ZGet_1.l0 k l0 l1 (l0.length:Int) 0 (l0.length:Int))=some (r1,r2):=h
 clear h
 have H':=Aside0.mk H
 clear H
 go_enter Try.func71,Try.ntmps71
 go_wp2
 go_loopg [9,10] k (fun kq v9 v10 w'=>∃ (x9_1:Int) (x10_1:Int),v9=.int .i64 x9_1∧v10=.int .i64 x10_1∧Aside0 (slices_BinarySearchFunc_impl_Item_impl_Item_int__impl_ZGet_1.l0 kq l0 l1 (l0.length:Int) x9_1 x10_1=some (r1,r2))∧Aside0 (kq≤k)∧Aside0 (Below w.heap.size w w'))
 case atStart=>exact ⟨(0),((l0.length:Int)),(by first|rfl|(simp;done)|(simp [*];done)),(by first|rfl|(simp;done)|(simp [*];done)),H',⟨Nat.le_refl _⟩,⟨zhb⟩⟩
 case round =>
  clear H'
  try clear c1
  try clear p2
  obtain ⟨x9_1,x10_1,rfl,rfl,HA,HK1,HB⟩:=hrel
  cases gk with
  | zero=>exact absurd HA.out (by simp [slices_BinarySearchFunc_impl_Item_impl_Item_int__impl_ZGet_1.l0])
  | succ k1 =>
   have H:=HA.out
   clear HA
   simp only [slices_BinarySearchFunc_impl_Item_impl_Item_int__impl_ZGet_1.l0] at H
   by_cases c4:x9_1 < x10_1
   ·rw [if_pos c4] at H
    have c4b0:decide (x9_1 < x10_1)=true:=decide_eq_true c4
    clear c4
    obtain ⟨ji5,hji5⟩ : ∃ j_:Int,(wrap64 ((IntKind.u64.wrap (wrap64 (x9_1 + x10_1))) / 2))=j_:=⟨_,rfl⟩
    replace H:(if 0≤(ji5) then (if (ji5) < (l0.length:Int) then ((impl_ZGet_1.f k1 ((rd_T54 l0 (ji5)).f0) ((rd_T54 l0 (ji5)).f1) l1).bind fun t351=>(if t351 < 0 then (slices_BinarySearchFunc_impl_Item_impl_Item_int__impl_ZGet_1.l0 k1 l0 l1 (l0.length:Int) (wrap64 ((ji5) + 1)) x10_1) else (slices_BinarySearchFunc_impl_Item_impl_Item_int__impl_ZGet_1.l0 k1 l0 l1 (l0.length:Int) x9_1 ji5))) else (none)) else (none))=some (r1,r2):=by first|(rw [hji5] at H;exact H)|(simp only [hji5] at H ⊢;exact H)
    have hji5w:(IntKind.i64.wrap ((IntKind.u64.wrap (wrap64 (x9_1 + x10_1))) / 2))=ji5:=(i64_w _).trans hji5
    by_cases c6:0≤(ji5)
    ·rw [if_pos c6] at H
     have c6b0:decide (0≤(ji5))=true:=decide_eq_true c6
     clear c6
     by_cases c7:(ji5) < (l0.length:Int)
     ·rw [if_pos c7] at H
      have c7b0:decide ((ji5) < (l0.length:Int))=true:=decide_eq_true c7
      clear c7
      replace H:=Option.bind_eq_some_iff.mp H
      obtain ⟨t351,A80,H⟩:=H
      (try dsimp only at H)
      have A8:=Aside0.mk A80
      clear A80
      by_cases c9:t351 < 0
      ·rw [if_pos c9] at H
       have c9b0:decide (t351 < 0)=true:=decide_eq_true c9
       clear c9
       have H':=Aside0.mk H
       clear H
       have p350:0≤((ji5):Int):=zod
       have q350:(ji5) < (l0.length:Int):=zod
       obtain ⟨ad350,A350_0,c350_0,e350,hx350_0,hx350_1,hl350_0,hi350_0⟩:=at_T54 HR0.out (ji5) p350 q350
       cases e350
       replace hx350_0:=(HB.out.cell (World.block_lt_of_cell? w _ hx350_0)).trans hx350_0
       replace hx350_1:=(HB.out.cell (World.block_lt_of_cell? w _ hx350_1)).trans hx350_1
       have HR350_0:=Aside0.mk hi350_0
       have HC350_0:=Aside0.mk hl350_0
       clear hi350_0 hl350_0
       replace p350:=eq_true p350
       replace q350:=eq_true q350
       go_wp2_with (first|(go_at_call 72;(with_reducible refine (impl_ZGet_1.calls k1 _ _ ((rd_T54 l0 (ji5)).f0) ((rd_T54 l0 (ji5)).f1) _ _ l1 t351 _ ?side1 ?side2 ?side3 ?side4 A8.out).mono ?_);(case side1=>exact zC (Kd.C_below HR350_0.out HB.out));(case side2=>exact HC350_0.out);(case side3=>exact zC (Kd.C_below HR1.out HB.out));(case side4=>exact HC1.out);rintro e w10 ⟨rfl,hb⟩;have n0_:=Aside0.mk (below_step zhb hb);clear HB;have HB:=n0_;clear n0_;(try clear hb);(try clear hb2);(try clear hk);(try clear hi)))
       go_roundg k1
       case measure=>have:=HK1.out;omega
       case rel=>exact ⟨(wrap64 ((ji5) + 1)),(x10_1),(by first|rfl|(simp;done)|(simp only [← hji5] <;> (first|rfl|simp))|(simp [*];done)),(by first|rfl|(simp;done)|(simp [*];done)),H',⟨by have:=HK1.out;omega⟩,⟨zhb⟩⟩
      ·rw [if_neg c9] at H
       have c9b0:decide (t351 < 0)=false:=decide_eq_false c9
       clear c9
       have H':=Aside0.mk H
       clear H
       have p350:0≤((ji5):Int):=zod
       have q350:(ji5) < (l0.length:Int):=zod
       obtain ⟨ad350,A350_0,c350_0,e350,hx350_0,hx350_1,hl350_0,hi350_0⟩:=at_T54 HR0.out (ji5) p350 q350
       cases e350
       replace hx350_0:=(HB.out.cell (World.block_lt_of_cell? w _ hx350_0)).trans hx350_0
       replace hx350_1:=(HB.out.cell (World.block_lt_of_cell? w _ hx350_1)).trans hx350_1
       have HR350_0:=Aside0.mk hi350_0
       have HC350_0:=Aside0.mk hl350_0
       clear hi350_0 hl350_0
       replace p350:=eq_true p350
       replace q350:=eq_true q350
       go_wp2_with (first|(go_at_call 72;(with_reducible refine (impl_ZGet_1.calls k1 _ _ ((rd_T54 l0 (ji5)).f0) ((rd_T54 l0 (ji5)).f1) _ _ l1 t351 _ ?side1 ?side2 ?side3 ?side4 A8.out).mono ?_);(case side1=>exact zC (Kd.C_below HR350_0.out HB.out));(case side2=>exact HC350_0.out);(case side3=>exact zC (Kd.C_below HR1.out HB.out));(case side4=>exact HC1.out);rintro e w11 ⟨rfl,hb⟩;have n0_:=Aside0.mk (below_step zhb hb);clear HB;have HB:=n0_;clear n0_;(try clear hb);(try clear hb2);(try clear hk);(try clear hi)))
       go_roundg k1
       case measure=>have:=HK1.out;omega
       case rel=>exact ⟨(x9_1),(ji5),(by first|rfl|(simp;done)|(simp [*];done)),(by first|rfl|(simp;done)|(simp only [← hji5] <;> (first|rfl|simp))|(simp [*];done)),H',⟨by have:=HK1.out;omega⟩,⟨zhb⟩⟩
     ·rw [if_neg c7] at H
      exact absurd H (by simp)
    ·rw [if_neg c6] at H
     exact absurd H (by simp)
   ·rw [if_neg c4] at H
    have c4b0:decide (x9_1 < x10_1)=false:=decide_eq_false c4
    clear c4
    by_cases c12:x9_1 < (l0.length:Int)
    ·rw [if_pos c12] at H
     have c12b0:decide (x9_1 < (l0.length:Int))=true:=decide_eq_true c12
     clear c12
     by_cases c13:0≤x9_1
     ·rw [if_pos c13] at H
      have c13b0:decide (0≤x9_1)=true:=decide_eq_true c13
      clear c13
      by_cases c14:x9_1 < (l0.length:Int)
      ·rw [if_pos c14] at H
       have c14b0:decide (x9_1 < (l0.length:Int))=true:=decide_eq_true c14
       clear c14
       replace H:=Option.bind_eq_some_iff.mp H
       obtain ⟨t353,A150,H⟩:=H
       (try dsimp only at H)
       have A15:=Aside0.mk A150
       clear A150
       simp only [Option.some.injEq,Prod.mk.injEq] at H
       obtain ⟨rfl,rfl⟩:=H
       have p352:0≤(x9_1:Int):=zod
       have q352:x9_1 < (l0.length:Int):=zod
       obtain ⟨ad352,A352_0,c352_0,e352,hx352_0,hx352_1,hl352_0,hi352_0⟩:=at_T54 HR0.out x9_1 p352 q352
       cases e352
       replace hx352_0:=(HB.out.cell (World.block_lt_of_cell? w _ hx352_0)).trans hx352_0
       replace hx352_1:=(HB.out.cell (World.block_lt_of_cell? w _ hx352_1)).trans hx352_1
       have HR352_0:=Aside0.mk hi352_0
       have HC352_0:=Aside0.mk hl352_0
       clear hi352_0 hl352_0
       replace p352:=eq_true p352
       replace q352:=eq_true q352
       go_wp2_with (first|(go_at_call 72;(with_reducible refine (impl_ZGet_1.calls k1 _ _ ((rd_T54 l0 x9_1).f0) ((rd_T54 l0 x9_1).f1) _ _ l1 t353 _ ?side1 ?side2 ?side3 ?side4 A15.out).mono ?_);(case side1=>exact zC (Kd.C_below HR352_0.out HB.out));(case side2=>exact HC352_0.out);(case side3=>exact zC (Kd.C_below HR1.out HB.out));(case side4=>exact HC1.out);rintro e w16 ⟨rfl,hb⟩;have n0_:=Aside0.mk (below_step zhb hb);clear HB;have HB:=n0_;clear n0_;(try clear hb);(try clear hb2);(try clear hk);(try clear hi)))
       go_ret2
       exact ⟨by first|rfl|(simp [errW_none,errW_some] <;> rfl)|(simp [*,errW_none,errW_some] <;> rfl),zhb⟩
      ·rw [if_neg c14] at H
       exact absurd H (by simp)
     ·rw [if_neg c13] at H
      exact absurd H (by simp)
    ·rw [if_neg c12] at H
     have c12b0:decide (x9_1 < (l0.length:Int))=false:=decide_eq_false c12
     clear c12
     simp only [Option.some.injEq,Prod.mk.injEq] at H
     obtain ⟨rfl,rfl⟩:=H
     go_wp2
     go_ret2
     exact ⟨by first|rfl|(simp [errW_none,errW_some] <;> rfl)|(simp [*,errW_none,errW_some] <;> rfl),zhb⟩

/-! ### impl_ZGet: function 30 -/
def impl_ZGet.f (k:Nat) (l0:List (S54)) (l1:List Int):Option (Int):=(impl_ZOk.f k l0).bind fun t354=>(if t354=true then ((slices_BinarySearchFunc_impl_Item_impl_Item_int__impl_ZGet_1.f k l0 l1).bind fun bt355=>(if bt355.2=true then (if 0≤bt355.1 then (if bt355.1 < (l0.length:Int) then (some ((rd_T54 l0 bt355.1).f1)) else (none)) else (none)) else (some 0))) else (some 0))
theorem impl_ZGet.mono : ∀ a0 a1 k,LeO (impl_ZGet.f k a0 a1) (impl_ZGet.f (k + 1) a0 a1):=by
 intro a0 a1 k
 unfold impl_ZGet.f
 repeat' first
   | (with_reducible exact impl_ZOk.mono _ _)
   | (with_reducible exact slices_BinarySearchFunc_impl_Item_impl_Item_int__impl_ZGet_1.mono _ _ _)
   | (with_reducible exact LeO.refl _)
   | (with_reducible exact LeO.none _)
   | (with_reducible refine LeO.ite ?_ ?_)
   | (with_reducible refine LeO.bind ?_ (fun _=>?_))
   | exact LeO.none _
   | refine LeO.ite ?_ ?_
   | refine LeO.bind ?_ (fun _=>?_)
set_option maxHeartbeats 8000000 in
set_option maxRecDepth 100000 in
theorem impl_ZGet.calls (k:Nat) (A0:Option Addr) (c0:Nat) (l0:List (S54)) (A1:Option Addr) (c1:Nat) (l1:List Int) (r:Int) (w:World) (hr0:Kd.C k54 w A0 l0.length l0) (hc0:l0.length≤c0) (hr1:Kd.C (Kd.int .i64) w A1 l1.length l1) (hc1:l1.length≤c1) (h:impl_ZGet.f k l0 l1=some r) :
  Calls Try.prog 30 #[.slice A0 l0.length c0,.slice A1 l1.length c1] w fun e w'=>e=.returned (.int .i64 r)∧Below w.heap.size w w':=by
 have HR0:=Aside0.mk hr0
 have HC0:=Aside0.mk hc0
 clear hr0 hc0
 have HR1:=Aside0.mk hr1
 have HC1:=Aside0.mk hc1
 clear hr1 hc1
 have HB:=Aside0.mk (Below.refl w.heap.size w)
 have H:((impl_ZOk.f k l0).bind fun t354=>(if t354=true then ((slices_BinarySearchFunc_impl_Item_impl_Item_int__impl_ZGet_1.f k l0 l1).bind fun bt355=>(if bt355.2=true then (if 0≤bt355.1 then (if bt355.1 < (l0.length:Int) then (some ((rd_T54 l0 bt355.1).f1)) else (none)) else (none)) else (some 0))) else (some 0)))=some r:=h
 clear h
 replace H:=Option.bind_eq_some_iff.mp H
 obtain ⟨t354,A30,H⟩:=H
 (try dsimp only at H)
 have A3:=Aside0.mk A30
 clear A30
 by_cases c4:t354=true
 ·subst c4
  have H1:((slices_BinarySearchFunc_impl_Item_impl_Item_int__impl_ZGet_1.f k l0 l1).bind fun bt355=>(if bt355.2=true then (if 0≤bt355.1 then (if bt355.1 < (l0.length:Int) then (some ((rd_T54 l0 bt355.1).f1)) else (none)) else (none)) else (some 0)))=some r:=by rw [if_pos rfl] at H;exact H
  clear H
  have H:=H1
  clear H1
  replace H:=Option.bind_eq_some_iff.mp H
  obtain ⟨⟨t355,t356⟩,A50,H⟩:=H
  (try dsimp only at H)
  have A5:=Aside0.mk A50
  clear A50
  by_cases c6:t356=true
  ·subst c6
   have H1:(if 0≤t355 then (if t355 < (l0.length:Int) then (some ((rd_T54 l0 t355).f1)) else (none)) else (none))=some r:=by rw [if_pos rfl] at H;exact H
   clear H
   have H:=H1
   clear H1
   by_cases c7:0≤t355
   ·rw [if_pos c7] at H
    have c7b0:decide (0≤t355)=true:=decide_eq_true c7
    clear c7
    by_cases c8:t355 < (l0.length:Int)
    ·rw [if_pos c8] at H
     have c8b0:decide (t355 < (l0.length:Int))=true:=decide_eq_true c8
     clear c8
     obtain rfl:=Option.some.inj H
     go_enter Try.func30,Try.ntmps30
     go_wp2_with (first|((with_reducible refine gate_callee (f:=34) rfl ?_);refine goesL_ (some 8) rfl rfl Try.func34 (by kernel_rfl) rfl #[.slice A0 l0.length c0] rfl zar ?_;(with_reducible refine (impl_ZOk.calls k _ _ l0 true _ ?side1 ?side2 A3.out).mono ?_);(case side1=>exact zC HR0.out);(case side2=>exact HC0.out);rintro e w9 ⟨rfl,hb⟩;refine ⟨_,rfl,?_⟩;have n0_:=Aside0.mk (below_step zhb hb);clear HB;have HB:=n0_;clear n0_;(try clear hb);(try clear hb2);(try clear hk);(try clear hi))|(go_at_call 71;(with_reducible refine (slices_BinarySearchFunc_impl_Item_impl_Item_int__impl_ZGet_1.calls k _ _ l0 _ _ l1  t355 true _ ?side1 ?side2 ?side3 ?side4 A5.out).mono ?_);(case side1=>exact zC (Kd.C_below HR0.out HB.out));(case side2=>exact HC0.out);(case side3=>exact zC (Kd.C_below HR1.out HB.out));(case side4=>exact HC1.out);rintro e w10 ⟨rfl,hb⟩;have n0_:=Aside0.mk (below_step zhb hb);clear HB;have HB:=n0_;clear n0_;(try clear hb);(try clear hb2);(try clear hk);(try clear hi);have p357:0≤(t355:Int):=zod;have q357:t355 < (l0.length:Int):=zod;obtain ⟨ad357,A357_0,c357_0,e357,hx357_0,hx357_1,hl357_0,hi357_0⟩:=at_T54 HR0.out t355 p357 q357;cases e357;replace hx357_0:=(HB.out.cell (World.block_lt_of_cell? w _ hx357_0)).trans hx357_0;replace hx357_1:=(HB.out.cell (World.block_lt_of_cell? w _ hx357_1)).trans hx357_1;have HR357_0:=Aside0.mk hi357_0;have HC357_0:=Aside0.mk hl357_0;clear hi357_0 hl357_0;replace p357:=eq_true p357;replace q357:=eq_true q357))
     go_ret
     exact ⟨by first|rfl|(simp [errW_none,errW_some] <;> rfl)|(simp [*,errW_none,errW_some] <;> rfl),zhb⟩
    ·rw [if_neg c8] at H
     exact absurd H (by simp)
   ·rw [if_neg c7] at H
    exact absurd H (by simp)
  ·replace c6:=Bool.eq_false_iff.mpr c6
   subst c6
   have H1:(some 0)=some r:=by rw [if_neg (show ¬ (false=true) by decide)] at H;exact H
   clear H
   have H:=H1
   clear H1
   obtain rfl:=Option.some.inj H
   go_enter Try.func30,Try.ntmps30
   go_wp2_with (first|((with_reducible refine gate_callee (f:=34) rfl ?_);refine goesL_ (some 8) rfl rfl Try.func34 (by kernel_rfl) rfl #[.slice A0 l0.length c0] rfl zar ?_;(with_reducible refine (impl_ZOk.calls k _ _ l0 true _ ?side1 ?side2 A3.out).mono ?_);(case side1=>exact zC HR0.out);(case side2=>exact HC0.out);rintro e w11 ⟨rfl,hb⟩;refine ⟨_,rfl,?_⟩;have n0_:=Aside0.mk (below_step zhb hb);clear HB;have HB:=n0_;clear n0_;(try clear hb);(try clear hb2);(try clear hk);(try clear hi))|(go_at_call 71;(with_reducible refine (slices_BinarySearchFunc_impl_Item_impl_Item_int__impl_ZGet_1.calls k _ _ l0 _ _ l1  t355 false _ ?side1 ?side2 ?side3 ?side4 A5.out).mono ?_);(case side1=>exact zC (Kd.C_below HR0.out HB.out));(case side2=>exact HC0.out);(case side3=>exact zC (Kd.C_below HR1.out HB.out));(case side4=>exact HC1.out);rintro e w12 ⟨rfl,hb⟩;have n0_:=Aside0.mk (below_step zhb hb);clear HB;have HB:=n0_;clear n0_;(try clear hb);(try clear hb2);(try clear hk);(try clear hi)))
   go_ret
   exact ⟨by first|rfl|(simp [errW_none,errW_some] <;> rfl)|(simp [*,errW_none,errW_some] <;> rfl),zhb⟩
 ·replace c4:=Bool.eq_false_iff.mpr c4
  subst c4
  have H1:(some 0)=some r:=by rw [if_neg (show ¬ (false=true) by decide)] at H;exact H
  clear H
  have H:=H1
  clear H1
  obtain rfl:=Option.some.inj H
  go_enter Try.func30,Try.ntmps30
  go_wp2_with (first|((with_reducible refine gate_callee (f:=34) rfl ?_);refine goesL_ (some 8) rfl rfl Try.func34 (by kernel_rfl) rfl #[.slice A0 l0.length c0] rfl zar ?_;(with_reducible refine (impl_ZOk.calls k _ _ l0 false _ ?side1 ?side2 A3.out).mono ?_);(case side1=>exact zC HR0.out);(case side2=>exact HC0.out);rintro e w13 ⟨rfl,hb⟩;refine ⟨_,rfl,?_⟩;have n0_:=Aside0.mk (below_step zhb hb);clear HB;have HB:=n0_;clear n0_;(try clear hb);(try clear hb2);(try clear hk);(try clear hi)))
  go_ret
  exact ⟨by first|rfl|(simp [errW_none,errW_some] <;> rfl)|(simp [*,errW_none,errW_some] <;> rfl),zhb⟩

/-! ### impl_turned: function 75 -/
def impl_turned.l0:Nat→List (S54)→List (S54)→Int→Int→Option ((List (S54)))
 | 0,_,_,_,_=>none
 | k + 1,x3,x6,x7,x8=>if x8 < x7 then (if 0≤x8 then (if x8 < (x6.length:Int) then (if x3.length < 4398046511104 then (impl_turned.l0 k (x3 ++ [(⟨(rd_T54 x6 x8).f0,wrap64 (-((rd_T54 x6 x8).f1))⟩:S54)]) x6 x7 (wrap64 (x8 + 1))) else (none)) else (none)) else (none)) else (some x3)
def impl_turned.f (k:Nat) (l0:List (S54)):Option ((List (S54))):=impl_turned.l0 k ([]:List (S54)) l0 (l0.length:Int) 0
theorem impl_turned.mono_l : ∀ k,(∀ y0 y1 y2 y3,LeO (impl_turned.l0 k y0 y1 y2 y3) (impl_turned.l0 (k + 1) y0 y1 y2 y3))
 | 0=>fun _ _ _ _ r h=>by simp [impl_turned.l0] at h
 | k + 1=>by
  have ih0:=impl_turned.mono_l k
  ·intro y0 y1 y2 y3
   unfold impl_turned.l0
   repeat' first
   | (with_reducible exact ih0 _ _ _ _)
   | (with_reducible exact LeO.refl _)
   | (with_reducible exact LeO.none _)
   | (with_reducible refine LeO.ite ?_ ?_)
   | (with_reducible refine LeO.bind ?_ (fun _=>?_))
   | exact LeO.none _
   | refine LeO.ite ?_ ?_
   | refine LeO.bind ?_ (fun _=>?_)
theorem impl_turned.mono : ∀ a0 k,LeO (impl_turned.f k a0) (impl_turned.f (k + 1) a0):=by
 intro a0 k
 have ih0:=impl_turned.mono_l k
 unfold impl_turned.f
 repeat' first
   | (with_reducible exact ih0 _ _ _ _)
   | (with_reducible exact LeO.refl _)
   | (with_reducible exact LeO.none _)
   | (with_reducible refine LeO.ite ?_ ?_)
   | (with_reducible refine LeO.bind ?_ (fun _=>?_))
   | exact LeO.none _
   | refine LeO.ite ?_ ?_
   | refine LeO.bind ?_ (fun _=>?_)
set_option maxHeartbeats 8000000 in
set_option maxRecDepth 100000 in
theorem impl_turned.calls (k:Nat) (P0_:Nat→Prop) (A0:Option Addr) (c0:Nat) (l0:List (S54)) (r:List (S54)) (w:World) (hs0:Kd.V k54 54 w w.heap.size (fun k_=>P0_ k_) (.slice A0 l0.length c0) l0) (h:impl_turned.f k l0=some r) :
  Calls Try.prog 75 #[.slice A0 l0.length c0] w fun e w'=>∃ v0_:Value,e=.returned (v0_)∧Kd.N k54 54 w' w.heap.size (fun k_=>(P0_ k_∨w.heap.size≤k_)) v0_ r∧Below w.heap.size w w':=by
 have hu54:=Try.underlying54
 have HO0:=Aside0.mk (show Kd.V k54 54 w w.heap.size (fun k_=>(P0_ k_∨w.heap.size≤k_)) (.slice A0 l0.length c0) l0 from Kd.V_mono hs0 (fun k_ hk=>.inl hk))
 have HB:=Aside0.mk (Below.refl w.heap.size w)
 have H:(impl_turned.l0 k ([]:List (S54)) l0 (l0.length:Int) 0)=some r:=h
 clear h
 have H':=Aside0.mk H
 clear H
 go_enter Try.func75,Try.ntmps75
 go_wp2
 go_loopg [3,8] k (fun kq v3 v8 w'=>∃ (x3_1:List (S54)) (x8_1:Int),v8=.int .i64 x8_1∧Aside0 (impl_turned.l0 kq x3_1 l0 (l0.length:Int) x8_1=some r)∧Aside0 (kq≤k)∧Aside0 (Kd.N k54 54 w' w.heap.size (fun k_=>(P0_ k_∨w.heap.size≤k_)) v3 x3_1)∧Aside0 (Kd.V k54 54 w' w.heap.size (fun k_=>(P0_ k_∨w.heap.size≤k_)∧some k_≠(v3:Value).ownBlock) (.slice A0 l0.length c0) l0)∧Aside0 (Below w.heap.size w w'))
 case atStart=>exact ⟨(([]:List (S54))),(0),(by first|rfl|(simp;done)|(simp [*];done)),H',⟨Nat.le_refl _⟩,⟨by first|exact Kd.S_nil _ _ _ _ _|exact Kd.N_nil _ _ _ _ _|exact Kd.V_nil _ _ _ _ _|exact Kd.Q_nil _ _ _ _ _|exact Kd.R_nil _ _ _ _ _⟩,⟨by (with_reducible repeat (first|apply Kd.V_alloc|apply Kd.V_drewN|apply Kd.V_drew));exact Kd.V_mono HO0.out (fun _ hk=>⟨hk,(by simp [Value.ownBlock])⟩)⟩,⟨zhb⟩⟩
 case round =>
  clear H'
  obtain ⟨x3_1,x8_1,rfl,HA,HK1,HO_3,HO_6,HB⟩:=hrel
  cases gk with
  | zero=>exact absurd HA.out (by simp [impl_turned.l0])
  | succ k1 =>
   have H:=HA.out
   clear HA
   simp only [impl_turned.l0] at H
   by_cases c2:x8_1 < (l0.length:Int)
   ·rw [if_pos c2] at H
    have c2b0:decide (x8_1 < (l0.length:Int))=true:=decide_eq_true c2
    clear c2
    by_cases c3:0≤x8_1
    ·rw [if_pos c3] at H
     have c3b0:decide (0≤x8_1)=true:=decide_eq_true c3
     clear c3
     by_cases c4:x8_1 < (l0.length:Int)
     ·rw [if_pos c4] at H
      have c4b0:decide (x8_1 < (l0.length:Int))=true:=decide_eq_true c4
      clear c4
      by_cases c5:x3_1.length < 4398046511104
      ·rw [if_pos c5] at H
       have LMc5:=Aside0.mk c5
       clear c5
       obtain ⟨y360,hy360⟩ : ∃ y_:List (S54),y_=(x3_1 ++ [(⟨(rd_T54 l0 x8_1).f0,wrap64 (-((rd_T54 l0 x8_1).f1))⟩:S54)]):=⟨_,rfl⟩
       replace H:(impl_turned.l0 k1 y360 l0 (l0.length:Int) (wrap64 (x8_1 + 1)))=some r:=by first|(rw [hy360];with_reducible exact H)|(have H2_:=(Option.bind_some _ _).symm.trans H;rw [hy360];with_reducible exact H2_)|(have H2_:=(Option.bind_some _ _).symm.trans H;with_reducible exact H2_)|with_reducible exact H|(rw [hy360];exact H)|exact H
       have Ny360:=Aside0.mk hy360
       clear hy360
       have H':=Aside0.mk H
       clear H
       have p358:0≤(x8_1:Int):=zod
       have q358:x8_1 < (l0.length:Int):=zod
       obtain ⟨ad358,A358_0,c358_0,e358,hx358_0,hx358_1,hl358_0,hi358_0⟩:=at_T54 (Kd.V_reads' HO_6.out).2.2 x8_1 p358 q358
       cases e358
       obtain ⟨ce358,hce358,hMe358,hcc358⟩:=Kd.V_get HO_6.out z54 x8_1 p358 (by first|exact q358|exact zod|(have e_:=(Kd.V_reads' HO_6.out).1;omega))
       obtain ⟨ua358_0,uc358_0,rfl,ul358_0,ge358_0⟩:=k54_openF hMe358
       have hv358_0:=hcc358 0 _ rfl
       rw [Nat.add_zero] at hv358_0
       replace hv358_0:=Option.some.inj (hv358_0.symm.trans hx358_0)
       injection hv358_0 with hva_ hvn_ hvc_
       rw [hva_] at ge358_0
       rw [hvc_] at ul358_0
       have HL358_0:=Aside0.mk (show Kd.V (Kd.int .i64) 3 _ w.heap.size _ _ ((rd_T54 l0 x8_1).f0) from Kd.V_mk ul358_0 ge358_0)
       clear hva_ hvn_ hvc_ ge358_0 ul358_0
       clear hcc358 hce358
       have HR358_0:=Aside0.mk hi358_0
       have HC358_0:=Aside0.mk hl358_0
       clear hi358_0 hl358_0
       replace p358:=eq_true p358
       replace q358:=eq_true q358
       go_wp2_with (first|((with_reducible refine gate_dst (N:=5) rfl ?_);refine box_event ?hg (N:=5) ?hd (cs:=#[.slice none 0 0,.int .i64 0]) (t:=54) ?hr ?_;(case hd=>rfl);(case hg=>rfl);(case hr=>first|(go_simp;done)|(go_simp;rfl));intro gb359 hg w6 hbox hb;have n0_:=Aside0.mk (Kd.N_below (Kd.N_elderB (zN HO_3.out) gb359 (Nat.le_of_eq hg.symm)) hb);have n1_:=Aside0.mk (Kd.V_below (Kd.V_elderB (zV HO_6.out) gb359 (Nat.le_of_eq hg.symm)) hb);have n2_:=Aside0.mk (Kd.V_below (Kd.V_elderB (zV HL358_0.out) gb359 (Nat.le_of_eq hg.symm)) hb);have n3_:=Aside0.mk (Kd.C_below (zC HR358_0.out) hb);have n4_:=Aside0.mk (below_step zhb hb);have n5_:=Aside0.mk (hbox);have n6_:=Aside0.mk ((by rw [hg];exact (below_size zhb):w.heap.size≤gb359));have n7_:=Aside0.mk ((by rw [hg];exact (below_size zhb):w.heap.size≤gb359));clear HO_3;clear HO_6;clear HL358_0;clear HR358_0;clear HB;have HO_3:=n0_;have HO_6:=n1_;have HL358_0:=n2_;have HR358_0:=n3_;have HB:=n4_;have BK359:=n5_;have GW359:=n6_;have GE359:=n7_;clear n0_ n1_ n2_ n3_ n4_ n5_ n6_ n7_;clear hb hbox hg;have hcz7_0:w6.cell? ⟨gb359,0,none⟩=some (.slice none 0 0):=(blk_cell BK359.out 0).trans rfl;have hcz7_1:w6.cell? ⟨gb359,1,none⟩=some (.int .i64 0):=(blk_cell BK359.out 1).trans rfl;have hfz7_0:=blk_frozen BK359.out 0;have hfz7_1:=blk_frozen BK359.out 1)|((with_reducible refine gate_store (t:=54) (p:=5) rfl ?_);refine store_event (t:=54) (p:=5) (v:=?vo_w8) (w1:=((w6.setCell ⟨gb359,0,none⟩ (.slice A358_0 ((rd_T54 l0 x8_1).f0).length c358_0)).setCell ⟨gb359,1,none⟩ (.int .i64 ((rd_T54 l0 x8_1).f1)))) ?hg ?ho ?hn ?hr ?_;(case ho=>rfl);(case hg=>rfl);(case hn=>rfl);(case hr=>first|(go_simp;done)|(go_simp;rfl));intro w8 hw;have n0_:Aside0 (Kd.N k54 54 w8 w.heap.size (fun k_=>(P0_ k_∨w.heap.size≤k_)∧k_≠gb359) u3 x3_1):=⟨(by rw [hw];exact (by (with_reducible repeat (first|apply Kd.N_alloc|apply Kd.N_drewN|apply Kd.N_drew));exact Kd.N_mono (Kd.N_far (p:=⟨gb359,1,none⟩) (Kd.N_far (p:=⟨gb359,0,none⟩) (Kd.N_mono HO_3.out (fun k_ hk=>(⟨hk,hk.2⟩:_∧k_≠gb359))) (fun _ hk=>hk.2) (.slice A358_0 ((rd_T54 l0 x8_1).f0).length c358_0)) (fun _ hk=>hk.2) (.int .i64 ((rd_T54 l0 x8_1).f1))) (fun _ hk=>⟨hk.1.1,hk.1.2⟩)))⟩;have n1_:Aside0 (Kd.V k54 54 w8 w.heap.size (fun k_=>(P0_ k_∨w.heap.size≤k_)∧some k_≠(u3:Value).ownBlock∧k_≠gb359) (.slice (some ad358) l0.length c0) l0):=⟨(by rw [hw];exact (by (with_reducible repeat (first|apply Kd.V_alloc|apply Kd.V_drewN|apply Kd.V_drew));exact Kd.V_mono (Kd.V_far (p:=⟨gb359,1,none⟩) (Kd.V_far (p:=⟨gb359,0,none⟩) (Kd.V_mono HO_6.out (fun k_ hk=>(⟨hk,hk.2⟩:_∧k_≠gb359))) (fun _ hk=>hk.2) (.slice A358_0 ((rd_T54 l0 x8_1).f0).length c358_0)) (fun _ hk=>hk.2) (.int .i64 ((rd_T54 l0 x8_1).f1))) (fun _ hk=>⟨hk.1.1.1,⟨hk.1.1.2,hk.1.2⟩⟩)))⟩;have n2_:Aside0 (Kd.V (Kd.int .i64) 3 w8 w.heap.size (fun k_=>(P0_ k_∨w.heap.size≤k_)∧some k_≠(u3:Value).ownBlock∧k_≠gb359) (.slice A358_0 ((rd_T54 l0 x8_1).f0).length c358_0) ((rd_T54 l0 x8_1).f0)):=⟨(by rw [hw];exact (by (with_reducible repeat (first|apply Kd.V_alloc|apply Kd.V_drewN|apply Kd.V_drew));exact Kd.V_mono (Kd.V_far (p:=⟨gb359,1,none⟩) (Kd.V_far (p:=⟨gb359,0,none⟩) (Kd.V_mono HL358_0.out (fun k_ hk=>(⟨hk,hk.2⟩:_∧k_≠gb359))) (fun _ hk=>hk.2) (.slice A358_0 ((rd_T54 l0 x8_1).f0).length c358_0)) (fun _ hk=>hk.2) (.int .i64 ((rd_T54 l0 x8_1).f1))) (fun _ hk=>⟨hk.1.1.1,⟨hk.1.1.2,hk.1.2⟩⟩)))⟩;have n3_:Aside0 (w8.heap[gb359]?=some (.cells #[.slice A358_0 ((rd_T54 l0 x8_1).f0).length c358_0,.int .i64 ((rd_T54 l0 x8_1).f1)] 54 (0,0))):=⟨(by rw [hw];exact (by (with_reducible repeat (first|refine blk_drewN ?_ _|refine blk_drew ?_|refine blk_alloc ?_ _));refine blk_put (cs:=#[.slice A358_0 ((rd_T54 l0 x8_1).f0).length c358_0,.int .i64 0]) ?_ 1 _ rfl;(with_reducible repeat (first|refine blk_drewN ?_ _|refine blk_drew ?_|refine blk_alloc ?_ _));refine blk_put (cs:=#[.slice none 0 0,.int .i64 0]) ?_ 0 _ rfl;(with_reducible repeat (first|refine blk_drewN ?_ _|refine blk_drew ?_|refine blk_alloc ?_ _));exact BK359.out))⟩;have n4_:Aside0 (Below w.heap.size w w8):=⟨(by rw [hw];exact (by repeat (first|(with_reducible first|exact HB.out|apply below_alloc|apply pw_below_drewN|apply below_drew1|refine below_set ?_ GE359.out)|exact HB.out)))⟩;clear hw;clear HO_3;clear HO_6;clear HL358_0;clear BK359;clear HB;have HO_3:=n0_;have HO_6:=n1_;have HL358_0:=n2_;have BK359:=n3_;have HB:=n4_;clear n0_ n1_ n2_ n3_ n4_;have hcz9_0:w8.cell? ⟨gb359,0,none⟩=some (.slice A358_0 ((rd_T54 l0 x8_1).f0).length c358_0):=(blk_cell BK359.out 0).trans rfl;have hcz9_1:w8.cell? ⟨gb359,1,none⟩=some (.int .i64 ((rd_T54 l0 x8_1).f1)):=(blk_cell BK359.out 1).trans rfl;have hfz9_0:=blk_frozen BK359.out 0;have hfz9_1:=blk_frozen BK359.out 1)|((with_reducible refine gate_builtin (b:=.append) (xs:=#[.tmp 12,.tmp 19]) rfl ?_);at_builtin;refine Kd.N_append k54 (w0:=w) w.heap.size rfl (.tmp 12) (.tmp 19) 24 54 (.agg #[(.slice none 0 0),(.int .i64 0)]) 32 rfl Try.underlying24 info54 rfl (by decide) (by omega) u3 x3_1 (⟨(rd_T54 l0 x8_1).f0,wrap64 (-((rd_T54 l0 x8_1).f1))⟩:S54) [.slice A358_0 ((rd_T54 l0 x8_1).f0).length c358_0,.int .i64 (wrap64 (-((rd_T54 l0 x8_1).f1)))] (fun k_=>(P0_ k_∨w.heap.size≤k_)∧k_≠gb359) (fun k_=>((fun k_=>(P0_ k_∨w.heap.size≤k_)∧k_≠gb359)) k_∧some k_≠(u3:Value).ownBlock) rfl rfl ?aP (fun _ hk=>hk) ?aF ?aO ?aB ?aS ?aL ?_;(case aP=>exact (k54_mkF _ _ (⟨(rd_T54 l0 x8_1).f0,wrap64 (-((rd_T54 l0 x8_1).f1))⟩:S54) (Kd.V_reads' (Kd.V_mono (ok':=(fun k_=>((fun k_=>(P0_ k_∨w.heap.size≤k_)∧k_≠gb359)) k_∧some k_≠(u3:Value).ownBlock)) (HL358_0.out) (fun k_ hk=>⟨⟨hk.1,hk.2.2⟩,hk.2.1⟩))).2.1 (Kd.V_F (Kd.V_mono (ok':=(fun k_=>((fun k_=>(P0_ k_∨w.heap.size≤k_)∧k_≠gb359)) k_∧some k_≠(u3:Value).ownBlock)) (HL358_0.out) (fun k_ hk=>⟨⟨hk.1,hk.2.2⟩,hk.2.1⟩)))));(case aB=>exact (by repeat (first|(with_reducible first|exact HB.out|apply below_alloc|apply pw_below_drewN|apply below_drew1|refine below_set ?_ GE359.out)|exact HB.out)));(case aF=>exact (fun k_ hk=>⟨(.inr (Nat.le_trans (below_size (by repeat (first|(with_reducible first|exact HB.out|apply below_alloc|apply pw_below_drewN|apply below_drew1|refine below_set ?_ GE359.out)|exact HB.out))) hk)),Kd.freshB (g:=gb359) (o:=.cells #[.slice A358_0 ((rd_T54 l0 x8_1).f0).length c358_0,.int .i64 ((rd_T54 l0 x8_1).f1)] 54 (0,0)) (by (with_reducible repeat (first|refine blk_drewN ?_ _|refine blk_drew ?_|refine blk_alloc ?_ _));exact BK359.out) k_ hk⟩));(case aO=>exact (zN HO_3.out));(case aS=>exact (below_size (by repeat (first|(with_reducible first|exact HB.out|apply below_alloc|apply pw_below_drewN|apply below_drew1|refine below_set ?_ GE359.out)|exact HB.out))));(case aL=>have:=LMc5.out;omega);intro v361 w10 ho hb hg hat;rw [← Ny360.out] at ho;have n0_:=Aside0.mk (Kd.V_afterv (ok:=(fun k_=>(P0_ k_∨w.heap.size≤k_)∧k_≠gb359)) (by (with_reducible repeat (first|apply Kd.V_alloc|apply Kd.V_drewN|apply Kd.V_drew));exact Kd.V_mono HO_6.out (fun _ hk=>⟨⟨hk.1,hk.2.2⟩,hk.2.1⟩)) hg hat);have n1_:=Aside0.mk (Kd.V_afterv (ok:=(fun k_=>(P0_ k_∨w.heap.size≤k_)∧k_≠gb359)) (by (with_reducible repeat (first|apply Kd.V_alloc|apply Kd.V_drewN|apply Kd.V_drew));exact Kd.V_mono HL358_0.out (fun _ hk=>⟨⟨hk.1,hk.2.2⟩,hk.2.1⟩)) hg hat);have n2_:=Aside0.mk (blk_grown (g:=gb359) (o:=.cells #[.slice A358_0 ((rd_T54 l0 x8_1).f0).length c358_0,.int .i64 ((rd_T54 l0 x8_1).f1)] 54 (0,0)) (by (with_reducible repeat (first|refine blk_drewN ?_ _|refine blk_drew ?_|refine blk_alloc ?_ _));exact BK359.out) hg (Kd.N_away HO_3.out (fun _ hk=>hk.2)));have n3_:=Aside0.mk (hb);have n4_:=Aside0.mk (ho);clear HO_6;clear HL358_0;clear BK359;clear HB;clear HO_3;have HO_6:=n0_;have HL358_0:=n1_;have BK359:=n2_;have HB:=n3_;have HO362:=n4_;clear n0_ n1_ n2_ n3_ n4_;clear ho hb hg hat))
       go_roundg k1
       case measure=>have:=HK1.out;omega
       case rel=>exact ⟨(y360),(wrap64 (x8_1 + 1)),(by first|rfl|(simp;done)|(simp [*];done)),H',⟨by have:=HK1.out;omega⟩,⟨by (with_reducible repeat (first|apply Kd.N_alloc|apply Kd.N_drewN|apply Kd.N_drew));exact Kd.N_mono HO362.out (fun _ hk=>hk.1)⟩,⟨by (with_reducible repeat (first|apply Kd.V_alloc|apply Kd.V_drewN|apply Kd.V_drew));exact Kd.V_mono HO_6.out (fun _ hk=>⟨hk.1.1,hk.2⟩)⟩,⟨by repeat (first|(with_reducible first|exact HB.out|apply below_alloc|apply pw_below_drewN|apply below_drew1|refine below_set ?_ GE359.out)|exact HB.out)⟩⟩
      ·rw [if_neg c5] at H
       exact absurd H (by simp)
     ·rw [if_neg c4] at H
      exact absurd H (by simp)
    ·rw [if_neg c3] at H
     exact absurd H (by simp)
   ·rw [if_neg c2] at H
    have c2b0:decide (x8_1 < (l0.length:Int))=false:=decide_eq_false c2
    clear c2
    obtain rfl:=Option.some.inj H
    go_wp2
    go_ret
    exact ⟨_,by first|rfl|(simp [errW_none,errW_some] <;> rfl)|(simp [*,errW_none,errW_some] <;> rfl),by (with_reducible repeat (first|apply Kd.N_alloc|apply Kd.N_drewN|apply Kd.N_drew));exact HO_3.out,zhb⟩

/-! ### impl_ZNeg: function 31 (by hand) -/
def impl_ZNeg.f (k:Nat) (l0:List (S54)):Option (List (S54)):=(impl_ZOk.f k l0).bind fun t1=>(if t1=true then ((impl_turned.f k l0).bind fun t2=>(impl_copyItems.f k t2)) else (some []))
theorem impl_ZNeg.mono : ∀ a0 k,LeO (impl_ZNeg.f k a0) (impl_ZNeg.f (k + 1) a0):=by
 intro a0 k
 unfold impl_ZNeg.f
 repeat' first
   | (with_reducible exact impl_ZOk.mono _ _)
   | (with_reducible exact impl_turned.mono _ _)
   | (with_reducible exact impl_copyItems.mono _ _)
   | (with_reducible exact LeO.refl _)
   | (with_reducible refine LeO.ite ?_ ?_)
   | (with_reducible refine LeO.bind ?_ (fun _=>?_))
set_option maxHeartbeats 8000000 in
set_option maxRecDepth 100000 in
theorem impl_ZNeg.calls (k:Nat) (A0:Option Addr) (c0:Nat) (l0:List (S54)) (r:List (S54)) (w:World) (hr0:Kd.C k54 w A0 l0.length l0) (hc0:l0.length≤c0) (h:impl_ZNeg.f k l0=some r) :
  Calls Try.prog 31 #[.slice A0 l0.length c0] w fun e w'=>∃ v0_:Value,e=.returned (v0_)∧Kd.S k54 54 w' w.heap.size (fun _=>True) v0_ r∧Below w.heap.size w w':=by
 unfold impl_ZNeg.f at h
 obtain ⟨t1,h1,h⟩:=Option.bind_eq_some_iff.mp h
 have A1:=Aside0.mk h1
 have HR0:=Aside0.mk hr0
 have HC0:=Aside0.mk hc0
 clear hr0 hc0 h1
 cases t1 with
 | true =>
  rw [if_pos rfl] at h
  obtain ⟨t2,h2,h⟩:=Option.bind_eq_some_iff.mp h
  have A2:=Aside0.mk h2
  have A3:=Aside0.mk h
  clear h2 h
  go_enter Try.func31,Try.ntmps31
  go_wp2_with fail
  refine (impl_ZOk.calls k _ _ l0 true _ HR0.out HC0.out A1.out).mono ?_
  rintro e w1 ⟨rfl,hb⟩
  have HB1:=Aside0.mk hb
  have HR1:=Aside0.mk (Kd.C_below HR0.out hb)
  clear hb
  go_wp2_with fail
  refine (impl_turned.calls k (fun k_=>k_ < w1.heap.size) _ _ l0 t2 _ (Kd.V_mk HC0.out (Kd.C_F k54_heap HR1.out)) A2.out).mono ?_
  rintro e w2 ⟨v2,rfl,ho,hb⟩
  obtain ⟨a2,c2,rfl⟩:=Kd.N_slice ho
  have HB2:=Aside0.mk (below_step HB1.out hb)
  have HO2:=Aside0.mk ho
  clear ho hb
  go_wp2_with fail
  refine (impl_copyItems.calls k _ _ t2 r _ (Kd.N_reads' HO2.out).2.2 (Kd.N_reads' HO2.out).2.1 A3.out).mono ?_
  rintro e w3 ⟨v3,rfl,ho,hb⟩
  have HB3:=Aside0.mk (below_step HB2.out hb)
  have HO3:=Aside0.mk (Kd.S_lower ho HB2.out.size)
  clear ho hb
  go_wp2
  go_ret
  exact ⟨_,rfl,HO3.out,HB3.out⟩
 | false =>
  rw [if_neg (by decide)] at h
  obtain rfl:=Option.some.inj h
  clear h
  go_enter Try.func31,Try.ntmps31
  go_wp2_with fail
  refine (impl_ZOk.calls k _ _ l0 false _ HR0.out HC0.out A1.out).mono ?_
  rintro e w1 ⟨rfl,hb⟩
  have HB1:=Aside0.mk hb
  clear hb
  go_wp2
  go_ret
  exact ⟨_,rfl,Kd.S_nil _ _ _ _ _,HB1.out⟩

/-! ### impl_positive: function 76 -/
def impl_positive.l0:Nat→List (S54)→List (S54)→Int→Int→Option ((List (S54)))
 | 0,_,_,_,_=>none
 | k + 1,x3,x6,x7,x8=>if x8 < x7 then (if 0≤x8 then (if x8 < (x6.length:Int) then (if ((rd_T54 x6 x8).f1) > 0 then (if x3.length < 4398046511104 then (impl_positive.l0 k (x3 ++ [(⟨(rd_T54 x6 x8).f0,1⟩:S54)]) x6 x7 (wrap64 (x8 + 1))) else (none)) else (impl_positive.l0 k x3 x6 x7 (wrap64 (x8 + 1)))) else (none)) else (none)) else (some x3)
def impl_positive.f (k:Nat) (l0:List (S54)):Option ((List (S54))):=impl_positive.l0 k ([]:List (S54)) l0 (l0.length:Int) 0
theorem impl_positive.mono_l : ∀ k,(∀ y0 y1 y2 y3,LeO (impl_positive.l0 k y0 y1 y2 y3) (impl_positive.l0 (k + 1) y0 y1 y2 y3))
 | 0=>fun _ _ _ _ r h=>by simp [impl_positive.l0] at h
 | k + 1=>by
  have ih0:=impl_positive.mono_l k
  ·intro y0 y1 y2 y3
   unfold impl_positive.l0
   repeat' first
   | (with_reducible exact ih0 _ _ _ _)
   | (with_reducible exact LeO.refl _)
   | (with_reducible exact LeO.none _)
   | (with_reducible refine LeO.ite ?_ ?_)
   | (with_reducible refine LeO.bind ?_ (fun _=>?_))
   | exact LeO.none _
   | refine LeO.ite ?_ ?_
   | refine LeO.bind ?_ (fun _=>?_)
theorem impl_positive.mono : ∀ a0 k,LeO (impl_positive.f k a0) (impl_positive.f (k + 1) a0):=by
 intro a0 k
 have ih0:=impl_positive.mono_l k
 unfold impl_positive.f
 repeat' first
   | (with_reducible exact ih0 _ _ _ _)
   | (with_reducible exact LeO.refl _)
   | (with_reducible exact LeO.none _)
   | (with_reducible refine LeO.ite ?_ ?_)
   | (with_reducible refine LeO.bind ?_ (fun _=>?_))
   | exact LeO.none _
   | refine LeO.ite ?_ ?_
   | refine LeO.bind ?_ (fun _=>?_)
set_option maxHeartbeats 8000000 in
set_option maxRecDepth 100000 in
theorem impl_positive.calls (k:Nat) (P0_:Nat→Prop) (A0:Option Addr) (c0:Nat) (l0:List (S54)) (r:List (S54)) (w:World) (hs0:Kd.V k54 54 w w.heap.size (fun k_=>P0_ k_) (.slice A0 l0.length c0) l0) (h:impl_positive.f k l0=some r) :
  Calls Try.prog 76 #[.slice A0 l0.length c0] w fun e w'=>∃ v0_:Value,e=.returned (v0_)∧Kd.N k54 54 w' w.heap.size (fun k_=>(P0_ k_∨w.heap.size≤k_)) v0_ r∧Below w.heap.size w w':=by
 have hu54:=Try.underlying54
 have HO0:=Aside0.mk (show Kd.V k54 54 w w.heap.size (fun k_=>(P0_ k_∨w.heap.size≤k_)) (.slice A0 l0.length c0) l0 from Kd.V_mono hs0 (fun k_ hk=>.inl hk))
 have HB:=Aside0.mk (Below.refl w.heap.size w)
 have H:(impl_positive.l0 k ([]:List (S54)) l0 (l0.length:Int) 0)=some r:=h
 clear h
 have H':=Aside0.mk H
 clear H
 go_enter Try.func76,Try.ntmps76
 go_wp2
 go_loopg [3,8] k (fun kq v3 v8 w'=>∃ (x3_1:List (S54)) (x8_1:Int),v8=.int .i64 x8_1∧Aside0 (impl_positive.l0 kq x3_1 l0 (l0.length:Int) x8_1=some r)∧Aside0 (kq≤k)∧Aside0 (Kd.N k54 54 w' w.heap.size (fun k_=>(P0_ k_∨w.heap.size≤k_)) v3 x3_1)∧Aside0 (Kd.V k54 54 w' w.heap.size (fun k_=>(P0_ k_∨w.heap.size≤k_)∧some k_≠(v3:Value).ownBlock) (.slice A0 l0.length c0) l0)∧Aside0 (Below w.heap.size w w'))
 case atStart=>exact ⟨(([]:List (S54))),(0),(by first|rfl|(simp;done)|(simp [*];done)),H',⟨Nat.le_refl _⟩,⟨by first|exact Kd.S_nil _ _ _ _ _|exact Kd.N_nil _ _ _ _ _|exact Kd.V_nil _ _ _ _ _|exact Kd.Q_nil _ _ _ _ _|exact Kd.R_nil _ _ _ _ _⟩,⟨by (with_reducible repeat (first|apply Kd.V_alloc|apply Kd.V_drewN|apply Kd.V_drew));exact Kd.V_mono HO0.out (fun _ hk=>⟨hk,(by simp [Value.ownBlock])⟩)⟩,⟨zhb⟩⟩
 case round =>
  clear H'
  obtain ⟨x3_1,x8_1,rfl,HA,HK1,HO_3,HO_6,HB⟩:=hrel
  cases gk with
  | zero=>exact absurd HA.out (by simp [impl_positive.l0])
  | succ k1 =>
   have H:=HA.out
   clear HA
   simp only [impl_positive.l0] at H
   by_cases c2:x8_1 < (l0.length:Int)
   ·rw [if_pos c2] at H
    have c2b0:decide (x8_1 < (l0.length:Int))=true:=decide_eq_true c2
    clear c2
    by_cases c3:0≤x8_1
    ·rw [if_pos c3] at H
     have c3b0:decide (0≤x8_1)=true:=decide_eq_true c3
     clear c3
     by_cases c4:x8_1 < (l0.length:Int)
     ·rw [if_pos c4] at H
      have c4b0:decide (x8_1 < (l0.length:Int))=true:=decide_eq_true c4
      clear c4
      by_cases c5:((rd_T54 l0 x8_1).f1) > 0
      ·rw [if_pos c5] at H
       have c5b0:decide (0 < ((rd_T54 l0 x8_1).f1))=true:=decide_eq_true c5
       clear c5
       by_cases c6:x3_1.length < 4398046511104
       ·rw [if_pos c6] at H
        have LMc6:=Aside0.mk c6
        clear c6
        obtain ⟨y365,hy365⟩ : ∃ y_:List (S54),y_=(x3_1 ++ [(⟨(rd_T54 l0 x8_1).f0,1⟩:S54)]):=⟨_,rfl⟩
        replace H:(impl_positive.l0 k1 y365 l0 (l0.length:Int) (wrap64 (x8_1 + 1)))=some r:=by first|(rw [hy365];with_reducible exact H)|(have H2_:=(Option.bind_some _ _).symm.trans H;rw [hy365];with_reducible exact H2_)|(have H2_:=(Option.bind_some _ _).symm.trans H;with_reducible exact H2_)|with_reducible exact H|(rw [hy365];exact H)|exact H
        have Ny365:=Aside0.mk hy365
        clear hy365
        have H':=Aside0.mk H
        clear H
        have p363:0≤(x8_1:Int):=zod
        have q363:x8_1 < (l0.length:Int):=zod
        obtain ⟨ad363,A363_0,c363_0,e363,hx363_0,hx363_1,hl363_0,hi363_0⟩:=at_T54 (Kd.V_reads' HO_6.out).2.2 x8_1 p363 q363
        cases e363
        obtain ⟨ce363,hce363,hMe363,hcc363⟩:=Kd.V_get HO_6.out z54 x8_1 p363 (by first|exact q363|exact zod|(have e_:=(Kd.V_reads' HO_6.out).1;omega))
        obtain ⟨ua363_0,uc363_0,rfl,ul363_0,ge363_0⟩:=k54_openF hMe363
        have hv363_0:=hcc363 0 _ rfl
        rw [Nat.add_zero] at hv363_0
        replace hv363_0:=Option.some.inj (hv363_0.symm.trans hx363_0)
        injection hv363_0 with hva_ hvn_ hvc_
        rw [hva_] at ge363_0
        rw [hvc_] at ul363_0
        have HL363_0:=Aside0.mk (show Kd.V (Kd.int .i64) 3 _ w.heap.size _ _ ((rd_T54 l0 x8_1).f0) from Kd.V_mk ul363_0 ge363_0)
        clear hva_ hvn_ hvc_ ge363_0 ul363_0
        clear hcc363 hce363
        have HR363_0:=Aside0.mk hi363_0
        have HC363_0:=Aside0.mk hl363_0
        clear hi363_0 hl363_0
        replace p363:=eq_true p363
        replace q363:=eq_true q363
        go_wp2_with (first|((with_reducible refine gate_dst (N:=5) rfl ?_);refine box_event ?hg (N:=5) ?hd (cs:=#[.slice none 0 0,.int .i64 0]) (t:=54) ?hr ?_;(case hd=>rfl);(case hg=>rfl);(case hr=>first|(go_simp;done)|(go_simp;rfl));intro gb364 hg w7 hbox hb;have n0_:=Aside0.mk (Kd.N_below (Kd.N_elderB (zN HO_3.out) gb364 (Nat.le_of_eq hg.symm)) hb);have n1_:=Aside0.mk (Kd.V_below (Kd.V_elderB (zV HO_6.out) gb364 (Nat.le_of_eq hg.symm)) hb);have n2_:=Aside0.mk (Kd.V_below (Kd.V_elderB (zV HL363_0.out) gb364 (Nat.le_of_eq hg.symm)) hb);have n3_:=Aside0.mk (Kd.C_below (zC HR363_0.out) hb);have n4_:=Aside0.mk (below_step zhb hb);have n5_:=Aside0.mk (hbox);have n6_:=Aside0.mk ((by rw [hg];exact (below_size zhb):w.heap.size≤gb364));have n7_:=Aside0.mk ((by rw [hg];exact (below_size zhb):w.heap.size≤gb364));clear HO_3;clear HO_6;clear HL363_0;clear HR363_0;clear HB;have HO_3:=n0_;have HO_6:=n1_;have HL363_0:=n2_;have HR363_0:=n3_;have HB:=n4_;have BK364:=n5_;have GW364:=n6_;have GE364:=n7_;clear n0_ n1_ n2_ n3_ n4_ n5_ n6_ n7_;clear hb hbox hg;have hcz8_0:w7.cell? ⟨gb364,0,none⟩=some (.slice none 0 0):=(blk_cell BK364.out 0).trans rfl;have hcz8_1:w7.cell? ⟨gb364,1,none⟩=some (.int .i64 0):=(blk_cell BK364.out 1).trans rfl;have hfz8_0:=blk_frozen BK364.out 0;have hfz8_1:=blk_frozen BK364.out 1)|((with_reducible refine gate_store (t:=54) (p:=5) rfl ?_);refine store_event (t:=54) (p:=5) (v:=?vo_w9) (w1:=((w7.setCell ⟨gb364,0,none⟩ (.slice A363_0 ((rd_T54 l0 x8_1).f0).length c363_0)).setCell ⟨gb364,1,none⟩ (.int .i64 ((rd_T54 l0 x8_1).f1)))) ?hg ?ho ?hn ?hr ?_;(case ho=>rfl);(case hg=>rfl);(case hn=>rfl);(case hr=>first|(go_simp;done)|(go_simp;rfl));intro w9 hw;have n0_:Aside0 (Kd.N k54 54 w9 w.heap.size (fun k_=>(P0_ k_∨w.heap.size≤k_)∧k_≠gb364) u3 x3_1):=⟨(by rw [hw];exact (by (with_reducible repeat (first|apply Kd.N_alloc|apply Kd.N_drewN|apply Kd.N_drew));exact Kd.N_mono (Kd.N_far (p:=⟨gb364,1,none⟩) (Kd.N_far (p:=⟨gb364,0,none⟩) (Kd.N_mono HO_3.out (fun k_ hk=>(⟨hk,hk.2⟩:_∧k_≠gb364))) (fun _ hk=>hk.2) (.slice A363_0 ((rd_T54 l0 x8_1).f0).length c363_0)) (fun _ hk=>hk.2) (.int .i64 ((rd_T54 l0 x8_1).f1))) (fun _ hk=>⟨hk.1.1,hk.1.2⟩)))⟩;have n1_:Aside0 (Kd.V k54 54 w9 w.heap.size (fun k_=>(P0_ k_∨w.heap.size≤k_)∧some k_≠(u3:Value).ownBlock∧k_≠gb364) (.slice (some ad363) l0.length c0) l0):=⟨(by rw [hw];exact (by (with_reducible repeat (first|apply Kd.V_alloc|apply Kd.V_drewN|apply Kd.V_drew));exact Kd.V_mono (Kd.V_far (p:=⟨gb364,1,none⟩) (Kd.V_far (p:=⟨gb364,0,none⟩) (Kd.V_mono HO_6.out (fun k_ hk=>(⟨hk,hk.2⟩:_∧k_≠gb364))) (fun _ hk=>hk.2) (.slice A363_0 ((rd_T54 l0 x8_1).f0).length c363_0)) (fun _ hk=>hk.2) (.int .i64 ((rd_T54 l0 x8_1).f1))) (fun _ hk=>⟨hk.1.1.1,⟨hk.1.1.2,hk.1.2⟩⟩)))⟩;have n2_:Aside0 (Kd.V (Kd.int .i64) 3 w9 w.heap.size (fun k_=>(P0_ k_∨w.heap.size≤k_)∧some k_≠(u3:Value).ownBlock∧k_≠gb364) (.slice A363_0 ((rd_T54 l0 x8_1).f0).length c363_0) ((rd_T54 l0 x8_1).f0)):=⟨(by rw [hw];exact (by (with_reducible repeat (first|apply Kd.V_alloc|apply Kd.V_drewN|apply Kd.V_drew));exact Kd.V_mono (Kd.V_far (p:=⟨gb364,1,none⟩) (Kd.V_far (p:=⟨gb364,0,none⟩) (Kd.V_mono HL363_0.out (fun k_ hk=>(⟨hk,hk.2⟩:_∧k_≠gb364))) (fun _ hk=>hk.2) (.slice A363_0 ((rd_T54 l0 x8_1).f0).length c363_0)) (fun _ hk=>hk.2) (.int .i64 ((rd_T54 l0 x8_1).f1))) (fun _ hk=>⟨hk.1.1.1,⟨hk.1.1.2,hk.1.2⟩⟩)))⟩;have n3_:Aside0 (w9.heap[gb364]?=some (.cells #[.slice A363_0 ((rd_T54 l0 x8_1).f0).length c363_0,.int .i64 ((rd_T54 l0 x8_1).f1)] 54 (0,0))):=⟨(by rw [hw];exact (by (with_reducible repeat (first|refine blk_drewN ?_ _|refine blk_drew ?_|refine blk_alloc ?_ _));refine blk_put (cs:=#[.slice A363_0 ((rd_T54 l0 x8_1).f0).length c363_0,.int .i64 0]) ?_ 1 _ rfl;(with_reducible repeat (first|refine blk_drewN ?_ _|refine blk_drew ?_|refine blk_alloc ?_ _));refine blk_put (cs:=#[.slice none 0 0,.int .i64 0]) ?_ 0 _ rfl;(with_reducible repeat (first|refine blk_drewN ?_ _|refine blk_drew ?_|refine blk_alloc ?_ _));exact BK364.out))⟩;have n4_:Aside0 (Below w.heap.size w w9):=⟨(by rw [hw];exact (by repeat (first|(with_reducible first|exact HB.out|apply below_alloc|apply pw_below_drewN|apply below_drew1|refine below_set ?_ GE364.out)|exact HB.out)))⟩;clear hw;clear HO_3;clear HO_6;clear HL363_0;clear BK364;clear HB;have HO_3:=n0_;have HO_6:=n1_;have HL363_0:=n2_;have BK364:=n3_;have HB:=n4_;clear n0_ n1_ n2_ n3_ n4_;have hcz10_0:w9.cell? ⟨gb364,0,none⟩=some (.slice A363_0 ((rd_T54 l0 x8_1).f0).length c363_0):=(blk_cell BK364.out 0).trans rfl;have hcz10_1:w9.cell? ⟨gb364,1,none⟩=some (.int .i64 ((rd_T54 l0 x8_1).f1)):=(blk_cell BK364.out 1).trans rfl;have hfz10_0:=blk_frozen BK364.out 0;have hfz10_1:=blk_frozen BK364.out 1)|((with_reducible refine gate_builtin (b:=.append) (xs:=#[.tmp 15,.tmp 19]) rfl ?_);at_builtin;refine Kd.N_append k54 (w0:=w) w.heap.size rfl (.tmp 15) (.tmp 19) 24 54 (.agg #[(.slice none 0 0),(.int .i64 0)]) 32 rfl Try.underlying24 info54 rfl (by decide) (by omega) u3 x3_1 (⟨(rd_T54 l0 x8_1).f0,1⟩:S54) [.slice A363_0 ((rd_T54 l0 x8_1).f0).length c363_0,.int .i64 1] (fun k_=>(P0_ k_∨w.heap.size≤k_)∧k_≠gb364) (fun k_=>((fun k_=>(P0_ k_∨w.heap.size≤k_)∧k_≠gb364)) k_∧some k_≠(u3:Value).ownBlock) rfl rfl ?aP (fun _ hk=>hk) ?aF ?aO ?aB ?aS ?aL ?_;(case aP=>exact (k54_mkF _ _ (⟨(rd_T54 l0 x8_1).f0,1⟩:S54) (Kd.V_reads' (Kd.V_mono (ok':=(fun k_=>((fun k_=>(P0_ k_∨w.heap.size≤k_)∧k_≠gb364)) k_∧some k_≠(u3:Value).ownBlock)) (HL363_0.out) (fun k_ hk=>⟨⟨hk.1,hk.2.2⟩,hk.2.1⟩))).2.1 (Kd.V_F (Kd.V_mono (ok':=(fun k_=>((fun k_=>(P0_ k_∨w.heap.size≤k_)∧k_≠gb364)) k_∧some k_≠(u3:Value).ownBlock)) (HL363_0.out) (fun k_ hk=>⟨⟨hk.1,hk.2.2⟩,hk.2.1⟩)))));(case aB=>exact (by repeat (first|(with_reducible first|exact HB.out|apply below_alloc|apply pw_below_drewN|apply below_drew1|refine below_set ?_ GE364.out)|exact HB.out)));(case aF=>exact (fun k_ hk=>⟨(.inr (Nat.le_trans (below_size (by repeat (first|(with_reducible first|exact HB.out|apply below_alloc|apply pw_below_drewN|apply below_drew1|refine below_set ?_ GE364.out)|exact HB.out))) hk)),Kd.freshB (g:=gb364) (o:=.cells #[.slice A363_0 ((rd_T54 l0 x8_1).f0).length c363_0,.int .i64 ((rd_T54 l0 x8_1).f1)] 54 (0,0)) (by (with_reducible repeat (first|refine blk_drewN ?_ _|refine blk_drew ?_|refine blk_alloc ?_ _));exact BK364.out) k_ hk⟩));(case aO=>exact (zN HO_3.out));(case aS=>exact (below_size (by repeat (first|(with_reducible first|exact HB.out|apply below_alloc|apply pw_below_drewN|apply below_drew1|refine below_set ?_ GE364.out)|exact HB.out))));(case aL=>have:=LMc6.out;omega);intro v366 w11 ho hb hg hat;rw [← Ny365.out] at ho;have n0_:=Aside0.mk (Kd.V_afterv (ok:=(fun k_=>(P0_ k_∨w.heap.size≤k_)∧k_≠gb364)) (by (with_reducible repeat (first|apply Kd.V_alloc|apply Kd.V_drewN|apply Kd.V_drew));exact Kd.V_mono HO_6.out (fun _ hk=>⟨⟨hk.1,hk.2.2⟩,hk.2.1⟩)) hg hat);have n1_:=Aside0.mk (Kd.V_afterv (ok:=(fun k_=>(P0_ k_∨w.heap.size≤k_)∧k_≠gb364)) (by (with_reducible repeat (first|apply Kd.V_alloc|apply Kd.V_drewN|apply Kd.V_drew));exact Kd.V_mono HL363_0.out (fun _ hk=>⟨⟨hk.1,hk.2.2⟩,hk.2.1⟩)) hg hat);have n2_:=Aside0.mk (blk_grown (g:=gb364) (o:=.cells #[.slice A363_0 ((rd_T54 l0 x8_1).f0).length c363_0,.int .i64 ((rd_T54 l0 x8_1).f1)] 54 (0,0)) (by (with_reducible repeat (first|refine blk_drewN ?_ _|refine blk_drew ?_|refine blk_alloc ?_ _));exact BK364.out) hg (Kd.N_away HO_3.out (fun _ hk=>hk.2)));have n3_:=Aside0.mk (hb);have n4_:=Aside0.mk (ho);clear HO_6;clear HL363_0;clear BK364;clear HB;clear HO_3;have HO_6:=n0_;have HL363_0:=n1_;have BK364:=n2_;have HB:=n3_;have HO367:=n4_;clear n0_ n1_ n2_ n3_ n4_;clear ho hb hg hat))
        go_roundg k1
        case measure=>have:=HK1.out;omega
        case rel=>exact ⟨(y365),(wrap64 (x8_1 + 1)),(by first|rfl|(simp;done)|(simp [*];done)),H',⟨by have:=HK1.out;omega⟩,⟨by (with_reducible repeat (first|apply Kd.N_alloc|apply Kd.N_drewN|apply Kd.N_drew));exact Kd.N_mono HO367.out (fun _ hk=>hk.1)⟩,⟨by (with_reducible repeat (first|apply Kd.V_alloc|apply Kd.V_drewN|apply Kd.V_drew));exact Kd.V_mono HO_6.out (fun _ hk=>⟨hk.1.1,hk.2⟩)⟩,⟨by repeat (first|(with_reducible first|exact HB.out|apply below_alloc|apply pw_below_drewN|apply below_drew1|refine below_set ?_ GE364.out)|exact HB.out)⟩⟩
       ·rw [if_neg c6] at H
        exact absurd H (by simp)
      ·rw [if_neg c5] at H
       have c5b0:decide (0 < ((rd_T54 l0 x8_1).f1))=false:=decide_eq_false c5
       clear c5
       have H':=Aside0.mk H
       clear H
       have p363:0≤(x8_1:Int):=zod
       have q363:x8_1 < (l0.length:Int):=zod
       obtain ⟨ad363,A363_0,c363_0,e363,hx363_0,hx363_1,hl363_0,hi363_0⟩:=at_T54 (Kd.V_reads' HO_6.out).2.2 x8_1 p363 q363
       cases e363
       obtain ⟨ce363,hce363,hMe363,hcc363⟩:=Kd.V_get HO_6.out z54 x8_1 p363 (by first|exact q363|exact zod|(have e_:=(Kd.V_reads' HO_6.out).1;omega))
       obtain ⟨ua363_0,uc363_0,rfl,ul363_0,ge363_0⟩:=k54_openF hMe363
       have hv363_0:=hcc363 0 _ rfl
       rw [Nat.add_zero] at hv363_0
       replace hv363_0:=Option.some.inj (hv363_0.symm.trans hx363_0)
       injection hv363_0 with hva_ hvn_ hvc_
       rw [hva_] at ge363_0
       rw [hvc_] at ul363_0
       have HL363_0:=Aside0.mk (show Kd.V (Kd.int .i64) 3 _ w.heap.size _ _ ((rd_T54 l0 x8_1).f0) from Kd.V_mk ul363_0 ge363_0)
       clear hva_ hvn_ hvc_ ge363_0 ul363_0
       clear hcc363 hce363
       have HR363_0:=Aside0.mk hi363_0
       have HC363_0:=Aside0.mk hl363_0
       clear hi363_0 hl363_0
       replace p363:=eq_true p363
       replace q363:=eq_true q363
       go_wp2_with (first|((with_reducible refine gate_dst (N:=5) rfl ?_);refine box_event ?hg (N:=5) ?hd (cs:=#[.slice none 0 0,.int .i64 0]) (t:=54) ?hr ?_;(case hd=>rfl);(case hg=>rfl);(case hr=>first|(go_simp;done)|(go_simp;rfl));intro gb364 hg w12 hbox hb;have n0_:=Aside0.mk (Kd.N_below (Kd.N_elderB (zN HO_3.out) gb364 (Nat.le_of_eq hg.symm)) hb);have n1_:=Aside0.mk (Kd.V_below (Kd.V_elderB (zV HO_6.out) gb364 (Nat.le_of_eq hg.symm)) hb);have n2_:=Aside0.mk (Kd.V_below (Kd.V_elderB (zV HL363_0.out) gb364 (Nat.le_of_eq hg.symm)) hb);have n3_:=Aside0.mk (Kd.C_below (zC HR363_0.out) hb);have n4_:=Aside0.mk (below_step zhb hb);have n5_:=Aside0.mk (hbox);have n6_:=Aside0.mk ((by rw [hg];exact (below_size zhb):w.heap.size≤gb364));have n7_:=Aside0.mk ((by rw [hg];exact (below_size zhb):w.heap.size≤gb364));clear HO_3;clear HO_6;clear HL363_0;clear HR363_0;clear HB;have HO_3:=n0_;have HO_6:=n1_;have HL363_0:=n2_;have HR363_0:=n3_;have HB:=n4_;have BK364:=n5_;have GW364:=n6_;have GE364:=n7_;clear n0_ n1_ n2_ n3_ n4_ n5_ n6_ n7_;clear hb hbox hg;have hcz13_0:w12.cell? ⟨gb364,0,none⟩=some (.slice none 0 0):=(blk_cell BK364.out 0).trans rfl;have hcz13_1:w12.cell? ⟨gb364,1,none⟩=some (.int .i64 0):=(blk_cell BK364.out 1).trans rfl;have hfz13_0:=blk_frozen BK364.out 0;have hfz13_1:=blk_frozen BK364.out 1))
       go_roundg k1
       case measure=>have:=HK1.out;omega
       case rel=>exact ⟨(x3_1),(wrap64 (x8_1 + 1)),(by first|rfl|(simp;done)|(simp [*];done)),H',⟨by have:=HK1.out;omega⟩,⟨by (with_reducible repeat (first|apply Kd.N_alloc|apply Kd.N_drewN|apply Kd.N_drew));exact Kd.N_mono (Kd.N_far (p:=⟨gb364,1,none⟩) (Kd.N_far (p:=⟨gb364,0,none⟩) (Kd.N_mono HO_3.out (fun k_ hk=>(⟨hk,hk.2⟩:_∧k_≠gb364))) (fun _ hk=>hk.2) (.slice A363_0 ((rd_T54 l0 x8_1).f0).length c363_0)) (fun _ hk=>hk.2) (.int .i64 ((rd_T54 l0 x8_1).f1))) (fun _ hk=>hk.1.1)⟩,⟨by (with_reducible repeat (first|apply Kd.V_alloc|apply Kd.V_drewN|apply Kd.V_drew));exact Kd.V_mono (Kd.V_far (p:=⟨gb364,1,none⟩) (Kd.V_far (p:=⟨gb364,0,none⟩) (Kd.V_mono HO_6.out (fun k_ hk=>(⟨hk,hk.2⟩:_∧k_≠gb364))) (fun _ hk=>hk.2) (.slice A363_0 ((rd_T54 l0 x8_1).f0).length c363_0)) (fun _ hk=>hk.2) (.int .i64 ((rd_T54 l0 x8_1).f1))) (fun _ hk=>⟨hk.1.1.1,hk.1.1.2⟩)⟩,⟨by repeat (first|(with_reducible first|exact HB.out|apply below_alloc|apply pw_below_drewN|apply below_drew1|refine below_set ?_ GE364.out)|exact HB.out)⟩⟩
     ·rw [if_neg c4] at H
      exact absurd H (by simp)
    ·rw [if_neg c3] at H
     exact absurd H (by simp)
   ·rw [if_neg c2] at H
    have c2b0:decide (x8_1 < (l0.length:Int))=false:=decide_eq_false c2
    clear c2
    obtain rfl:=Option.some.inj H
    go_wp2
    go_ret
    exact ⟨_,by first|rfl|(simp [errW_none,errW_some] <;> rfl)|(simp [*,errW_none,errW_some] <;> rfl),by (with_reducible repeat (first|apply Kd.N_alloc|apply Kd.N_drewN|apply Kd.N_drew));exact HO_3.out,zhb⟩

/-! ### impl_ZPos: function 32 (by hand) -/
def impl_ZPos.f (k:Nat) (l0:List (S54)):Option (List (S54)):=(impl_ZOk.f k l0).bind fun t1=>(if t1=true then ((impl_positive.f k l0).bind fun t2=>(impl_copyItems.f k t2)) else (some []))
theorem impl_ZPos.mono : ∀ a0 k,LeO (impl_ZPos.f k a0) (impl_ZPos.f (k + 1) a0):=by
 intro a0 k
 unfold impl_ZPos.f
 repeat' first
   | (with_reducible exact impl_ZOk.mono _ _)
   | (with_reducible exact impl_positive.mono _ _)
   | (with_reducible exact impl_copyItems.mono _ _)
   | (with_reducible exact LeO.refl _)
   | (with_reducible refine LeO.ite ?_ ?_)
   | (with_reducible refine LeO.bind ?_ (fun _=>?_))
set_option maxHeartbeats 8000000 in
set_option maxRecDepth 100000 in
theorem impl_ZPos.calls (k:Nat) (A0:Option Addr) (c0:Nat) (l0:List (S54)) (r:List (S54)) (w:World) (hr0:Kd.C k54 w A0 l0.length l0) (hc0:l0.length≤c0) (h:impl_ZPos.f k l0=some r) :
  Calls Try.prog 32 #[.slice A0 l0.length c0] w fun e w'=>∃ v0_:Value,e=.returned (v0_)∧Kd.S k54 54 w' w.heap.size (fun _=>True) v0_ r∧Below w.heap.size w w':=by
 unfold impl_ZPos.f at h
 obtain ⟨t1,h1,h⟩:=Option.bind_eq_some_iff.mp h
 have A1:=Aside0.mk h1
 have HR0:=Aside0.mk hr0
 have HC0:=Aside0.mk hc0
 clear hr0 hc0 h1
 cases t1 with
 | true =>
  rw [if_pos rfl] at h
  obtain ⟨t2,h2,h⟩:=Option.bind_eq_some_iff.mp h
  have A2:=Aside0.mk h2
  have A3:=Aside0.mk h
  clear h2 h
  go_enter Try.func32,Try.ntmps32
  go_wp2_with fail
  refine (impl_ZOk.calls k _ _ l0 true _ HR0.out HC0.out A1.out).mono ?_
  rintro e w1 ⟨rfl,hb⟩
  have HB1:=Aside0.mk hb
  have HR1:=Aside0.mk (Kd.C_below HR0.out hb)
  clear hb
  go_wp2_with fail
  refine (impl_positive.calls k (fun k_=>k_ < w1.heap.size) _ _ l0 t2 _ (Kd.V_mk HC0.out (Kd.C_F k54_heap HR1.out)) A2.out).mono ?_
  rintro e w2 ⟨v2,rfl,ho,hb⟩
  obtain ⟨a2,c2,rfl⟩:=Kd.N_slice ho
  have HB2:=Aside0.mk (below_step HB1.out hb)
  have HO2:=Aside0.mk ho
  clear ho hb
  go_wp2_with fail
  refine (impl_copyItems.calls k _ _ t2 r _ (Kd.N_reads' HO2.out).2.2 (Kd.N_reads' HO2.out).2.1 A3.out).mono ?_
  rintro e w3 ⟨v3,rfl,ho,hb⟩
  have HB3:=Aside0.mk (below_step HB2.out hb)
  have HO3:=Aside0.mk (Kd.S_lower ho HB2.out.size)
  clear ho hb
  go_wp2
  go_ret
  exact ⟨_,rfl,HO3.out,HB3.out⟩
 | false =>
  rw [if_neg (by decide)] at h
  obtain rfl:=Option.some.inj h
  clear h
  go_enter Try.func32,Try.ntmps32
  go_wp2_with fail
  refine (impl_ZOk.calls k _ _ l0 false _ HR0.out HC0.out A1.out).mono ?_
  rintro e w1 ⟨rfl,hb⟩
  have HB1:=Aside0.mk hb
  clear hb
  go_wp2
  go_ret
  exact ⟨_,rfl,Kd.S_nil _ _ _ _ _,HB1.out⟩

end Go.Proofs.Ytaifnkapbffmaaa.PFnZTwice
