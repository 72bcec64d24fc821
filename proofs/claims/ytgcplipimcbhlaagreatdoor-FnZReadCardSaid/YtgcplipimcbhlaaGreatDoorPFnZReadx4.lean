-- Written by wip/tools/pp.py, a program of this session over the kit's printer: not the kit's own print
import Derived.Test.YtgcplipimcbhlaaGreatDoorPFnZReadx0
import Derived.Test.YtgcplipimcbhlaaGreatDoorPFnZReadx3
namespace Go.Proofs.YtgcplipimcbhlaaGreatDoor.PFnZRead
open Go.RowKit Go.Proofs.YtgcplipimcbhlaaGreatDoorW.PrintWords Go.Proofs.YtgcplipimcbhlaaGreatDoorW.PrintLast Go.Proofs.YtgcplipimcbhlaaGreatDoorW.PrintMore
attribute [local go_sem] max2_int min2_int max_two min_two max_three min_three max_four min_four   -- for this text's walks alone
set_option linter.unusedVariables false
set_option linter.unusedSimpArgs false

/-! ### slices_Compare_int_int: function 33 -/
def slices_Compare_int_int.l0:Nat→List Int→List Int→List Int→Int→Int→Option (Int)
 | 0,_,_,_,_,_=>none
 | k + 1,x0,x1,x9,x10,x11=>if x11 < x10 then (if 0≤x11 then (if x11 < (x9.length:Int) then (if x11 ≥ (x1.length:Int) then (some 1) else (if x11 < (x1.length:Int) then ((cmp_Compare_int.f (rd x9 x11) (rd x1 x11)).bind fun t191=>(if t191=0 then (slices_Compare_int_int.l0 k x0 x1 x9 x10 (wrap64 (x11 + 1))) else (some t191))) else (none))) else (none)) else (none)) else (if (x0.length:Int) < (x1.length:Int) then (some (-1)) else (some 0))
def slices_Compare_int_int.f (k:Nat) (l0:List Int) (l1:List Int):Option (Int):=slices_Compare_int_int.l0 k l0 l1 l0 (l0.length:Int) 0
theorem slices_Compare_int_int.mono_l : ∀ k,(∀ y0 y1 y2 y3 y4,LeO (slices_Compare_int_int.l0 k y0 y1 y2 y3 y4) (slices_Compare_int_int.l0 (k + 1) y0 y1 y2 y3 y4))
 | 0=>fun _ _ _ _ _ r h=>by simp [slices_Compare_int_int.l0] at h
 | k + 1=>by
  have ih0:=slices_Compare_int_int.mono_l k
  ·intro y0 y1 y2 y3 y4
   unfold slices_Compare_int_int.l0
   repeat' first
   | (with_reducible exact ih0 _ _ _ _ _)
   | (with_reducible exact LeO.refl _)
   | (with_reducible exact LeO.none _)
   | (with_reducible refine LeO.ite ?_ ?_)
   | (with_reducible refine LeO.bind ?_ (fun _=>?_))
   | exact LeO.none _
   | refine LeO.ite ?_ ?_
   | refine LeO.bind ?_ (fun _=>?_)
theorem slices_Compare_int_int.mono : ∀ a0 a1 k,LeO (slices_Compare_int_int.f k a0 a1) (slices_Compare_int_int.f (k + 1) a0 a1):=by
 intro a0 a1 k
 have ih0:=slices_Compare_int_int.mono_l k
 unfold slices_Compare_int_int.f
 repeat' first
   | (with_reducible exact ih0 _ _ _ _ _)
   | (with_reducible exact LeO.refl _)
   | (with_reducible exact LeO.none _)
   | (with_reducible refine LeO.ite ?_ ?_)
   | (with_reducible refine LeO.bind ?_ (fun _=>?_))
   | exact LeO.none _
   | refine LeO.ite ?_ ?_
   | refine LeO.bind ?_ (fun _=>?_)
set_option maxHeartbeats 8000000 in
set_option maxRecDepth 100000 in
theorem slices_Compare_int_int.calls (k:Nat) (A0:Option Addr) (c0:Nat) (l0:List Int) (A1:Option Addr) (c1:Nat) (l1:List Int) (r:Int) (w:World) (hr0:Kd.C (Kd.int .i64) w A0 l0.length l0) (hc0:l0.length≤c0) (hr1:Kd.C (Kd.int .i64) w A1 l1.length l1) (hc1:l1.length≤c1) (h:slices_Compare_int_int.f k l0 l1=some r) :
  Calls Tryz.prog 33 #[.slice A0 l0.length c0,.slice A1 l1.length c1] w fun e w'=>e=.returned (.int .i64 r)∧Drawn0 w w':=by
 have HR0:=Aside0.mk hr0
 have HC0:=Aside0.mk hc0
 clear hr0 hc0
 have HR1:=Aside0.mk hr1
 have HC1:=Aside0.mk hc1
 clear hr1 hc1
 have H:(slices_Compare_int_int.l0 k l0 l1 l0 (l0.length:Int) 0)=some r:=h
 clear h
 have H':=Aside0.mk H
 clear H
 go_enter Tryz.func33,Tryz.ntmps33
 go_wp2
 go_loopg [11] k (fun kq v11 w'=>∃ (x11_1:Int),v11=.int .i64 x11_1∧Aside0 (slices_Compare_int_int.l0 kq l0 l1 l0 (l0.length:Int) x11_1=some r)∧Aside0 (kq≤k)∧Drawn0 w w')
 case atStart=>exact ⟨(0),(by first|rfl|(simp;done)|(simp [*];done)),H',⟨Nat.le_refl _⟩,zdw⟩
 case round =>
  clear H'
  try clear c1
  try clear p2
  obtain ⟨x11_1,rfl,HA,HK1,⟨m1,rfl⟩⟩:=hrel
  cases gk with
  | zero=>exact absurd HA.out (by simp [slices_Compare_int_int.l0])
  | succ k1 =>
   have H:=HA.out
   clear HA
   simp only [slices_Compare_int_int.l0] at H
   by_cases c3:x11_1 < (l0.length:Int)
   ·rw [if_pos c3] at H
    have c3b0:decide (x11_1 < (l0.length:Int))=true:=decide_eq_true c3
    clear c3
    by_cases c4:0≤x11_1
    ·rw [if_pos c4] at H
     have c4b0:decide (0≤x11_1)=true:=decide_eq_true c4
     clear c4
     by_cases c5:x11_1 < (l0.length:Int)
     ·rw [if_pos c5] at H
      have c5b0:decide (x11_1 < (l0.length:Int))=true:=decide_eq_true c5
      clear c5
      by_cases c6:x11_1 ≥ (l1.length:Int)
      ·rw [if_pos c6] at H
       have c6b0:decide ((l1.length:Int)≤x11_1)=true:=decide_eq_true c6
       clear c6
       obtain rfl:=Option.some.inj H
       have p189:0≤(x11_1:Int):=zod
       have q189:x11_1 < (l0.length:Int):=zod
       obtain ⟨ad189,e189,hx189_0⟩:=Kd.at_int HR0.out x11_1 p189 q189
       cases e189
       replace p189:=eq_true p189
       replace q189:=eq_true q189
       go_wp2
       go_ret
       exact ⟨by first|rfl|(simp;done)|(simp [*];done),zdw⟩
      ·rw [if_neg c6] at H
       have c6b0:decide ((l1.length:Int)≤x11_1)=false:=decide_eq_false c6
       clear c6
       by_cases c7:x11_1 < (l1.length:Int)
       ·rw [if_pos c7] at H
        have c7b0:decide (x11_1 < (l1.length:Int))=true:=decide_eq_true c7
        clear c7
        replace H:=Option.bind_eq_some_iff.mp H
        obtain ⟨t191,A80,H⟩:=H
        (try dsimp only at H)
        have A8:=Aside0.mk A80
        clear A80
        by_cases c9:t191=0
        ·rw [if_pos c9] at H
         have c9b0:(t191 == 0)=true:=beq_iff_eq.mpr c9
         have c9b1:(t191 != 0)=false:=bne_eq_false_iff_eq.mpr c9
         clear c9
         have H':=Aside0.mk H
         clear H
         have p189:0≤(x11_1:Int):=zod
         have q189:x11_1 < (l0.length:Int):=zod
         obtain ⟨ad189,e189,hx189_0⟩:=Kd.at_int HR0.out x11_1 p189 q189
         cases e189
         replace p189:=eq_true p189
         replace q189:=eq_true q189
         have p190:0≤(x11_1:Int):=zod
         have q190:x11_1 < (l1.length:Int):=zod
         obtain ⟨ad190,e190,hx190_0⟩:=Kd.at_int HR1.out x11_1 p190 q190
         cases e190
         replace p190:=eq_true p190
         replace q190:=eq_true q190
         go_wp2_with (first|((with_reducible refine gate_callee (f:=66) rfl ?_);refine goesL_ (some 26) rfl rfl Tryz.func66 (by kernel_rfl) rfl #[.int .i64 (rd l0 x11_1),.int .i64 (rd l1 x11_1)] rfl zar ?_;(with_reducible refine (cmp_Compare_int.calls (rd l0 x11_1) (rd l1 x11_1) t191 _ A8.out).mono ?_);rintro e w' ⟨rfl,⟨nd,rfl⟩⟩;refine ⟨_,rfl,?_⟩))
         go_roundg k1
         case measure=>have:=HK1.out;omega
         case rel=>exact ⟨(wrap64 (x11_1 + 1)),(by first|rfl|(simp;done)|(simp [*];done)),H',⟨by have:=HK1.out;omega⟩,zdw⟩
        ·rw [if_neg c9] at H
         have c9b0:(t191 == 0)=false:=beq_eq_false_iff_ne.mpr c9
         have c9b1:(t191 != 0)=true:=bne_iff_ne.mpr c9
         obtain rfl:=Option.some.inj H
         have p189:0≤(x11_1:Int):=zod
         have q189:x11_1 < (l0.length:Int):=zod
         obtain ⟨ad189,e189,hx189_0⟩:=Kd.at_int HR0.out x11_1 p189 q189
         cases e189
         replace p189:=eq_true p189
         replace q189:=eq_true q189
         have p190:0≤(x11_1:Int):=zod
         have q190:x11_1 < (l1.length:Int):=zod
         obtain ⟨ad190,e190,hx190_0⟩:=Kd.at_int HR1.out x11_1 p190 q190
         cases e190
         replace p190:=eq_true p190
         replace q190:=eq_true q190
         go_wp2_with (first|((with_reducible refine gate_callee (f:=66) rfl ?_);refine goesL_ (some 26) rfl rfl Tryz.func66 (by kernel_rfl) rfl #[.int .i64 (rd l0 x11_1),.int .i64 (rd l1 x11_1)] rfl zar ?_;(with_reducible refine (cmp_Compare_int.calls (rd l0 x11_1) (rd l1 x11_1) t191 _ A8.out).mono ?_);rintro e w' ⟨rfl,⟨nd,rfl⟩⟩;refine ⟨_,rfl,?_⟩))
         go_ret
         exact ⟨by first|rfl|(simp;done)|(simp [*];done),zdw⟩
       ·rw [if_neg c7] at H
        exact absurd H (by simp)
     ·rw [if_neg c5] at H
      exact absurd H (by simp)
    ·rw [if_neg c4] at H
     exact absurd H (by simp)
   ·rw [if_neg c3] at H
    have c3b0:decide (x11_1 < (l0.length:Int))=false:=decide_eq_false c3
    clear c3
    by_cases c10:(l0.length:Int) < (l1.length:Int)
    ·rw [if_pos c10] at H
     have c10b0:decide ((l0.length:Int) < (l1.length:Int))=true:=decide_eq_true c10
     have c10b1:decide (l0.length < l1.length)=true:=decide_eq_true (Int.ofNat_lt.mp c10)
     clear c10
     obtain rfl:=Option.some.inj H
     go_wp2
     go_ret
     exact ⟨by first|rfl|(simp;done)|(simp [*];done),zdw⟩
    ·rw [if_neg c10] at H
     have c10b0:decide ((l0.length:Int) < (l1.length:Int))=false:=decide_eq_false c10
     have c10b1:decide (l0.length < l1.length)=false:=decide_eq_false (fun h=>c10 (Int.ofNat_lt.mpr h))
     clear c10
     obtain rfl:=Option.some.inj H
     go_wp2
     go_ret
     exact ⟨by first|rfl|(simp;done)|(simp [*];done),zdw⟩

/-! ### impl_RowLess: function 11 -/
def impl_RowLess.f (k:Nat) (l0:List Int) (l1:List Int):Option (Bool):=(slices_Compare_int_int.f k l0 l1).bind fun t192=>(some (decide (t192 < 0)))
theorem impl_RowLess.mono : ∀ a0 a1 k,LeO (impl_RowLess.f k a0 a1) (impl_RowLess.f (k + 1) a0 a1):=by
 intro a0 a1 k
 unfold impl_RowLess.f
 repeat' first
   | (with_reducible exact slices_Compare_int_int.mono _ _ _)
   | (with_reducible exact LeO.refl _)
   | (with_reducible exact LeO.none _)
   | (with_reducible refine LeO.ite ?_ ?_)
   | (with_reducible refine LeO.bind ?_ (fun _=>?_))
   | exact LeO.none _
   | refine LeO.ite ?_ ?_
   | refine LeO.bind ?_ (fun _=>?_)
set_option maxHeartbeats 8000000 in
set_option maxRecDepth 100000 in
theorem impl_RowLess.calls (k:Nat) (A0:Option Addr) (c0:Nat) (l0:List Int) (A1:Option Addr) (c1:Nat) (l1:List Int) (r:Bool) (w:World) (hr0:Kd.C (Kd.int .i64) w A0 l0.length l0) (hc0:l0.length≤c0) (hr1:Kd.C (Kd.int .i64) w A1 l1.length l1) (hc1:l1.length≤c1) (h:impl_RowLess.f k l0 l1=some r) :
  Calls Tryz.prog 11 #[.slice A0 l0.length c0,.slice A1 l1.length c1] w fun e w'=>e=.returned (.bool r)∧Drawn0 w w':=by
 have HR0:=Aside0.mk hr0
 have HC0:=Aside0.mk hc0
 clear hr0 hc0
 have HR1:=Aside0.mk hr1
 have HC1:=Aside0.mk hc1
 clear hr1 hc1
 have H:((slices_Compare_int_int.f k l0 l1).bind fun t192=>(some (decide (t192 < 0))))=some r:=h
 clear h
 replace H:=Option.bind_eq_some_iff.mp H
 obtain ⟨t192,A30,H⟩:=H
 (try dsimp only at H)
 have A3:=Aside0.mk A30
 clear A30
 obtain rfl:=Option.some.inj H
 go_enter Tryz.func11,Tryz.ntmps11
 go_wp2_with (first|((with_reducible refine gate_callee (f:=33) rfl ?_);refine goesL_ (some 7) rfl rfl Tryz.func33 (by kernel_rfl) rfl #[.slice A0 l0.length c0,.slice A1 l1.length c1] rfl zar ?_;(with_reducible refine (slices_Compare_int_int.calls k _ _ l0 _ _ l1 t192 _ ?side1 ?side2 ?side3 ?side4 A3.out).mono ?_);(case side1=>exact zC HR0.out);(case side2=>exact HC0.out);(case side3=>exact zC HR1.out);(case side4=>exact HC1.out);rintro e w' ⟨rfl,⟨nd,rfl⟩⟩;refine ⟨_,rfl,?_⟩))
 go_ret
 exact ⟨by first|rfl|(simp;done)|(simp [*];done),zdw⟩

-- NOT PRINTED: function 74 (slices_IndexFunc_int_int)

-- NOT PRINTED: function 48 (slices_ContainsFunc_int_int)

/-! ### impl_isCell: function 50 -/
def impl_isCell.f (a0:Int):Option (Bool):=if a0 ≥ (-1000000000) then (some (decide (a0≤1000000000))) else (some false)
set_option maxHeartbeats 8000000 in
set_option maxRecDepth 100000 in
theorem impl_isCell.calls (a0:Int) (r:Bool) (w:World) (h:impl_isCell.f a0=some r) :
  Calls Tryz.prog 50 #[.int .i64 a0] w fun e w'=>e=.returned (.bool r)∧Drawn0 w w':=by
 have H:(if a0 ≥ (-1000000000) then (some (decide (a0≤1000000000))) else (some false))=some r:=h
 clear h
 by_cases c2:a0 ≥ (-1000000000)
 ·rw [if_pos c2] at H
  have c2b0:decide ((-1000000000)≤a0)=true:=decide_eq_true c2
  clear c2
  obtain rfl:=Option.some.inj H
  go_enter Tryz.func50,Tryz.ntmps50
  go_wp2
  go_ret
  exact ⟨by first|rfl|(simp;done)|(simp [*];done),zdw⟩
 ·rw [if_neg c2] at H
  have c2b0:decide ((-1000000000)≤a0)=false:=decide_eq_false c2
  clear c2
  obtain rfl:=Option.some.inj H
  go_enter Tryz.func50,Tryz.ntmps50
  go_wp2
  go_ret
  exact ⟨by first|rfl|(simp;done)|(simp [*];done),zdw⟩

/-! ### impl_RowOk_1: function 49 -/
def impl_RowOk_1.f (a0:Int):Option (Bool):=(impl_isCell.f a0).bind fun t193=>(some (!t193))
set_option maxHeartbeats 8000000 in
set_option maxRecDepth 100000 in
theorem impl_RowOk_1.calls (a0:Int) (r:Bool) (w:World) (h:impl_RowOk_1.f a0=some r) :
  Calls Tryz.prog 49 #[.int .i64 a0] w fun e w'=>e=.returned (.bool r)∧Drawn0 w w':=by
 have H:((impl_isCell.f a0).bind fun t193=>(some (!t193)))=some r:=h
 clear h
 replace H:=Option.bind_eq_some_iff.mp H
 obtain ⟨t193,A20,H⟩:=H
 (try dsimp only at H)
 have A2:=Aside0.mk A20
 clear A20
 obtain rfl:=Option.some.inj H
 go_enter Tryz.func49,Tryz.ntmps49
 go_wp2_with (first|((with_reducible refine gate_callee (f:=50) rfl ?_);refine goesL_ (some 4) rfl rfl Tryz.func50 (by kernel_rfl) rfl #[.int .i64 a0] rfl zar ?_;(with_reducible refine (impl_isCell.calls a0 t193 _ A2.out).mono ?_);rintro e w' ⟨rfl,⟨nd,rfl⟩⟩;refine ⟨_,rfl,?_⟩))
 go_ret
 exact ⟨by first|rfl|(simp;done)|(simp [*];done),zdw⟩

/-! ### slices_IndexFunc_int_int__impl_RowOk_1: function 74 -/
def slices_IndexFunc_int_int__impl_RowOk_1.l0:Nat→List Int→Int→Int→Option (Int)
 | 0,_,_,_=>none
 | k + 1,x0,x7,x8=>if x8 < x7 then (if 0≤x8 then (if x8 < (x0.length:Int) then ((impl_RowOk_1.f (rd x0 x8)).bind fun t195=>(if t195=true then (some x8) else (slices_IndexFunc_int_int__impl_RowOk_1.l0 k x0 x7 (wrap64 (x8 + 1))))) else (none)) else (none)) else (some (-1))
def slices_IndexFunc_int_int__impl_RowOk_1.f (k:Nat) (l0:List Int) :Option (Int):=slices_IndexFunc_int_int__impl_RowOk_1.l0 k l0 (l0.length:Int) 0
theorem slices_IndexFunc_int_int__impl_RowOk_1.mono_l : ∀ k,(∀ y0 y1 y2,LeO (slices_IndexFunc_int_int__impl_RowOk_1.l0 k y0 y1 y2) (slices_IndexFunc_int_int__impl_RowOk_1.l0 (k + 1) y0 y1 y2))
 | 0=>fun _ _ _ r h=>by simp [slices_IndexFunc_int_int__impl_RowOk_1.l0] at h
 | k + 1=>by
  have ih0:=slices_IndexFunc_int_int__impl_RowOk_1.mono_l k
  ·intro y0 y1 y2
   unfold slices_IndexFunc_int_int__impl_RowOk_1.l0
   repeat' first
   | (with_reducible exact ih0 _ _ _)
   | (with_reducible exact LeO.refl _)
   | (with_reducible exact LeO.none _)
   | (with_reducible refine LeO.ite ?_ ?_)
   | (with_reducible refine LeO.bind ?_ (fun _=>?_))
   | exact LeO.none _
   | refine LeO.ite ?_ ?_
   | refine LeO.bind ?_ (fun _=>?_)
theorem slices_IndexFunc_int_int__impl_RowOk_1.mono : ∀ a0 k,LeO (slices_IndexFunc_int_int__impl_RowOk_1.f k a0) (slices_IndexFunc_int_int__impl_RowOk_1.f (k + 1) a0):=by
 intro a0 k
 have ih0:=slices_IndexFunc_int_int__impl_RowOk_1.mono_l k
 unfold slices_IndexFunc_int_int__impl_RowOk_1.f
 repeat' first
   | (with_reducible exact ih0 _ _ _)
   | (with_reducible exact LeO.refl _)
   | (with_reducible exact LeO.none _)
   | (with_reducible refine LeO.ite ?_ ?_)
   | (with_reducible refine LeO.bind ?_ (fun _=>?_))
   | exact LeO.none _
   | refine LeO.ite ?_ ?_
   | refine LeO.bind ?_ (fun _=>?_)
set_option maxHeartbeats 8000000 in
set_option maxRecDepth 100000 in
theorem slices_IndexFunc_int_int__impl_RowOk_1.calls (k:Nat) (A0:Option Addr) (c0:Nat) (l0:List Int)  (r:Int) (w:World) (hr0:Kd.C (Kd.int .i64) w A0 l0.length l0) (hc0:l0.length≤c0) (h:slices_IndexFunc_int_int__impl_RowOk_1.f k l0=some r) :
  Calls Tryz.prog 74 #[.slice A0 l0.length c0,.func (.func 49) #[] #[]] w fun e w'=>e=.returned (.int .i64 r)∧Drawn0 w w':=by
 have HR0:=Aside0.mk hr0
 have HC0:=Aside0.mk hc0
 clear hr0 hc0
 have H:(slices_IndexFunc_int_int__impl_RowOk_1.l0 k l0 (l0.length:Int) 0)=some r:=h
 clear h
 have H':=Aside0.mk H
 clear H
 go_enter Tryz.func74,Tryz.ntmps74
 go_wp2
 go_loopg [8] k (fun kq v8 w'=>∃ (x8_1:Int),v8=.int .i64 x8_1∧Aside0 (slices_IndexFunc_int_int__impl_RowOk_1.l0 kq l0 (l0.length:Int) x8_1=some r)∧Aside0 (kq≤k)∧Drawn0 w w')
 case atStart=>exact ⟨(0),(by first|rfl|(simp;done)|(simp [*];done)),H',⟨Nat.le_refl _⟩,zdw⟩
 case round =>
  clear H'
  try clear p2
  obtain ⟨x8_1,rfl,HA,HK1,⟨m1,rfl⟩⟩:=hrel
  cases gk with
  | zero=>exact absurd HA.out (by simp [slices_IndexFunc_int_int__impl_RowOk_1.l0])
  | succ k1 =>
   have H:=HA.out
   clear HA
   simp only [slices_IndexFunc_int_int__impl_RowOk_1.l0] at H
   by_cases c3:x8_1 < (l0.length:Int)
   ·rw [if_pos c3] at H
    have c3b0:decide (x8_1 < (l0.length:Int))=true:=decide_eq_true c3
    clear c3
    by_cases c4:0≤x8_1
    ·rw [if_pos c4] at H
     have c4b0:decide (0≤x8_1)=true:=decide_eq_true c4
     clear c4
     by_cases c5:x8_1 < (l0.length:Int)
     ·rw [if_pos c5] at H
      have c5b0:decide (x8_1 < (l0.length:Int))=true:=decide_eq_true c5
      clear c5
      replace H:=Option.bind_eq_some_iff.mp H
      obtain ⟨t195,A60,H⟩:=H
      (try dsimp only at H)
      have A6:=Aside0.mk A60
      clear A60
      by_cases c7:t195=true
      ·subst c7
       have H1:(some x8_1)=some r:=by rw [if_pos rfl] at H;exact H
       clear H
       have H:=H1
       clear H1
       obtain rfl:=Option.some.inj H
       have p194:0≤(x8_1:Int):=zod
       have q194:x8_1 < (l0.length:Int):=zod
       obtain ⟨ad194,e194,hx194_0⟩:=Kd.at_int HR0.out x8_1 p194 q194
       cases e194
       replace p194:=eq_true p194
       replace q194:=eq_true q194
       go_wp2_with (first|(go_at_call 49;(with_reducible refine (impl_RowOk_1.calls (rd l0 x8_1) true _ A6.out).mono ?_);rintro e w' ⟨rfl,⟨nd,rfl⟩⟩))
       go_ret
       exact ⟨by first|rfl|(simp;done)|(simp [*];done),zdw⟩
      ·replace c7:=Bool.eq_false_iff.mpr c7
       subst c7
       have H1:(slices_IndexFunc_int_int__impl_RowOk_1.l0 k1 l0 (l0.length:Int) (wrap64 (x8_1 + 1)))=some r:=by rw [if_neg (show ¬ (false=true) by decide)] at H;exact H
       clear H
       have H:=H1
       clear H1
       have H':=Aside0.mk H
       clear H
       have p194:0≤(x8_1:Int):=zod
       have q194:x8_1 < (l0.length:Int):=zod
       obtain ⟨ad194,e194,hx194_0⟩:=Kd.at_int HR0.out x8_1 p194 q194
       cases e194
       replace p194:=eq_true p194
       replace q194:=eq_true q194
       go_wp2_with (first|(go_at_call 49;(with_reducible refine (impl_RowOk_1.calls (rd l0 x8_1) false _ A6.out).mono ?_);rintro e w' ⟨rfl,⟨nd,rfl⟩⟩))
       go_roundg k1
       case measure=>have:=HK1.out;omega
       case rel=>exact ⟨(wrap64 (x8_1 + 1)),(by first|rfl|(simp;done)|(simp [*];done)),H',⟨by have:=HK1.out;omega⟩,zdw⟩
     ·rw [if_neg c5] at H
      exact absurd H (by simp)
    ·rw [if_neg c4] at H
     exact absurd H (by simp)
   ·rw [if_neg c3] at H
    have c3b0:decide (x8_1 < (l0.length:Int))=false:=decide_eq_false c3
    clear c3
    obtain rfl:=Option.some.inj H
    go_wp2
    go_ret
    exact ⟨by first|rfl|(simp;done)|(simp [*];done),zdw⟩

/-! ### slices_ContainsFunc_int_int__impl_RowOk_1: function 48 -/
def slices_ContainsFunc_int_int__impl_RowOk_1.f (k:Nat) (l0:List Int) :Option (Bool):=(slices_IndexFunc_int_int__impl_RowOk_1.f k l0).bind fun t196=>(some (decide (t196 ≥ 0)))
theorem slices_ContainsFunc_int_int__impl_RowOk_1.mono : ∀ a0 k,LeO (slices_ContainsFunc_int_int__impl_RowOk_1.f k a0) (slices_ContainsFunc_int_int__impl_RowOk_1.f (k + 1) a0):=by
 intro a0 k
 unfold slices_ContainsFunc_int_int__impl_RowOk_1.f
 repeat' first
   | (with_reducible exact slices_IndexFunc_int_int__impl_RowOk_1.mono _ _)
   | (with_reducible exact LeO.refl _)
   | (with_reducible exact LeO.none _)
   | (with_reducible refine LeO.ite ?_ ?_)
   | (with_reducible refine LeO.bind ?_ (fun _=>?_))
   | exact LeO.none _
   | refine LeO.ite ?_ ?_
   | refine LeO.bind ?_ (fun _=>?_)
set_option maxHeartbeats 8000000 in
set_option maxRecDepth 100000 in
theorem slices_ContainsFunc_int_int__impl_RowOk_1.calls (k:Nat) (A0:Option Addr) (c0:Nat) (l0:List Int)  (r:Bool) (w:World) (hr0:Kd.C (Kd.int .i64) w A0 l0.length l0) (hc0:l0.length≤c0) (h:slices_ContainsFunc_int_int__impl_RowOk_1.f k l0=some r) :
  Calls Tryz.prog 48 #[.slice A0 l0.length c0,.func (.func 49) #[] #[]] w fun e w'=>e=.returned (.bool r)∧Drawn0 w w':=by
 have HR0:=Aside0.mk hr0
 have HC0:=Aside0.mk hc0
 clear hr0 hc0
 have H:((slices_IndexFunc_int_int__impl_RowOk_1.f k l0).bind fun t196=>(some (decide (t196 ≥ 0))))=some r:=h
 clear h
 replace H:=Option.bind_eq_some_iff.mp H
 obtain ⟨t196,A30,H⟩:=H
 (try dsimp only at H)
 have A3:=Aside0.mk A30
 clear A30
 obtain rfl:=Option.some.inj H
 go_enter Tryz.func48,Tryz.ntmps48
 go_wp2_with (first|(go_at_call 74;(with_reducible refine (slices_IndexFunc_int_int__impl_RowOk_1.calls k _ _ l0  t196 _ ?side1 ?side2 A3.out).mono ?_);(case side1=>exact zC HR0.out);(case side2=>exact HC0.out);rintro e w' ⟨rfl,⟨nd,rfl⟩⟩))
 go_ret
 exact ⟨by first|rfl|(simp;done)|(simp [*];done),zdw⟩

/-! ### impl_RowOk: function 20 -/
def impl_RowOk.f (k:Nat) (l0:List Int):Option (Bool):=if (l0.length:Int) ≥ 1 then (if (l0.length:Int)≤6 then ((slices_ContainsFunc_int_int__impl_RowOk_1.f k l0).bind fun t197=>(some (!t197))) else (some false)) else (some false)
theorem impl_RowOk.mono : ∀ a0 k,LeO (impl_RowOk.f k a0) (impl_RowOk.f (k + 1) a0):=by
 intro a0 k
 unfold impl_RowOk.f
 repeat' first
   | (with_reducible exact slices_ContainsFunc_int_int__impl_RowOk_1.mono _ _)
   | (with_reducible exact LeO.refl _)
   | (with_reducible exact LeO.none _)
   | (with_reducible refine LeO.ite ?_ ?_)
   | (with_reducible refine LeO.bind ?_ (fun _=>?_))
   | exact LeO.none _
   | refine LeO.ite ?_ ?_
   | refine LeO.bind ?_ (fun _=>?_)
set_option maxHeartbeats 8000000 in
set_option maxRecDepth 100000 in
theorem impl_RowOk.calls (k:Nat) (A0:Option Addr) (c0:Nat) (l0:List Int) (r:Bool) (w:World) (hr0:Kd.C (Kd.int .i64) w A0 l0.length l0) (hc0:l0.length≤c0) (h:impl_RowOk.f k l0=some r) :
  Calls Tryz.prog 20 #[.slice A0 l0.length c0] w fun e w'=>e=.returned (.bool r)∧Drawn0 w w':=by
 have HR0:=Aside0.mk hr0
 have HC0:=Aside0.mk hc0
 clear hr0 hc0
 have H:(if (l0.length:Int) ≥ 1 then (if (l0.length:Int)≤6 then ((slices_ContainsFunc_int_int__impl_RowOk_1.f k l0).bind fun t197=>(some (!t197))) else (some false)) else (some false))=some r:=h
 clear h
 by_cases c2:(l0.length:Int) ≥ 1
 ·rw [if_pos c2] at H
  have c2b0:decide (1≤(l0.length:Int))=true:=decide_eq_true c2
  have c2b1:decide (1≤l0.length)=true:=decide_eq_true (by omega)
  clear c2
  by_cases c3:(l0.length:Int)≤6
  ·rw [if_pos c3] at H
   have c3b0:decide ((l0.length:Int)≤6)=true:=decide_eq_true c3
   have c3b1:decide (l0.length≤6)=true:=decide_eq_true (by omega)
   clear c3
   replace H:=Option.bind_eq_some_iff.mp H
   obtain ⟨t197,A40,H⟩:=H
   (try dsimp only at H)
   have A4:=Aside0.mk A40
   clear A40
   obtain rfl:=Option.some.inj H
   go_enter Tryz.func20,Tryz.ntmps20
   go_wp2_with (first|(go_at_call 48;(with_reducible refine (slices_ContainsFunc_int_int__impl_RowOk_1.calls k _ _ l0  t197 _ ?side1 ?side2 A4.out).mono ?_);(case side1=>exact zC HR0.out);(case side2=>exact HC0.out);rintro e w' ⟨rfl,⟨nd,rfl⟩⟩))
   go_ret
   exact ⟨by first|rfl|(simp;done)|(simp [*];done),zdw⟩
  ·rw [if_neg c3] at H
   have c3b0:decide ((l0.length:Int)≤6)=false:=decide_eq_false c3
   have c3b1:decide (l0.length≤6)=false:=decide_eq_false (by omega)
   clear c3
   obtain rfl:=Option.some.inj H
   go_enter Tryz.func20,Tryz.ntmps20
   go_wp2
   go_ret
   exact ⟨by first|rfl|(simp;done)|(simp [*];done),zdw⟩
 ·rw [if_neg c2] at H
  have c2b0:decide (1≤(l0.length:Int))=false:=decide_eq_false c2
  have c2b1:decide (1≤l0.length)=false:=decide_eq_false (by omega)
  clear c2
  obtain rfl:=Option.some.inj H
  go_enter Tryz.func20,Tryz.ntmps20
  go_wp2
  go_ret
  exact ⟨by first|rfl|(simp;done)|(simp [*];done),zdw⟩

end Go.Proofs.YtgcplipimcbhlaaGreatDoor.PFnZRead
