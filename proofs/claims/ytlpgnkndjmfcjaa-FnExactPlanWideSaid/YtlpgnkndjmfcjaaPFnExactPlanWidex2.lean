-- Written by wip/tools/pp.py, a program of this session over the kit's printer: not the kit's own print
import Derived.Test.YtlpgnkndjmfcjaaPFnExactPlanWidex1
namespace Go.Proofs.Ytlpgnkndjmfcjaa.PFnExactPlanWide
open Go.RowKit Go.Proofs.YtlpgnkndjmfcjaaW.PrintWords Go.Proofs.YtlpgnkndjmfcjaaW.PrintLast Go.Proofs.YtlpgnkndjmfcjaaW.PrintMore
attribute [local go_sem] max2_int min2_int max_two min_two max_three min_three max_four min_four   -- for this text's walks alone
set_option linter.unusedVariables false
set_option linter.unusedSimpArgs false
/-! ### slices_Index_int_int: function 125 -/
def slices_Index_int_int.l0:Nat→List Int→Int→Int→Int→Option (Int)
 | 0,_,_,_,_=>none
 | k + 1,x0,x1,x7,x8=>if x8 < x7 then (if 0≤x8 then (if x8 < (x0.length:Int) then (if x1=(rd x0 x8) then (some x8) else (slices_Index_int_int.l0 k x0 x1 x7 (wrap64 (x8 + 1)))) else (none)) else (none)) else (some (-1))
def slices_Index_int_int.f (k:Nat) (l0:List Int) (a1:Int):Option (Int):=slices_Index_int_int.l0 k l0 a1 (l0.length:Int) 0
theorem slices_Index_int_int.mono_l : ∀ k,(∀ y0 y1 y2 y3,LeO (slices_Index_int_int.l0 k y0 y1 y2 y3) (slices_Index_int_int.l0 (k + 1) y0 y1 y2 y3))
 | 0=>fun _ _ _ _ r h=>by simp [slices_Index_int_int.l0] at h
 | k + 1=>by
  have ih0:=slices_Index_int_int.mono_l k
  ·intro y0 y1 y2 y3
   unfold slices_Index_int_int.l0
   repeat' first
   | (with_reducible exact ih0 _ _ _ _)
   | (with_reducible exact LeO.refl _)
   | (with_reducible exact LeO.none _)
   | (with_reducible refine LeO.ite ?_ ?_)
   | (with_reducible refine LeO.bind ?_ (fun _=>?_))
   | exact LeO.none _
   | refine LeO.ite ?_ ?_
   | refine LeO.bind ?_ (fun _=>?_)
theorem slices_Index_int_int.mono : ∀ a0 a1 k,LeO (slices_Index_int_int.f k a0 a1) (slices_Index_int_int.f (k + 1) a0 a1):=by
 intro a0 a1 k
 have ih0:=slices_Index_int_int.mono_l k
 unfold slices_Index_int_int.f
 repeat' first
   | (with_reducible exact ih0 _ _ _ _)
   | (with_reducible exact LeO.refl _)
   | (with_reducible exact LeO.none _)
   | (with_reducible refine LeO.ite ?_ ?_)
   | (with_reducible refine LeO.bind ?_ (fun _=>?_))
   | exact LeO.none _
   | refine LeO.ite ?_ ?_
   | refine LeO.bind ?_ (fun _=>?_)
set_option maxHeartbeats 8000000 in
set_option maxRecDepth 100000 in
theorem slices_Index_int_int.calls (k:Nat) (A0:Option Addr) (c0:Nat) (l0:List Int) (a1:Int) (r:Int) (w:World) (hr0:Kd.C (Kd.int .i64) w A0 l0.length l0) (hc0:l0.length≤c0) (h:slices_Index_int_int.f k l0 a1=some r) :
  Calls Try.prog 125 #[.slice A0 l0.length c0,.int .i64 a1] w fun e w'=>e=.returned (.int .i64 r)∧Drawn0 w w':=by
 have HR0:=Aside0.mk hr0
 have HC0:=Aside0.mk hc0
 clear hr0 hc0
 have H:(slices_Index_int_int.l0 k l0 a1 (l0.length:Int) 0)=some r:=h
 clear h
 have H':=Aside0.mk H
 clear H
 go_enter Try.func125,Try.ntmps125
 go_wp2
 go_loopg [8] k (fun kq v8 w'=>∃ (x8_1:Int),v8=.int .i64 x8_1∧Aside0 (slices_Index_int_int.l0 kq l0 a1 (l0.length:Int) x8_1=some r)∧Aside0 (kq≤k)∧Drawn0 w w')
 case atStart=>exact ⟨(0),(by first|rfl|(simp;done)|(simp [*];done)),H',⟨Nat.le_refl _⟩,zdw⟩
 case round =>
  clear H'
  try clear c1
  try clear p2
  obtain ⟨x8_1,rfl,HA,HK1,⟨m1,rfl⟩⟩:=hrel
  cases gk with
  | zero=>exact absurd HA.out (by simp [slices_Index_int_int.l0])
  | succ k1 =>
   have H:=HA.out
   clear HA
   simp only [slices_Index_int_int.l0] at H
   by_cases c3:x8_1 < (l0.length:Int)
   ·rw [if_pos c3] at H
    have c3b0:decide (x8_1 < (l0.length:Int))=true:=decide_eq_true c3
    clear c3
    by_cases c4:0≤x8_1
    ·rw [if_pos c4] at H
     have c4b0:decide (0≤x8_1)=true:=decide_eq_true c4
     clear c4
     by_cases c5:x8_1 < (l0.length:Int)
     ·rw [if_pos c5] at H
      have c5b0:decide (x8_1 < (l0.length:Int))=true:=decide_eq_true c5
      clear c5
      by_cases c6:a1=(rd l0 x8_1)
      ·rw [if_pos c6] at H
       have c6b0:(a1 == (rd l0 x8_1))=true:=beq_iff_eq.mpr c6
       have c6b1:(a1 != (rd l0 x8_1))=false:=bne_eq_false_iff_eq.mpr c6
       clear c6
       obtain rfl:=Option.some.inj H
       have p231:0≤(x8_1:Int):=zod
       have q231:x8_1 < (l0.length:Int):=zod
       obtain ⟨ad231,e231,hx231_0⟩:=Kd.at_int HR0.out x8_1 p231 q231
       cases e231
       replace p231:=eq_true p231
       replace q231:=eq_true q231
       go_wp2
       go_ret
       exact ⟨by first|rfl|(simp;done)|(simp [*];done),zdw⟩
      ·rw [if_neg c6] at H
       have c6b0:(a1 == (rd l0 x8_1))=false:=beq_eq_false_iff_ne.mpr c6
       have c6b1:(a1 != (rd l0 x8_1))=true:=bne_iff_ne.mpr c6
       have H':=Aside0.mk H
       clear H
       have p231:0≤(x8_1:Int):=zod
       have q231:x8_1 < (l0.length:Int):=zod
       obtain ⟨ad231,e231,hx231_0⟩:=Kd.at_int HR0.out x8_1 p231 q231
       cases e231
       replace p231:=eq_true p231
       replace q231:=eq_true q231
       go_wp2
       go_roundg k1
       case measure=>have:=HK1.out;omega
       case rel=>exact ⟨(wrap64 (x8_1 + 1)),(by first|rfl|(simp;done)|(simp [*];done)),H',⟨by have:=HK1.out;omega⟩,zdw⟩
     ·rw [if_neg c5] at H
      exact absurd H (by simp)
    ·rw [if_neg c4] at H
     exact absurd H (by simp)
   ·rw [if_neg c3] at H
    have c3b0:decide (x8_1 < (l0.length:Int))=false:=decide_eq_false c3
    clear c3
    obtain rfl:=Option.some.inj H
    go_wp2
    go_ret
    exact ⟨by first|rfl|(simp;done)|(simp [*];done),zdw⟩

/-! ### slices_Contains_int_int: function 124 -/
def slices_Contains_int_int.f (k:Nat) (l0:List Int) (a1:Int):Option (Bool):=(slices_Index_int_int.f k l0 a1).bind fun t232=>(some (decide (t232 ≥ 0)))
theorem slices_Contains_int_int.mono : ∀ a0 a1 k,LeO (slices_Contains_int_int.f k a0 a1) (slices_Contains_int_int.f (k + 1) a0 a1):=by
 intro a0 a1 k
 unfold slices_Contains_int_int.f
 repeat' first
   | (with_reducible exact slices_Index_int_int.mono _ _ _)
   | (with_reducible exact LeO.refl _)
   | (with_reducible exact LeO.none _)
   | (with_reducible refine LeO.ite ?_ ?_)
   | (with_reducible refine LeO.bind ?_ (fun _=>?_))
   | exact LeO.none _
   | refine LeO.ite ?_ ?_
   | refine LeO.bind ?_ (fun _=>?_)
set_option maxHeartbeats 8000000 in
set_option maxRecDepth 100000 in
theorem slices_Contains_int_int.calls (k:Nat) (A0:Option Addr) (c0:Nat) (l0:List Int) (a1:Int) (r:Bool) (w:World) (hr0:Kd.C (Kd.int .i64) w A0 l0.length l0) (hc0:l0.length≤c0) (h:slices_Contains_int_int.f k l0 a1=some r) :
  Calls Try.prog 124 #[.slice A0 l0.length c0,.int .i64 a1] w fun e w'=>e=.returned (.bool r)∧Drawn0 w w':=by
 have HR0:=Aside0.mk hr0
 have HC0:=Aside0.mk hc0
 clear hr0 hc0
 have H:((slices_Index_int_int.f k l0 a1).bind fun t232=>(some (decide (t232 ≥ 0))))=some r:=h
 clear h
 replace H:=Option.bind_eq_some_iff.mp H
 obtain ⟨t232,A30,H⟩:=H
 (try dsimp only at H)
 have A3:=Aside0.mk A30
 clear A30
 obtain rfl:=Option.some.inj H
 go_enter Try.func124,Try.ntmps124
 go_wp2_with (first|((with_reducible refine gate_callee (f:=125) rfl ?_);refine goesL_ (some 7) rfl rfl Try.func125 (by kernel_rfl) rfl #[.slice A0 l0.length c0,.int .i64 a1] rfl zar ?_;(with_reducible refine (slices_Index_int_int.calls k _ _ l0 a1 t232 _ ?side1 ?side2 A3.out).mono ?_);(case side1=>exact zC HR0.out);(case side2=>exact HC0.out);rintro e w' ⟨rfl,⟨nd,rfl⟩⟩;refine ⟨_,rfl,?_⟩))
 go_ret
 exact ⟨by first|rfl|(simp;done)|(simp [*];done),zdw⟩

/-! ### impl_keysOk: function 123 -/
def impl_keysOk.l0:Nat→List Int→Int→List Int→Int→Int→Option (Bool)
 | 0,_,_,_,_,_=>none
 | k + 1,x0,x1,x10,x11,x12=>if x12 < x11 then (if 0≤x12 then (if x12 < (x10.length:Int) then ((impl_isPlace.f (rd x10 x12) x1).bind fun t234=>(if t234=true then (if x12≤(x0.length:Int) then ((slices_Contains_int_int.f k (x0.take (x12:Int).toNat) (rd x10 x12)).bind fun t236=>(if t236=true then (some false) else (impl_keysOk.l0 k x0 x1 x10 x11 (wrap64 (x12 + 1))))) else (none)) else (some false))) else (none)) else (none)) else (some true)
def impl_keysOk.f (k:Nat) (l0:List Int) (a1:Int):Option (Bool):=if (l0.length:Int) ≥ 6 then (some false) else (impl_keysOk.l0 k l0 a1 l0 (l0.length:Int) 0)
theorem impl_keysOk.mono_l : ∀ k,(∀ y0 y1 y2 y3 y4,LeO (impl_keysOk.l0 k y0 y1 y2 y3 y4) (impl_keysOk.l0 (k + 1) y0 y1 y2 y3 y4))
 | 0=>fun _ _ _ _ _ r h=>by simp [impl_keysOk.l0] at h
 | k + 1=>by
  have ih0:=impl_keysOk.mono_l k
  ·intro y0 y1 y2 y3 y4
   unfold impl_keysOk.l0
   repeat' first
   | (with_reducible exact ih0 _ _ _ _ _)
   | (with_reducible exact slices_Contains_int_int.mono _ _ _)
   | (with_reducible exact LeO.refl _)
   | (with_reducible exact LeO.none _)
   | (with_reducible refine LeO.ite ?_ ?_)
   | (with_reducible refine LeO.bind ?_ (fun _=>?_))
   | exact LeO.none _
   | refine LeO.ite ?_ ?_
   | refine LeO.bind ?_ (fun _=>?_)
theorem impl_keysOk.mono : ∀ a0 a1 k,LeO (impl_keysOk.f k a0 a1) (impl_keysOk.f (k + 1) a0 a1):=by
 intro a0 a1 k
 have ih0:=impl_keysOk.mono_l k
 unfold impl_keysOk.f
 repeat' first
   | (with_reducible exact ih0 _ _ _ _ _)
   | (with_reducible exact slices_Contains_int_int.mono _ _ _)
   | (with_reducible exact LeO.refl _)
   | (with_reducible exact LeO.none _)
   | (with_reducible refine LeO.ite ?_ ?_)
   | (with_reducible refine LeO.bind ?_ (fun _=>?_))
   | exact LeO.none _
   | refine LeO.ite ?_ ?_
   | refine LeO.bind ?_ (fun _=>?_)
set_option maxHeartbeats 8000000 in
set_option maxRecDepth 100000 in
theorem impl_keysOk.calls (k:Nat) (A0:Option Addr) (c0:Nat) (l0:List Int) (a1:Int) (r:Bool) (w:World) (hr0:Kd.C (Kd.int .i64) w A0 l0.length l0) (hc0:l0.length≤c0) (h:impl_keysOk.f k l0 a1=some r) :
  Calls Try.prog 123 #[.slice A0 l0.length c0,.int .i64 a1] w fun e w'=>e=.returned (.bool r)∧Below w.heap.size w w':=by
 have HR0:=Aside0.mk hr0
 have HC0:=Aside0.mk hc0
 clear hr0 hc0
 have HB:=Aside0.mk (Below.refl w.heap.size w)
 have H:(if (l0.length:Int) ≥ 6 then (some false) else (impl_keysOk.l0 k l0 a1 l0 (l0.length:Int) 0))=some r:=h
 clear h
 by_cases c3:(l0.length:Int) ≥ 6
 ·rw [if_pos c3] at H
  have c3b0:decide (6≤(l0.length:Int))=true:=decide_eq_true c3
  have c3b1:decide (6≤l0.length)=true:=decide_eq_true (by omega)
  clear c3
  obtain rfl:=Option.some.inj H
  go_enter Try.func123,Try.ntmps123
  go_wp2
  go_ret
  exact ⟨by first|rfl|(simp [errW_none,errW_some] <;> rfl)|(simp [*,errW_none,errW_some] <;> rfl),zhb⟩
 ·rw [if_neg c3] at H
  have c3b0:decide (6≤(l0.length:Int))=false:=decide_eq_false c3
  have c3b1:decide (6≤l0.length)=false:=decide_eq_false (by omega)
  clear c3
  have H':=Aside0.mk H
  clear H
  go_enter Try.func123,Try.ntmps123
  go_wp2
  go_loopg [12] k (fun kq v12 w'=>∃ (x12_1:Int),v12=.int .i64 x12_1∧Aside0 (impl_keysOk.l0 kq l0 a1 l0 (l0.length:Int) x12_1=some r)∧Aside0 (kq≤k)∧Aside0 (Below w.heap.size w w'))
  case atStart=>exact ⟨(0),(by first|rfl|(simp;done)|(simp [*];done)),H',⟨Nat.le_refl _⟩,⟨zhb⟩⟩
  case round =>
   clear H'
   try clear c1
   try clear p2
   try clear c3
   try clear c3b0
   try clear c3b1
   obtain ⟨x12_1,rfl,HA,HK1,HB⟩:=hrel
   cases gk with
   | zero=>exact absurd HA.out (by simp [impl_keysOk.l0])
   | succ k1 =>
    have H:=HA.out
    clear HA
    simp only [impl_keysOk.l0] at H
    by_cases c4:x12_1 < (l0.length:Int)
    ·rw [if_pos c4] at H
     have c4b0:decide (x12_1 < (l0.length:Int))=true:=decide_eq_true c4
     clear c4
     by_cases c5:0≤x12_1
     ·rw [if_pos c5] at H
      have c5b0:decide (0≤x12_1)=true:=decide_eq_true c5
      clear c5
      by_cases c6:x12_1 < (l0.length:Int)
      ·rw [if_pos c6] at H
       have c6b0:decide (x12_1 < (l0.length:Int))=true:=decide_eq_true c6
       clear c6
       replace H:=Option.bind_eq_some_iff.mp H
       obtain ⟨t234,A70,H⟩:=H
       (try dsimp only at H)
       have A7:=Aside0.mk A70
       clear A70
       by_cases c8:t234=true
       ·subst c8
        have H1:(if x12_1≤(l0.length:Int) then ((slices_Contains_int_int.f k1 (l0.take (x12_1:Int).toNat) (rd l0 x12_1)).bind fun t236=>(if t236=true then (some false) else (impl_keysOk.l0 k1 l0 a1 l0 (l0.length:Int) (wrap64 (x12_1 + 1))))) else (none))=some r:=by rw [if_pos rfl] at H;exact H
        clear H
        have H:=H1
        clear H1
        have c9b0:=eq_true (zod:0≤x12_1)
        by_cases c10:x12_1≤(l0.length:Int)
        ·rw [if_pos c10] at H
         have c10b0:=eq_true c10
         have c10b1:decide (x12_1≤(l0.length:Int))=true:=decide_eq_true c10
         clear c10
         replace H:=Option.bind_eq_some_iff.mp H
         obtain ⟨t236,A110,H⟩:=H
         (try dsimp only at H)
         have A11:=Aside0.mk A110
         clear A110
         by_cases c12:t236=true
         ·subst c12
          have H1:(some false)=some r:=by rw [if_pos rfl] at H;exact H
          clear H
          have H:=H1
          clear H1
          obtain rfl:=Option.some.inj H
          have p233:0≤(x12_1:Int):=zod
          have q233:x12_1 < (l0.length:Int):=zod
          obtain ⟨ad233,e233,hx233_0⟩:=Kd.at_int HR0.out x12_1 p233 q233
          cases e233
          replace hx233_0:=(HB.out.cell (World.block_lt_of_cell? w _ hx233_0)).trans hx233_0
          replace p233:=eq_true p233
          replace q233:=eq_true q233
          go_wp2_with (first|((with_reducible refine gate_callee (f:=107) rfl ?_);refine goesL_ (some 19) rfl rfl Try.func107 (by kernel_rfl) rfl #[.int .i64 (rd l0 x12_1),.int .i64 a1] rfl zar ?_;(with_reducible refine (impl_isPlace.calls (rd l0 x12_1) a1 true _ A7.out).mono ?_);rintro e w13 ⟨rfl,hb⟩;refine ⟨_,rfl,?_⟩;have n0_:=Aside0.mk (below_step zhb hb);clear HB;have HB:=n0_;clear n0_;(try clear hb);(try clear hb2);(try clear hk);(try clear hi);obtain ⟨i014,hi014,_,hsz14,_⟩:=info_parts info3;obtain ⟨hcut14,hA14,hC14⟩:=print_take_of (P:=Try.prog) (Value.int .i64) 0 27 3 .i64 Try.underlying27 hi014 hsz14 (some ad233) c0 l0 x12_1 (zod) (zod) HC0.out;have HR235:=Aside0.mk (Kd.C_of_reads (h1:=fun _=>rfl) (hA14 _ (Kd.reads_of_C HR0.out)));have HC235:=Aside0.mk hC14;clear hA14 hC14 hi014 hsz14)|(go_at_call 124;rw [show x12_1.toNat = (l0.take x12_1.toNat).length by rw [List.length_take]; exact (Nat.min_eq_left (by have h1_ : 0 ≤ (x12_1:Int) := zod; have h2_ : x12_1 < (l0.length:Int) := zod; omega)).symm];(with_reducible refine (slices_Contains_int_int.calls k1 _ _ (l0.take (x12_1:Int).toNat) (rd l0 x12_1) true _ ?side1 ?side2 A11.out).mono ?_);(case side1=>exact zC (Kd.C_below HR235.out HB.out));(case side2=>exact HC235.out);rintro e w' ⟨rfl,⟨nd,rfl⟩⟩))
          go_ret
          exact ⟨by first|rfl|(simp [errW_none,errW_some] <;> rfl)|(simp [*,errW_none,errW_some] <;> rfl),zhb⟩
         ·replace c12:=Bool.eq_false_iff.mpr c12
          subst c12
          have H1:(impl_keysOk.l0 k1 l0 a1 l0 (l0.length:Int) (wrap64 (x12_1 + 1)))=some r:=by rw [if_neg (show ¬ (false=true) by decide)] at H;exact H
          clear H
          have H:=H1
          clear H1
          have H':=Aside0.mk H
          clear H
          have p233:0≤(x12_1:Int):=zod
          have q233:x12_1 < (l0.length:Int):=zod
          obtain ⟨ad233,e233,hx233_0⟩:=Kd.at_int HR0.out x12_1 p233 q233
          cases e233
          replace hx233_0:=(HB.out.cell (World.block_lt_of_cell? w _ hx233_0)).trans hx233_0
          replace p233:=eq_true p233
          replace q233:=eq_true q233
          go_wp2_with (first|((with_reducible refine gate_callee (f:=107) rfl ?_);refine goesL_ (some 19) rfl rfl Try.func107 (by kernel_rfl) rfl #[.int .i64 (rd l0 x12_1),.int .i64 a1] rfl zar ?_;(with_reducible refine (impl_isPlace.calls (rd l0 x12_1) a1 true _ A7.out).mono ?_);rintro e w15 ⟨rfl,hb⟩;refine ⟨_,rfl,?_⟩;have n0_:=Aside0.mk (below_step zhb hb);clear HB;have HB:=n0_;clear n0_;(try clear hb);(try clear hb2);(try clear hk);(try clear hi);obtain ⟨i016,hi016,_,hsz16,_⟩:=info_parts info3;obtain ⟨hcut16,hA16,hC16⟩:=print_take_of (P:=Try.prog) (Value.int .i64) 0 27 3 .i64 Try.underlying27 hi016 hsz16 (some ad233) c0 l0 x12_1 (zod) (zod) HC0.out;have HR235:=Aside0.mk (Kd.C_of_reads (h1:=fun _=>rfl) (hA16 _ (Kd.reads_of_C HR0.out)));have HC235:=Aside0.mk hC16;clear hA16 hC16 hi016 hsz16)|(go_at_call 124;rw [show x12_1.toNat = (l0.take x12_1.toNat).length by rw [List.length_take]; exact (Nat.min_eq_left (by have h1_ : 0 ≤ (x12_1:Int) := zod; have h2_ : x12_1 < (l0.length:Int) := zod; omega)).symm];(with_reducible refine (slices_Contains_int_int.calls k1 _ _ (l0.take (x12_1:Int).toNat) (rd l0 x12_1) false _ ?side1 ?side2 A11.out).mono ?_);(case side1=>exact zC (Kd.C_below HR235.out HB.out));(case side2=>exact HC235.out);rintro e w' ⟨rfl,⟨nd,rfl⟩⟩))
          go_roundg k1
          case measure=>have:=HK1.out;omega
          case rel=>exact ⟨(wrap64 (x12_1 + 1)),(by first|rfl|(simp;done)|(simp [*];done)),H',⟨by have:=HK1.out;omega⟩,⟨zhb⟩⟩
        ·rw [if_neg c10] at H
         exact absurd H (by simp)
       ·replace c8:=Bool.eq_false_iff.mpr c8
        subst c8
        have H1:(some false)=some r:=by rw [if_neg (show ¬ (false=true) by decide)] at H;exact H
        clear H
        have H:=H1
        clear H1
        obtain rfl:=Option.some.inj H
        have p233:0≤(x12_1:Int):=zod
        have q233:x12_1 < (l0.length:Int):=zod
        obtain ⟨ad233,e233,hx233_0⟩:=Kd.at_int HR0.out x12_1 p233 q233
        cases e233
        replace hx233_0:=(HB.out.cell (World.block_lt_of_cell? w _ hx233_0)).trans hx233_0
        replace p233:=eq_true p233
        replace q233:=eq_true q233
        go_wp2_with (first|((with_reducible refine gate_callee (f:=107) rfl ?_);refine goesL_ (some 19) rfl rfl Try.func107 (by kernel_rfl) rfl #[.int .i64 (rd l0 x12_1),.int .i64 a1] rfl zar ?_;(with_reducible refine (impl_isPlace.calls (rd l0 x12_1) a1 false _ A7.out).mono ?_);rintro e w17 ⟨rfl,hb⟩;refine ⟨_,rfl,?_⟩;have n0_:=Aside0.mk (below_step zhb hb);clear HB;have HB:=n0_;clear n0_;(try clear hb);(try clear hb2);(try clear hk);(try clear hi)))
        go_ret
        exact ⟨by first|rfl|(simp [errW_none,errW_some] <;> rfl)|(simp [*,errW_none,errW_some] <;> rfl),zhb⟩
      ·rw [if_neg c6] at H
       exact absurd H (by simp)
     ·rw [if_neg c5] at H
      exact absurd H (by simp)
    ·rw [if_neg c4] at H
     have c4b0:decide (x12_1 < (l0.length:Int))=false:=decide_eq_false c4
     clear c4
     obtain rfl:=Option.some.inj H
     go_wp2
     go_ret
     exact ⟨by first|rfl|(simp [errW_none,errW_some] <;> rfl)|(simp [*,errW_none,errW_some] <;> rfl),zhb⟩

/-! ### spec_l4Kids: function 49 -/
def spec_l4Kids.f (a0:Int):Option (Int):=if a0=1 then (some 0) else (if a0=2 then (some 1) else (if a0=3 then (some 1) else (if a0=6 then (some 1) else (if a0=7 then (some 1) else (if a0=4 then (some 2) else (if a0=5 then (some 2) else (some (-1))))))))
set_option maxHeartbeats 8000000 in
set_option maxRecDepth 100000 in
theorem spec_l4Kids.calls (a0:Int) (r:Int) (w:World) (h:spec_l4Kids.f a0=some r) :
  Calls Try.prog 49 #[.int .i64 a0] w fun e w'=>e=.returned (.int .i64 r)∧Drawn0 w w':=by
 have H:(if a0=1 then (some 0) else (if a0=2 then (some 1) else (if a0=3 then (some 1) else (if a0=6 then (some 1) else (if a0=7 then (some 1) else (if a0=4 then (some 2) else (if a0=5 then (some 2) else (some (-1)))))))))=some r:=h
 clear h
 by_cases c2:a0=1
 ·rw [if_pos c2] at H
  have c2b0:(a0 == 1)=true:=beq_iff_eq.mpr c2
  have c2b1:(a0 != 1)=false:=bne_eq_false_iff_eq.mpr c2
  clear c2
  obtain rfl:=Option.some.inj H
  go_enter Try.func49,Try.ntmps49
  go_wp2
  go_ret
  exact ⟨by first|rfl|(simp;done)|(simp [*];done),zdw⟩
 ·rw [if_neg c2] at H
  have c2b0:(a0 == 1)=false:=beq_eq_false_iff_ne.mpr c2
  have c2b1:(a0 != 1)=true:=bne_iff_ne.mpr c2
  by_cases c3:a0=2
  ·rw [if_pos c3] at H
   have c3b0:(a0 == 2)=true:=beq_iff_eq.mpr c3
   have c3b1:(a0 != 2)=false:=bne_eq_false_iff_eq.mpr c3
   clear c3
   obtain rfl:=Option.some.inj H
   go_enter Try.func49,Try.ntmps49
   go_wp2
   go_ret
   exact ⟨by first|rfl|(simp;done)|(simp [*];done),zdw⟩
  ·rw [if_neg c3] at H
   have c3b0:(a0 == 2)=false:=beq_eq_false_iff_ne.mpr c3
   have c3b1:(a0 != 2)=true:=bne_iff_ne.mpr c3
   by_cases c4:a0=3
   ·rw [if_pos c4] at H
    have c4b0:(a0 == 3)=true:=beq_iff_eq.mpr c4
    have c4b1:(a0 != 3)=false:=bne_eq_false_iff_eq.mpr c4
    clear c4
    obtain rfl:=Option.some.inj H
    go_enter Try.func49,Try.ntmps49
    go_wp2
    go_ret
    exact ⟨by first|rfl|(simp;done)|(simp [*];done),zdw⟩
   ·rw [if_neg c4] at H
    have c4b0:(a0 == 3)=false:=beq_eq_false_iff_ne.mpr c4
    have c4b1:(a0 != 3)=true:=bne_iff_ne.mpr c4
    by_cases c5:a0=6
    ·rw [if_pos c5] at H
     have c5b0:(a0 == 6)=true:=beq_iff_eq.mpr c5
     have c5b1:(a0 != 6)=false:=bne_eq_false_iff_eq.mpr c5
     clear c5
     obtain rfl:=Option.some.inj H
     go_enter Try.func49,Try.ntmps49
     go_wp2
     go_ret
     exact ⟨by first|rfl|(simp;done)|(simp [*];done),zdw⟩
    ·rw [if_neg c5] at H
     have c5b0:(a0 == 6)=false:=beq_eq_false_iff_ne.mpr c5
     have c5b1:(a0 != 6)=true:=bne_iff_ne.mpr c5
     by_cases c6:a0=7
     ·rw [if_pos c6] at H
      have c6b0:(a0 == 7)=true:=beq_iff_eq.mpr c6
      have c6b1:(a0 != 7)=false:=bne_eq_false_iff_eq.mpr c6
      clear c6
      obtain rfl:=Option.some.inj H
      go_enter Try.func49,Try.ntmps49
      go_wp2
      go_ret
      exact ⟨by first|rfl|(simp;done)|(simp [*];done),zdw⟩
     ·rw [if_neg c6] at H
      have c6b0:(a0 == 7)=false:=beq_eq_false_iff_ne.mpr c6
      have c6b1:(a0 != 7)=true:=bne_iff_ne.mpr c6
      by_cases c7:a0=4
      ·rw [if_pos c7] at H
       have c7b0:(a0 == 4)=true:=beq_iff_eq.mpr c7
       have c7b1:(a0 != 4)=false:=bne_eq_false_iff_eq.mpr c7
       clear c7
       obtain rfl:=Option.some.inj H
       go_enter Try.func49,Try.ntmps49
       go_wp2
       go_ret
       exact ⟨by first|rfl|(simp;done)|(simp [*];done),zdw⟩
      ·rw [if_neg c7] at H
       have c7b0:(a0 == 4)=false:=beq_eq_false_iff_ne.mpr c7
       have c7b1:(a0 != 4)=true:=bne_iff_ne.mpr c7
       by_cases c8:a0=5
       ·rw [if_pos c8] at H
        have c8b0:(a0 == 5)=true:=beq_iff_eq.mpr c8
        have c8b1:(a0 != 5)=false:=bne_eq_false_iff_eq.mpr c8
        clear c8
        obtain rfl:=Option.some.inj H
        go_enter Try.func49,Try.ntmps49
        go_wp2
        go_ret
        exact ⟨by first|rfl|(simp;done)|(simp [*];done),zdw⟩
       ·rw [if_neg c8] at H
        have c8b0:(a0 == 5)=false:=beq_eq_false_iff_ne.mpr c8
        have c8b1:(a0 != 5)=true:=bne_iff_ne.mpr c8
        obtain rfl:=Option.some.inj H
        go_enter Try.func49,Try.ntmps49
        go_wp2
        go_ret
        exact ⟨by first|rfl|(simp;done)|(simp [*];done),zdw⟩

/-! ### spec_l3Col: function 53 -/
def spec_l3Col.f (a0:Int) (a1:Int):Option (Bool):=if a0 ≥ 0 then (if a0 < a1 then (some (decide (a0 < 6))) else (some false)) else (some false)
set_option maxHeartbeats 8000000 in
set_option maxRecDepth 100000 in
theorem spec_l3Col.calls (a0:Int) (a1:Int) (r:Bool) (w:World) (h:spec_l3Col.f a0 a1=some r) :
  Calls Try.prog 53 #[.int .i64 a0,.int .i64 a1] w fun e w'=>e=.returned (.bool r)∧Drawn0 w w':=by
 have H:(if a0 ≥ 0 then (if a0 < a1 then (some (decide (a0 < 6))) else (some false)) else (some false))=some r:=h
 clear h
 by_cases c3:a0 ≥ 0
 ·rw [if_pos c3] at H
  have c3b0:decide (0≤a0)=true:=decide_eq_true c3
  clear c3
  by_cases c4:a0 < a1
  ·rw [if_pos c4] at H
   have c4b0:decide (a0 < a1)=true:=decide_eq_true c4
   clear c4
   obtain rfl:=Option.some.inj H
   go_enter Try.func53,Try.ntmps53
   go_wp2
   go_ret
   exact ⟨by first|rfl|(simp;done)|(simp [*];done),zdw⟩
  ·rw [if_neg c4] at H
   have c4b0:decide (a0 < a1)=false:=decide_eq_false c4
   clear c4
   obtain rfl:=Option.some.inj H
   go_enter Try.func53,Try.ntmps53
   go_wp2
   go_ret
   exact ⟨by first|rfl|(simp;done)|(simp [*];done),zdw⟩
 ·rw [if_neg c3] at H
  have c3b0:decide (0≤a0)=false:=decide_eq_false c3
  clear c3
  obtain rfl:=Option.some.inj H
  go_enter Try.func53,Try.ntmps53
  go_wp2
  go_ret
  exact ⟨by first|rfl|(simp;done)|(simp [*];done),zdw⟩

/-! ### spec_l1Cell: function 64 -/
def spec_l1Cell.f (a0:Int):Option (Bool):=if a0 ≥ (-1000000000) then (some (decide (a0≤1000000000))) else (some false)
set_option maxHeartbeats 8000000 in
set_option maxRecDepth 100000 in
theorem spec_l1Cell.calls (a0:Int) (r:Bool) (w:World) (h:spec_l1Cell.f a0=some r) :
  Calls Try.prog 64 #[.int .i64 a0] w fun e w'=>e=.returned (.bool r)∧Drawn0 w w':=by
 have H:(if a0 ≥ (-1000000000) then (some (decide (a0≤1000000000))) else (some false))=some r:=h
 clear h
 by_cases c2:a0 ≥ (-1000000000)
 ·rw [if_pos c2] at H
  have c2b0:decide ((-1000000000)≤a0)=true:=decide_eq_true c2
  clear c2
  obtain rfl:=Option.some.inj H
  go_enter Try.func64,Try.ntmps64
  go_wp2
  go_ret
  exact ⟨by first|rfl|(simp;done)|(simp [*];done),zdw⟩
 ·rw [if_neg c2] at H
  have c2b0:decide ((-1000000000)≤a0)=false:=decide_eq_false c2
  clear c2
  obtain rfl:=Option.some.inj H
  go_enter Try.func64,Try.ntmps64
  go_wp2
  go_ret
  exact ⟨by first|rfl|(simp;done)|(simp [*];done),zdw⟩

/-! ### spec_CellOk: function 60 -/
def spec_CellOk.f (a0_0:Int) (a0_1:Int) (a0_2:Int) (a0_3:Int) (a1:Int):Option (Bool):=if a0_0=1 then ((spec_l3Col.f a0_1 a1).bind fun t238=>(if t238=true then (if a0_2=0 then (some (a0_3 == 0)) else (some false)) else (some false))) else (if a0_0=2 then (if a0_1=0 then (if a0_2=0 then ((spec_l1Cell.f a0_3).bind fun t239=>(some t239)) else (some false)) else (some false)) else (if a0_0=3 then ((spec_l3Col.f a0_1 a1).bind fun t240=>(if t240=true then ((spec_l3Col.f a0_2 a1).bind fun t241=>(if t241=true then (some (a0_3 == 0)) else (some false))) else (some false))) else (some false)))
set_option maxHeartbeats 8000000 in
set_option maxRecDepth 100000 in
theorem spec_CellOk.calls (a0_0:Int) (a0_1:Int) (a0_2:Int) (a0_3:Int) (a1:Int) (r:Bool) (w:World) (h:spec_CellOk.f a0_0 a0_1 a0_2 a0_3 a1=some r) :
  Calls Try.prog 60 #[.agg #[.int .i64 a0_0,.int .i64 a0_1,.int .i64 a0_2,.int .i64 a0_3],.int .i64 a1] w fun e w'=>e=.returned (.bool r)∧Below w.heap.size w w':=by
 have hu33:=Try.underlying33
 have HB:=Aside0.mk (Below.refl w.heap.size w)
 have H:(if a0_0=1 then ((spec_l3Col.f a0_1 a1).bind fun t238=>(if t238=true then (if a0_2=0 then (some (a0_3 == 0)) else (some false)) else (some false))) else (if a0_0=2 then (if a0_1=0 then (if a0_2=0 then ((spec_l1Cell.f a0_3).bind fun t239=>(some t239)) else (some false)) else (some false)) else (if a0_0=3 then ((spec_l3Col.f a0_1 a1).bind fun t240=>(if t240=true then ((spec_l3Col.f a0_2 a1).bind fun t241=>(if t241=true then (some (a0_3 == 0)) else (some false))) else (some false))) else (some false))))=some r:=h
 clear h
 by_cases c3:a0_0=1
 ·rw [if_pos c3] at H
  have c3b0:(a0_0 == 1)=true:=beq_iff_eq.mpr c3
  have c3b1:(a0_0 != 1)=false:=bne_eq_false_iff_eq.mpr c3
  clear c3
  replace H:=Option.bind_eq_some_iff.mp H
  obtain ⟨t238,A40,H⟩:=H
  (try dsimp only at H)
  have A4:=Aside0.mk A40
  clear A40
  by_cases c5:t238=true
  ·subst c5
   have H1:(if a0_2=0 then (some (a0_3 == 0)) else (some false))=some r:=by rw [if_pos rfl] at H;exact H
   clear H
   have H:=H1
   clear H1
   by_cases c6:a0_2=0
   ·rw [if_pos c6] at H
    have c6b0:(a0_2 == 0)=true:=beq_iff_eq.mpr c6
    have c6b1:(a0_2 != 0)=false:=bne_eq_false_iff_eq.mpr c6
    clear c6
    obtain rfl:=Option.some.inj H
    go_enter Try.func60,Try.ntmps60
    go_wp2_with (first|((with_reducible refine gate_dst (N:=2) rfl ?_);refine box_event ?hg (N:=2) ?hd (cs:=#[.int .i64 a0_0,.int .i64 a0_1,.int .i64 a0_2,.int .i64 a0_3]) (t:=33) ?hr ?_;(case hd=>rfl);(case hg=>rfl);(case hr=>first|(go_simp;done)|(go_simp;rfl));intro gb237 hg w7 hbox hb;have n0_:=Aside0.mk (below_step zhb hb);have n1_:=Aside0.mk (hbox);have n2_:=Aside0.mk ((by rw [hg];exact (below_size zhb):w.heap.size≤gb237));have n3_:=Aside0.mk ((by rw [hg];exact (below_size zhb):w.heap.size≤gb237));clear HB;have HB:=n0_;have BK237:=n1_;have GW237:=n2_;have GE237:=n3_;clear n0_ n1_ n2_ n3_;clear hb hbox hg;have hcz8_0:w7.cell? ⟨gb237,0,none⟩=some (.int .i64 a0_0):=(blk_cell BK237.out 0).trans rfl;have hcz8_1:w7.cell? ⟨gb237,1,none⟩=some (.int .i64 a0_1):=(blk_cell BK237.out 1).trans rfl;have hcz8_2:w7.cell? ⟨gb237,2,none⟩=some (.int .i64 a0_2):=(blk_cell BK237.out 2).trans rfl;have hcz8_3:w7.cell? ⟨gb237,3,none⟩=some (.int .i64 a0_3):=(blk_cell BK237.out 3).trans rfl;have hfz8_0:=blk_frozen BK237.out 0;have hfz8_1:=blk_frozen BK237.out 1;have hfz8_2:=blk_frozen BK237.out 2;have hfz8_3:=blk_frozen BK237.out 3)|((with_reducible refine gate_callee (f:=53) rfl ?_);refine goesL_ (some 12) rfl rfl Try.func53 (by kernel_rfl) rfl #[.int .i64 a0_1,.int .i64 a1] rfl zar ?_;(with_reducible refine (spec_l3Col.calls a0_1 a1 true _ A4.out).mono ?_);rintro e w' ⟨rfl,⟨nd,rfl⟩⟩;refine ⟨_,rfl,?_⟩))
    go_ret
    exact ⟨by first|rfl|(simp [errW_none,errW_some] <;> rfl)|(simp [*,errW_none,errW_some] <;> rfl),by repeat (first|(with_reducible first|exact HB.out|apply below_alloc|apply pw_below_drewN|apply below_drew1|refine below_set ?_ GE237.out)|exact HB.out)⟩
   ·rw [if_neg c6] at H
    have c6b0:(a0_2 == 0)=false:=beq_eq_false_iff_ne.mpr c6
    have c6b1:(a0_2 != 0)=true:=bne_iff_ne.mpr c6
    obtain rfl:=Option.some.inj H
    go_enter Try.func60,Try.ntmps60
    go_wp2_with (first|((with_reducible refine gate_dst (N:=2) rfl ?_);refine box_event ?hg (N:=2) ?hd (cs:=#[.int .i64 a0_0,.int .i64 a0_1,.int .i64 a0_2,.int .i64 a0_3]) (t:=33) ?hr ?_;(case hd=>rfl);(case hg=>rfl);(case hr=>first|(go_simp;done)|(go_simp;rfl));intro gb237 hg w9 hbox hb;have n0_:=Aside0.mk (below_step zhb hb);have n1_:=Aside0.mk (hbox);have n2_:=Aside0.mk ((by rw [hg];exact (below_size zhb):w.heap.size≤gb237));have n3_:=Aside0.mk ((by rw [hg];exact (below_size zhb):w.heap.size≤gb237));clear HB;have HB:=n0_;have BK237:=n1_;have GW237:=n2_;have GE237:=n3_;clear n0_ n1_ n2_ n3_;clear hb hbox hg;have hcz10_0:w9.cell? ⟨gb237,0,none⟩=some (.int .i64 a0_0):=(blk_cell BK237.out 0).trans rfl;have hcz10_1:w9.cell? ⟨gb237,1,none⟩=some (.int .i64 a0_1):=(blk_cell BK237.out 1).trans rfl;have hcz10_2:w9.cell? ⟨gb237,2,none⟩=some (.int .i64 a0_2):=(blk_cell BK237.out 2).trans rfl;have hcz10_3:w9.cell? ⟨gb237,3,none⟩=some (.int .i64 a0_3):=(blk_cell BK237.out 3).trans rfl;have hfz10_0:=blk_frozen BK237.out 0;have hfz10_1:=blk_frozen BK237.out 1;have hfz10_2:=blk_frozen BK237.out 2;have hfz10_3:=blk_frozen BK237.out 3)|((with_reducible refine gate_callee (f:=53) rfl ?_);refine goesL_ (some 12) rfl rfl Try.func53 (by kernel_rfl) rfl #[.int .i64 a0_1,.int .i64 a1] rfl zar ?_;(with_reducible refine (spec_l3Col.calls a0_1 a1 true _ A4.out).mono ?_);rintro e w' ⟨rfl,⟨nd,rfl⟩⟩;refine ⟨_,rfl,?_⟩))
    go_ret
    exact ⟨by first|rfl|(simp [errW_none,errW_some] <;> rfl)|(simp [*,errW_none,errW_some] <;> rfl),by repeat (first|(with_reducible first|exact HB.out|apply below_alloc|apply pw_below_drewN|apply below_drew1|refine below_set ?_ GE237.out)|exact HB.out)⟩
  ·replace c5:=Bool.eq_false_iff.mpr c5
   subst c5
   have H1:(some false)=some r:=by rw [if_neg (show ¬ (false=true) by decide)] at H;exact H
   clear H
   have H:=H1
   clear H1
   obtain rfl:=Option.some.inj H
   go_enter Try.func60,Try.ntmps60
   go_wp2_with (first|((with_reducible refine gate_dst (N:=2) rfl ?_);refine box_event ?hg (N:=2) ?hd (cs:=#[.int .i64 a0_0,.int .i64 a0_1,.int .i64 a0_2,.int .i64 a0_3]) (t:=33) ?hr ?_;(case hd=>rfl);(case hg=>rfl);(case hr=>first|(go_simp;done)|(go_simp;rfl));intro gb237 hg w11 hbox hb;have n0_:=Aside0.mk (below_step zhb hb);have n1_:=Aside0.mk (hbox);have n2_:=Aside0.mk ((by rw [hg];exact (below_size zhb):w.heap.size≤gb237));have n3_:=Aside0.mk ((by rw [hg];exact (below_size zhb):w.heap.size≤gb237));clear HB;have HB:=n0_;have BK237:=n1_;have GW237:=n2_;have GE237:=n3_;clear n0_ n1_ n2_ n3_;clear hb hbox hg;have hcz12_0:w11.cell? ⟨gb237,0,none⟩=some (.int .i64 a0_0):=(blk_cell BK237.out 0).trans rfl;have hcz12_1:w11.cell? ⟨gb237,1,none⟩=some (.int .i64 a0_1):=(blk_cell BK237.out 1).trans rfl;have hcz12_2:w11.cell? ⟨gb237,2,none⟩=some (.int .i64 a0_2):=(blk_cell BK237.out 2).trans rfl;have hcz12_3:w11.cell? ⟨gb237,3,none⟩=some (.int .i64 a0_3):=(blk_cell BK237.out 3).trans rfl;have hfz12_0:=blk_frozen BK237.out 0;have hfz12_1:=blk_frozen BK237.out 1;have hfz12_2:=blk_frozen BK237.out 2;have hfz12_3:=blk_frozen BK237.out 3)|((with_reducible refine gate_callee (f:=53) rfl ?_);refine goesL_ (some 12) rfl rfl Try.func53 (by kernel_rfl) rfl #[.int .i64 a0_1,.int .i64 a1] rfl zar ?_;(with_reducible refine (spec_l3Col.calls a0_1 a1 false _ A4.out).mono ?_);rintro e w' ⟨rfl,⟨nd,rfl⟩⟩;refine ⟨_,rfl,?_⟩))
   go_ret
   exact ⟨by first|rfl|(simp [errW_none,errW_some] <;> rfl)|(simp [*,errW_none,errW_some] <;> rfl),by repeat (first|(with_reducible first|exact HB.out|apply below_alloc|apply pw_below_drewN|apply below_drew1|refine below_set ?_ GE237.out)|exact HB.out)⟩
 ·rw [if_neg c3] at H
  have c3b0:(a0_0 == 1)=false:=beq_eq_false_iff_ne.mpr c3
  have c3b1:(a0_0 != 1)=true:=bne_iff_ne.mpr c3
  by_cases c13:a0_0=2
  ·rw [if_pos c13] at H
   have c13b0:(a0_0 == 2)=true:=beq_iff_eq.mpr c13
   have c13b1:(a0_0 != 2)=false:=bne_eq_false_iff_eq.mpr c13
   clear c13
   by_cases c14:a0_1=0
   ·rw [if_pos c14] at H
    have c14b0:(a0_1 == 0)=true:=beq_iff_eq.mpr c14
    have c14b1:(a0_1 != 0)=false:=bne_eq_false_iff_eq.mpr c14
    clear c14
    by_cases c15:a0_2=0
    ·rw [if_pos c15] at H
     have c15b0:(a0_2 == 0)=true:=beq_iff_eq.mpr c15
     have c15b1:(a0_2 != 0)=false:=bne_eq_false_iff_eq.mpr c15
     clear c15
     replace H:=Option.bind_eq_some_iff.mp H
     obtain ⟨t239,A160,H⟩:=H
     (try dsimp only at H)
     have A16:=Aside0.mk A160
     clear A160
     obtain rfl:=Option.some.inj H
     go_enter Try.func60,Try.ntmps60
     go_wp2_with (first|((with_reducible refine gate_dst (N:=2) rfl ?_);refine box_event ?hg (N:=2) ?hd (cs:=#[.int .i64 a0_0,.int .i64 a0_1,.int .i64 a0_2,.int .i64 a0_3]) (t:=33) ?hr ?_;(case hd=>rfl);(case hg=>rfl);(case hr=>first|(go_simp;done)|(go_simp;rfl));intro gb237 hg w17 hbox hb;have n0_:=Aside0.mk (below_step zhb hb);have n1_:=Aside0.mk (hbox);have n2_:=Aside0.mk ((by rw [hg];exact (below_size zhb):w.heap.size≤gb237));have n3_:=Aside0.mk ((by rw [hg];exact (below_size zhb):w.heap.size≤gb237));clear HB;have HB:=n0_;have BK237:=n1_;have GW237:=n2_;have GE237:=n3_;clear n0_ n1_ n2_ n3_;clear hb hbox hg;have hcz18_0:w17.cell? ⟨gb237,0,none⟩=some (.int .i64 a0_0):=(blk_cell BK237.out 0).trans rfl;have hcz18_1:w17.cell? ⟨gb237,1,none⟩=some (.int .i64 a0_1):=(blk_cell BK237.out 1).trans rfl;have hcz18_2:w17.cell? ⟨gb237,2,none⟩=some (.int .i64 a0_2):=(blk_cell BK237.out 2).trans rfl;have hcz18_3:w17.cell? ⟨gb237,3,none⟩=some (.int .i64 a0_3):=(blk_cell BK237.out 3).trans rfl;have hfz18_0:=blk_frozen BK237.out 0;have hfz18_1:=blk_frozen BK237.out 1;have hfz18_2:=blk_frozen BK237.out 2;have hfz18_3:=blk_frozen BK237.out 3)|(go_at_call 64;(with_reducible refine (spec_l1Cell.calls a0_3 t239 _ A16.out).mono ?_);rintro e w' ⟨rfl,⟨nd,rfl⟩⟩))
     go_ret
     exact ⟨by first|rfl|(simp [errW_none,errW_some] <;> rfl)|(simp [*,errW_none,errW_some] <;> rfl),by repeat (first|(with_reducible first|exact HB.out|apply below_alloc|apply pw_below_drewN|apply below_drew1|refine below_set ?_ GE237.out)|exact HB.out)⟩
    ·rw [if_neg c15] at H
     have c15b0:(a0_2 == 0)=false:=beq_eq_false_iff_ne.mpr c15
     have c15b1:(a0_2 != 0)=true:=bne_iff_ne.mpr c15
     obtain rfl:=Option.some.inj H
     go_enter Try.func60,Try.ntmps60
     go_wp2_with (first|((with_reducible refine gate_dst (N:=2) rfl ?_);refine box_event ?hg (N:=2) ?hd (cs:=#[.int .i64 a0_0,.int .i64 a0_1,.int .i64 a0_2,.int .i64 a0_3]) (t:=33) ?hr ?_;(case hd=>rfl);(case hg=>rfl);(case hr=>first|(go_simp;done)|(go_simp;rfl));intro gb237 hg w19 hbox hb;have n0_:=Aside0.mk (below_step zhb hb);have n1_:=Aside0.mk (hbox);have n2_:=Aside0.mk ((by rw [hg];exact (below_size zhb):w.heap.size≤gb237));have n3_:=Aside0.mk ((by rw [hg];exact (below_size zhb):w.heap.size≤gb237));clear HB;have HB:=n0_;have BK237:=n1_;have GW237:=n2_;have GE237:=n3_;clear n0_ n1_ n2_ n3_;clear hb hbox hg;have hcz20_0:w19.cell? ⟨gb237,0,none⟩=some (.int .i64 a0_0):=(blk_cell BK237.out 0).trans rfl;have hcz20_1:w19.cell? ⟨gb237,1,none⟩=some (.int .i64 a0_1):=(blk_cell BK237.out 1).trans rfl;have hcz20_2:w19.cell? ⟨gb237,2,none⟩=some (.int .i64 a0_2):=(blk_cell BK237.out 2).trans rfl;have hcz20_3:w19.cell? ⟨gb237,3,none⟩=some (.int .i64 a0_3):=(blk_cell BK237.out 3).trans rfl;have hfz20_0:=blk_frozen BK237.out 0;have hfz20_1:=blk_frozen BK237.out 1;have hfz20_2:=blk_frozen BK237.out 2;have hfz20_3:=blk_frozen BK237.out 3))
     go_ret
     exact ⟨by first|rfl|(simp [errW_none,errW_some] <;> rfl)|(simp [*,errW_none,errW_some] <;> rfl),by repeat (first|(with_reducible first|exact HB.out|apply below_alloc|apply pw_below_drewN|apply below_drew1|refine below_set ?_ GE237.out)|exact HB.out)⟩
   ·rw [if_neg c14] at H
    have c14b0:(a0_1 == 0)=false:=beq_eq_false_iff_ne.mpr c14
    have c14b1:(a0_1 != 0)=true:=bne_iff_ne.mpr c14
    obtain rfl:=Option.some.inj H
    go_enter Try.func60,Try.ntmps60
    go_wp2_with (first|((with_reducible refine gate_dst (N:=2) rfl ?_);refine box_event ?hg (N:=2) ?hd (cs:=#[.int .i64 a0_0,.int .i64 a0_1,.int .i64 a0_2,.int .i64 a0_3]) (t:=33) ?hr ?_;(case hd=>rfl);(case hg=>rfl);(case hr=>first|(go_simp;done)|(go_simp;rfl));intro gb237 hg w21 hbox hb;have n0_:=Aside0.mk (below_step zhb hb);have n1_:=Aside0.mk (hbox);have n2_:=Aside0.mk ((by rw [hg];exact (below_size zhb):w.heap.size≤gb237));have n3_:=Aside0.mk ((by rw [hg];exact (below_size zhb):w.heap.size≤gb237));clear HB;have HB:=n0_;have BK237:=n1_;have GW237:=n2_;have GE237:=n3_;clear n0_ n1_ n2_ n3_;clear hb hbox hg;have hcz22_0:w21.cell? ⟨gb237,0,none⟩=some (.int .i64 a0_0):=(blk_cell BK237.out 0).trans rfl;have hcz22_1:w21.cell? ⟨gb237,1,none⟩=some (.int .i64 a0_1):=(blk_cell BK237.out 1).trans rfl;have hcz22_2:w21.cell? ⟨gb237,2,none⟩=some (.int .i64 a0_2):=(blk_cell BK237.out 2).trans rfl;have hcz22_3:w21.cell? ⟨gb237,3,none⟩=some (.int .i64 a0_3):=(blk_cell BK237.out 3).trans rfl;have hfz22_0:=blk_frozen BK237.out 0;have hfz22_1:=blk_frozen BK237.out 1;have hfz22_2:=blk_frozen BK237.out 2;have hfz22_3:=blk_frozen BK237.out 3))
    go_ret
    exact ⟨by first|rfl|(simp [errW_none,errW_some] <;> rfl)|(simp [*,errW_none,errW_some] <;> rfl),by repeat (first|(with_reducible first|exact HB.out|apply below_alloc|apply pw_below_drewN|apply below_drew1|refine below_set ?_ GE237.out)|exact HB.out)⟩
  ·rw [if_neg c13] at H
   have c13b0:(a0_0 == 2)=false:=beq_eq_false_iff_ne.mpr c13
   have c13b1:(a0_0 != 2)=true:=bne_iff_ne.mpr c13
   by_cases c23:a0_0=3
   ·rw [if_pos c23] at H
    have c23b0:(a0_0 == 3)=true:=beq_iff_eq.mpr c23
    have c23b1:(a0_0 != 3)=false:=bne_eq_false_iff_eq.mpr c23
    clear c23
    replace H:=Option.bind_eq_some_iff.mp H
    obtain ⟨t240,A240,H⟩:=H
    (try dsimp only at H)
    have A24:=Aside0.mk A240
    clear A240
    by_cases c25:t240=true
    ·subst c25
     have H1:((spec_l3Col.f a0_2 a1).bind fun t241=>(if t241=true then (some (a0_3 == 0)) else (some false)))=some r:=by rw [if_pos rfl] at H;exact H
     clear H
     have H:=H1
     clear H1
     replace H:=Option.bind_eq_some_iff.mp H
     obtain ⟨t241,A260,H⟩:=H
     (try dsimp only at H)
     have A26:=Aside0.mk A260
     clear A260
     by_cases c27:t241=true
     ·subst c27
      have H1:(some (a0_3 == 0))=some r:=by rw [if_pos rfl] at H;exact H
      clear H
      have H:=H1
      clear H1
      obtain rfl:=Option.some.inj H
      go_enter Try.func60,Try.ntmps60
      go_wp2_with (first|((with_reducible refine gate_dst (N:=2) rfl ?_);refine box_event ?hg (N:=2) ?hd (cs:=#[.int .i64 a0_0,.int .i64 a0_1,.int .i64 a0_2,.int .i64 a0_3]) (t:=33) ?hr ?_;(case hd=>rfl);(case hg=>rfl);(case hr=>first|(go_simp;done)|(go_simp;rfl));intro gb237 hg w28 hbox hb;have n0_:=Aside0.mk (below_step zhb hb);have n1_:=Aside0.mk (hbox);have n2_:=Aside0.mk ((by rw [hg];exact (below_size zhb):w.heap.size≤gb237));have n3_:=Aside0.mk ((by rw [hg];exact (below_size zhb):w.heap.size≤gb237));clear HB;have HB:=n0_;have BK237:=n1_;have GW237:=n2_;have GE237:=n3_;clear n0_ n1_ n2_ n3_;clear hb hbox hg;have hcz29_0:w28.cell? ⟨gb237,0,none⟩=some (.int .i64 a0_0):=(blk_cell BK237.out 0).trans rfl;have hcz29_1:w28.cell? ⟨gb237,1,none⟩=some (.int .i64 a0_1):=(blk_cell BK237.out 1).trans rfl;have hcz29_2:w28.cell? ⟨gb237,2,none⟩=some (.int .i64 a0_2):=(blk_cell BK237.out 2).trans rfl;have hcz29_3:w28.cell? ⟨gb237,3,none⟩=some (.int .i64 a0_3):=(blk_cell BK237.out 3).trans rfl;have hfz29_0:=blk_frozen BK237.out 0;have hfz29_1:=blk_frozen BK237.out 1;have hfz29_2:=blk_frozen BK237.out 2;have hfz29_3:=blk_frozen BK237.out 3)|((with_reducible refine gate_callee (f:=53) rfl ?_);refine goesL_ (some 43) rfl rfl Try.func53 (by kernel_rfl) rfl #[.int .i64 a0_1,.int .i64 a1] rfl zar ?_;(with_reducible refine (spec_l3Col.calls a0_1 a1 true _ A24.out).mono ?_);rintro e w' ⟨rfl,⟨nd,rfl⟩⟩;refine ⟨_,rfl,?_⟩)|(go_at_call 53;(with_reducible refine (spec_l3Col.calls a0_2 a1 true _ A26.out).mono ?_);rintro e w' ⟨rfl,⟨nd,rfl⟩⟩))
      go_ret
      exact ⟨by first|rfl|(simp [errW_none,errW_some] <;> rfl)|(simp [*,errW_none,errW_some] <;> rfl),by repeat (first|(with_reducible first|exact HB.out|apply below_alloc|apply pw_below_drewN|apply below_drew1|refine below_set ?_ GE237.out)|exact HB.out)⟩
     ·replace c27:=Bool.eq_false_iff.mpr c27
      subst c27
      have H1:(some false)=some r:=by rw [if_neg (show ¬ (false=true) by decide)] at H;exact H
      clear H
      have H:=H1
      clear H1
      obtain rfl:=Option.some.inj H
      go_enter Try.func60,Try.ntmps60
      go_wp2_with (first|((with_reducible refine gate_dst (N:=2) rfl ?_);refine box_event ?hg (N:=2) ?hd (cs:=#[.int .i64 a0_0,.int .i64 a0_1,.int .i64 a0_2,.int .i64 a0_3]) (t:=33) ?hr ?_;(case hd=>rfl);(case hg=>rfl);(case hr=>first|(go_simp;done)|(go_simp;rfl));intro gb237 hg w30 hbox hb;have n0_:=Aside0.mk (below_step zhb hb);have n1_:=Aside0.mk (hbox);have n2_:=Aside0.mk ((by rw [hg];exact (below_size zhb):w.heap.size≤gb237));have n3_:=Aside0.mk ((by rw [hg];exact (below_size zhb):w.heap.size≤gb237));clear HB;have HB:=n0_;have BK237:=n1_;have GW237:=n2_;have GE237:=n3_;clear n0_ n1_ n2_ n3_;clear hb hbox hg;have hcz31_0:w30.cell? ⟨gb237,0,none⟩=some (.int .i64 a0_0):=(blk_cell BK237.out 0).trans rfl;have hcz31_1:w30.cell? ⟨gb237,1,none⟩=some (.int .i64 a0_1):=(blk_cell BK237.out 1).trans rfl;have hcz31_2:w30.cell? ⟨gb237,2,none⟩=some (.int .i64 a0_2):=(blk_cell BK237.out 2).trans rfl;have hcz31_3:w30.cell? ⟨gb237,3,none⟩=some (.int .i64 a0_3):=(blk_cell BK237.out 3).trans rfl;have hfz31_0:=blk_frozen BK237.out 0;have hfz31_1:=blk_frozen BK237.out 1;have hfz31_2:=blk_frozen BK237.out 2;have hfz31_3:=blk_frozen BK237.out 3)|((with_reducible refine gate_callee (f:=53) rfl ?_);refine goesL_ (some 43) rfl rfl Try.func53 (by kernel_rfl) rfl #[.int .i64 a0_1,.int .i64 a1] rfl zar ?_;(with_reducible refine (spec_l3Col.calls a0_1 a1 true _ A24.out).mono ?_);rintro e w' ⟨rfl,⟨nd,rfl⟩⟩;refine ⟨_,rfl,?_⟩)|(go_at_call 53;(with_reducible refine (spec_l3Col.calls a0_2 a1 false _ A26.out).mono ?_);rintro e w' ⟨rfl,⟨nd,rfl⟩⟩))
      go_ret
      exact ⟨by first|rfl|(simp [errW_none,errW_some] <;> rfl)|(simp [*,errW_none,errW_some] <;> rfl),by repeat (first|(with_reducible first|exact HB.out|apply below_alloc|apply pw_below_drewN|apply below_drew1|refine below_set ?_ GE237.out)|exact HB.out)⟩
    ·replace c25:=Bool.eq_false_iff.mpr c25
     subst c25
     have H1:(some false)=some r:=by rw [if_neg (show ¬ (false=true) by decide)] at H;exact H
     clear H
     have H:=H1
     clear H1
     obtain rfl:=Option.some.inj H
     go_enter Try.func60,Try.ntmps60
     go_wp2_with (first|((with_reducible refine gate_dst (N:=2) rfl ?_);refine box_event ?hg (N:=2) ?hd (cs:=#[.int .i64 a0_0,.int .i64 a0_1,.int .i64 a0_2,.int .i64 a0_3]) (t:=33) ?hr ?_;(case hd=>rfl);(case hg=>rfl);(case hr=>first|(go_simp;done)|(go_simp;rfl));intro gb237 hg w32 hbox hb;have n0_:=Aside0.mk (below_step zhb hb);have n1_:=Aside0.mk (hbox);have n2_:=Aside0.mk ((by rw [hg];exact (below_size zhb):w.heap.size≤gb237));have n3_:=Aside0.mk ((by rw [hg];exact (below_size zhb):w.heap.size≤gb237));clear HB;have HB:=n0_;have BK237:=n1_;have GW237:=n2_;have GE237:=n3_;clear n0_ n1_ n2_ n3_;clear hb hbox hg;have hcz33_0:w32.cell? ⟨gb237,0,none⟩=some (.int .i64 a0_0):=(blk_cell BK237.out 0).trans rfl;have hcz33_1:w32.cell? ⟨gb237,1,none⟩=some (.int .i64 a0_1):=(blk_cell BK237.out 1).trans rfl;have hcz33_2:w32.cell? ⟨gb237,2,none⟩=some (.int .i64 a0_2):=(blk_cell BK237.out 2).trans rfl;have hcz33_3:w32.cell? ⟨gb237,3,none⟩=some (.int .i64 a0_3):=(blk_cell BK237.out 3).trans rfl;have hfz33_0:=blk_frozen BK237.out 0;have hfz33_1:=blk_frozen BK237.out 1;have hfz33_2:=blk_frozen BK237.out 2;have hfz33_3:=blk_frozen BK237.out 3)|((with_reducible refine gate_callee (f:=53) rfl ?_);refine goesL_ (some 43) rfl rfl Try.func53 (by kernel_rfl) rfl #[.int .i64 a0_1,.int .i64 a1] rfl zar ?_;(with_reducible refine (spec_l3Col.calls a0_1 a1 false _ A24.out).mono ?_);rintro e w' ⟨rfl,⟨nd,rfl⟩⟩;refine ⟨_,rfl,?_⟩))
     go_ret
     exact ⟨by first|rfl|(simp [errW_none,errW_some] <;> rfl)|(simp [*,errW_none,errW_some] <;> rfl),by repeat (first|(with_reducible first|exact HB.out|apply below_alloc|apply pw_below_drewN|apply below_drew1|refine below_set ?_ GE237.out)|exact HB.out)⟩
   ·rw [if_neg c23] at H
    have c23b0:(a0_0 == 3)=false:=beq_eq_false_iff_ne.mpr c23
    have c23b1:(a0_0 != 3)=true:=bne_iff_ne.mpr c23
    obtain rfl:=Option.some.inj H
    go_enter Try.func60,Try.ntmps60
    go_wp2_with (first|((with_reducible refine gate_dst (N:=2) rfl ?_);refine box_event ?hg (N:=2) ?hd (cs:=#[.int .i64 a0_0,.int .i64 a0_1,.int .i64 a0_2,.int .i64 a0_3]) (t:=33) ?hr ?_;(case hd=>rfl);(case hg=>rfl);(case hr=>first|(go_simp;done)|(go_simp;rfl));intro gb237 hg w34 hbox hb;have n0_:=Aside0.mk (below_step zhb hb);have n1_:=Aside0.mk (hbox);have n2_:=Aside0.mk ((by rw [hg];exact (below_size zhb):w.heap.size≤gb237));have n3_:=Aside0.mk ((by rw [hg];exact (below_size zhb):w.heap.size≤gb237));clear HB;have HB:=n0_;have BK237:=n1_;have GW237:=n2_;have GE237:=n3_;clear n0_ n1_ n2_ n3_;clear hb hbox hg;have hcz35_0:w34.cell? ⟨gb237,0,none⟩=some (.int .i64 a0_0):=(blk_cell BK237.out 0).trans rfl;have hcz35_1:w34.cell? ⟨gb237,1,none⟩=some (.int .i64 a0_1):=(blk_cell BK237.out 1).trans rfl;have hcz35_2:w34.cell? ⟨gb237,2,none⟩=some (.int .i64 a0_2):=(blk_cell BK237.out 2).trans rfl;have hcz35_3:w34.cell? ⟨gb237,3,none⟩=some (.int .i64 a0_3):=(blk_cell BK237.out 3).trans rfl;have hfz35_0:=blk_frozen BK237.out 0;have hfz35_1:=blk_frozen BK237.out 1;have hfz35_2:=blk_frozen BK237.out 2;have hfz35_3:=blk_frozen BK237.out 3))
    go_ret
    exact ⟨by first|rfl|(simp [errW_none,errW_some] <;> rfl)|(simp [*,errW_none,errW_some] <;> rfl),by repeat (first|(with_reducible first|exact HB.out|apply below_alloc|apply pw_below_drewN|apply below_drew1|refine below_set ?_ GE237.out)|exact HB.out)⟩

/-! ### spec_TestOk: function 51 -/
def spec_TestOk.f (a0_0:Int) (a0_1:Bool) (a0_2:Int) (a0_3:Int) (a0_4:Int) (a0_5:Int) (a0_6:Int) (a0_7:Int) (a0_8:Int) (a0_9:Int) (a1:Int):Option (Bool):=if a0_0=1 then ((spec_CellOk.f a0_2 a0_3 a0_4 a0_5 a1).bind fun t243=>(if t243=true then ((spec_CellOk.f a0_6 a0_7 a0_8 a0_9 a1).bind fun t244=>(some t244)) else (some false))) else (if a0_0=2 then ((spec_CellOk.f a0_2 a0_3 a0_4 a0_5 a1).bind fun t245=>(if t245=true then ((spec_CellOk.f a0_6 a0_7 a0_8 a0_9 a1).bind fun t246=>(some t246)) else (some false))) else (some false))
set_option maxHeartbeats 8000000 in
set_option maxRecDepth 100000 in
theorem spec_TestOk.calls (a0_0:Int) (a0_1:Bool) (a0_2:Int) (a0_3:Int) (a0_4:Int) (a0_5:Int) (a0_6:Int) (a0_7:Int) (a0_8:Int) (a0_9:Int) (a1:Int) (r:Bool) (w:World) (h:spec_TestOk.f a0_0 a0_1 a0_2 a0_3 a0_4 a0_5 a0_6 a0_7 a0_8 a0_9 a1=some r) :
  Calls Try.prog 51 #[.agg #[.int .i64 a0_0,.bool a0_1,.int .i64 a0_2,.int .i64 a0_3,.int .i64 a0_4,.int .i64 a0_5,.int .i64 a0_6,.int .i64 a0_7,.int .i64 a0_8,.int .i64 a0_9],.int .i64 a1] w fun e w'=>e=.returned (.bool r)∧Below w.heap.size w w':=by
 have hu35:=Try.underlying35
 have hu33:=Try.underlying33
 have HB:=Aside0.mk (Below.refl w.heap.size w)
 have H:(if a0_0=1 then ((spec_CellOk.f a0_2 a0_3 a0_4 a0_5 a1).bind fun t243=>(if t243=true then ((spec_CellOk.f a0_6 a0_7 a0_8 a0_9 a1).bind fun t244=>(some t244)) else (some false))) else (if a0_0=2 then ((spec_CellOk.f a0_2 a0_3 a0_4 a0_5 a1).bind fun t245=>(if t245=true then ((spec_CellOk.f a0_6 a0_7 a0_8 a0_9 a1).bind fun t246=>(some t246)) else (some false))) else (some false)))=some r:=h
 clear h
 by_cases c3:a0_0=1
 ·rw [if_pos c3] at H
  have c3b0:(a0_0 == 1)=true:=beq_iff_eq.mpr c3
  have c3b1:(a0_0 != 1)=false:=bne_eq_false_iff_eq.mpr c3
  clear c3
  replace H:=Option.bind_eq_some_iff.mp H
  obtain ⟨t243,A40,H⟩:=H
  (try dsimp only at H)
  have A4:=Aside0.mk A40
  clear A40
  by_cases c5:t243=true
  ·subst c5
   have H1:((spec_CellOk.f a0_6 a0_7 a0_8 a0_9 a1).bind fun t244=>(some t244))=some r:=by rw [if_pos rfl] at H;exact H
   clear H
   have H:=H1
   clear H1
   replace H:=Option.bind_eq_some_iff.mp H
   obtain ⟨t244,A60,H⟩:=H
   (try dsimp only at H)
   have A6:=Aside0.mk A60
   clear A60
   obtain rfl:=Option.some.inj H
   go_enter Try.func51,Try.ntmps51
   go_wp2_with (first|((with_reducible refine gate_dst (N:=2) rfl ?_);refine box_event ?hg (N:=2) ?hd (cs:=#[.int .i64 a0_0,.bool a0_1,.int .i64 a0_2,.int .i64 a0_3,.int .i64 a0_4,.int .i64 a0_5,.int .i64 a0_6,.int .i64 a0_7,.int .i64 a0_8,.int .i64 a0_9]) (t:=35) ?hr ?_;(case hd=>rfl);(case hg=>rfl);(case hr=>first|(go_simp;done)|(go_simp;rfl));intro gb242 hg w7 hbox hb;have n0_:=Aside0.mk (below_step zhb hb);have n1_:=Aside0.mk (hbox);have n2_:=Aside0.mk ((by rw [hg];exact (below_size zhb):w.heap.size≤gb242));have n3_:=Aside0.mk ((by rw [hg];exact (below_size zhb):w.heap.size≤gb242));clear HB;have HB:=n0_;have BK242:=n1_;have GW242:=n2_;have GE242:=n3_;clear n0_ n1_ n2_ n3_;clear hb hbox hg;have hcz8_0:w7.cell? ⟨gb242,0,none⟩=some (.int .i64 a0_0):=(blk_cell BK242.out 0).trans rfl;have hcz8_1:w7.cell? ⟨gb242,1,none⟩=some (.bool a0_1):=(blk_cell BK242.out 1).trans rfl;have hcz8_2:w7.cell? ⟨gb242,2,none⟩=some (.int .i64 a0_2):=(blk_cell BK242.out 2).trans rfl;have hcz8_3:w7.cell? ⟨gb242,3,none⟩=some (.int .i64 a0_3):=(blk_cell BK242.out 3).trans rfl;have hcz8_4:w7.cell? ⟨gb242,4,none⟩=some (.int .i64 a0_4):=(blk_cell BK242.out 4).trans rfl;have hcz8_5:w7.cell? ⟨gb242,5,none⟩=some (.int .i64 a0_5):=(blk_cell BK242.out 5).trans rfl;have hcz8_6:w7.cell? ⟨gb242,6,none⟩=some (.int .i64 a0_6):=(blk_cell BK242.out 6).trans rfl;have hcz8_7:w7.cell? ⟨gb242,7,none⟩=some (.int .i64 a0_7):=(blk_cell BK242.out 7).trans rfl;have hcz8_8:w7.cell? ⟨gb242,8,none⟩=some (.int .i64 a0_8):=(blk_cell BK242.out 8).trans rfl;have hcz8_9:w7.cell? ⟨gb242,9,none⟩=some (.int .i64 a0_9):=(blk_cell BK242.out 9).trans rfl;have hfz8_0:=blk_frozen BK242.out 0;have hfz8_1:=blk_frozen BK242.out 1;have hfz8_2:=blk_frozen BK242.out 2;have hfz8_3:=blk_frozen BK242.out 3;have hfz8_4:=blk_frozen BK242.out 4;have hfz8_5:=blk_frozen BK242.out 5;have hfz8_6:=blk_frozen BK242.out 6;have hfz8_7:=blk_frozen BK242.out 7;have hfz8_8:=blk_frozen BK242.out 8;have hfz8_9:=blk_frozen BK242.out 9)|(go_at_call 60;(with_reducible refine (spec_CellOk.calls a0_2 a0_3 a0_4 a0_5 a1 true _ A4.out).mono ?_);rintro e w9 ⟨rfl,hb⟩;have n0_:=Aside0.mk (blk_below (g:=gb242) (o:=.cells #[.int .i64 a0_0,.bool a0_1,.int .i64 a0_2,.int .i64 a0_3,.int .i64 a0_4,.int .i64 a0_5,.int .i64 a0_6,.int .i64 a0_7,.int .i64 a0_8,.int .i64 a0_9] 35 (0,0)) (by (with_reducible repeat (first|refine blk_drewN ?_ _|refine blk_drew ?_|refine blk_alloc ?_ _));exact BK242.out) hb);have n1_:=Aside0.mk (below_step (by repeat (first|(with_reducible first|exact HB.out|apply below_alloc|apply pw_below_drewN|apply below_drew1|refine below_set ?_ GE242.out)|exact HB.out)) hb);clear BK242;clear HB;have BK242:=n0_;have HB:=n1_;clear n0_ n1_;(try clear hb);(try clear hb2);(try clear hk);(try clear hi);have hcz10_0:w9.cell? ⟨gb242,0,none⟩=some (.int .i64 a0_0):=(blk_cell BK242.out 0).trans rfl;have hcz10_1:w9.cell? ⟨gb242,1,none⟩=some (.bool a0_1):=(blk_cell BK242.out 1).trans rfl;have hcz10_2:w9.cell? ⟨gb242,2,none⟩=some (.int .i64 a0_2):=(blk_cell BK242.out 2).trans rfl;have hcz10_3:w9.cell? ⟨gb242,3,none⟩=some (.int .i64 a0_3):=(blk_cell BK242.out 3).trans rfl;have hcz10_4:w9.cell? ⟨gb242,4,none⟩=some (.int .i64 a0_4):=(blk_cell BK242.out 4).trans rfl;have hcz10_5:w9.cell? ⟨gb242,5,none⟩=some (.int .i64 a0_5):=(blk_cell BK242.out 5).trans rfl;have hcz10_6:w9.cell? ⟨gb242,6,none⟩=some (.int .i64 a0_6):=(blk_cell BK242.out 6).trans rfl;have hcz10_7:w9.cell? ⟨gb242,7,none⟩=some (.int .i64 a0_7):=(blk_cell BK242.out 7).trans rfl;have hcz10_8:w9.cell? ⟨gb242,8,none⟩=some (.int .i64 a0_8):=(blk_cell BK242.out 8).trans rfl;have hcz10_9:w9.cell? ⟨gb242,9,none⟩=some (.int .i64 a0_9):=(blk_cell BK242.out 9).trans rfl;have hfz10_0:=blk_frozen BK242.out 0;have hfz10_1:=blk_frozen BK242.out 1;have hfz10_2:=blk_frozen BK242.out 2;have hfz10_3:=blk_frozen BK242.out 3;have hfz10_4:=blk_frozen BK242.out 4;have hfz10_5:=blk_frozen BK242.out 5;have hfz10_6:=blk_frozen BK242.out 6;have hfz10_7:=blk_frozen BK242.out 7;have hfz10_8:=blk_frozen BK242.out 8;have hfz10_9:=blk_frozen BK242.out 9)|(go_at_call 60;(with_reducible refine (spec_CellOk.calls a0_6 a0_7 a0_8 a0_9 a1 t244 _ A6.out).mono ?_);rintro e w11 ⟨rfl,hb⟩;have n0_:=Aside0.mk (blk_below (g:=gb242) (o:=.cells #[.int .i64 a0_0,.bool a0_1,.int .i64 a0_2,.int .i64 a0_3,.int .i64 a0_4,.int .i64 a0_5,.int .i64 a0_6,.int .i64 a0_7,.int .i64 a0_8,.int .i64 a0_9] 35 (0,0)) (by (with_reducible repeat (first|refine blk_drewN ?_ _|refine blk_drew ?_|refine blk_alloc ?_ _));exact BK242.out) hb);have n1_:=Aside0.mk (below_step (by repeat (first|(with_reducible first|exact HB.out|apply below_alloc|apply pw_below_drewN|apply below_drew1|refine below_set ?_ GE242.out)|exact HB.out)) hb);clear BK242;clear HB;have BK242:=n0_;have HB:=n1_;clear n0_ n1_;(try clear hb);(try clear hb2);(try clear hk);(try clear hi)))
   go_ret
   exact ⟨by first|rfl|(simp [errW_none,errW_some] <;> rfl)|(simp [*,errW_none,errW_some] <;> rfl),by repeat (first|(with_reducible first|exact HB.out|apply below_alloc|apply pw_below_drewN|apply below_drew1|refine below_set ?_ GE242.out)|exact HB.out)⟩
  ·replace c5:=Bool.eq_false_iff.mpr c5
   subst c5
   have H1:(some false)=some r:=by rw [if_neg (show ¬ (false=true) by decide)] at H;exact H
   clear H
   have H:=H1
   clear H1
   obtain rfl:=Option.some.inj H
   go_enter Try.func51,Try.ntmps51
   go_wp2_with (first|((with_reducible refine gate_dst (N:=2) rfl ?_);refine box_event ?hg (N:=2) ?hd (cs:=#[.int .i64 a0_0,.bool a0_1,.int .i64 a0_2,.int .i64 a0_3,.int .i64 a0_4,.int .i64 a0_5,.int .i64 a0_6,.int .i64 a0_7,.int .i64 a0_8,.int .i64 a0_9]) (t:=35) ?hr ?_;(case hd=>rfl);(case hg=>rfl);(case hr=>first|(go_simp;done)|(go_simp;rfl));intro gb242 hg w12 hbox hb;have n0_:=Aside0.mk (below_step zhb hb);have n1_:=Aside0.mk (hbox);have n2_:=Aside0.mk ((by rw [hg];exact (below_size zhb):w.heap.size≤gb242));have n3_:=Aside0.mk ((by rw [hg];exact (below_size zhb):w.heap.size≤gb242));clear HB;have HB:=n0_;have BK242:=n1_;have GW242:=n2_;have GE242:=n3_;clear n0_ n1_ n2_ n3_;clear hb hbox hg;have hcz13_0:w12.cell? ⟨gb242,0,none⟩=some (.int .i64 a0_0):=(blk_cell BK242.out 0).trans rfl;have hcz13_1:w12.cell? ⟨gb242,1,none⟩=some (.bool a0_1):=(blk_cell BK242.out 1).trans rfl;have hcz13_2:w12.cell? ⟨gb242,2,none⟩=some (.int .i64 a0_2):=(blk_cell BK242.out 2).trans rfl;have hcz13_3:w12.cell? ⟨gb242,3,none⟩=some (.int .i64 a0_3):=(blk_cell BK242.out 3).trans rfl;have hcz13_4:w12.cell? ⟨gb242,4,none⟩=some (.int .i64 a0_4):=(blk_cell BK242.out 4).trans rfl;have hcz13_5:w12.cell? ⟨gb242,5,none⟩=some (.int .i64 a0_5):=(blk_cell BK242.out 5).trans rfl;have hcz13_6:w12.cell? ⟨gb242,6,none⟩=some (.int .i64 a0_6):=(blk_cell BK242.out 6).trans rfl;have hcz13_7:w12.cell? ⟨gb242,7,none⟩=some (.int .i64 a0_7):=(blk_cell BK242.out 7).trans rfl;have hcz13_8:w12.cell? ⟨gb242,8,none⟩=some (.int .i64 a0_8):=(blk_cell BK242.out 8).trans rfl;have hcz13_9:w12.cell? ⟨gb242,9,none⟩=some (.int .i64 a0_9):=(blk_cell BK242.out 9).trans rfl;have hfz13_0:=blk_frozen BK242.out 0;have hfz13_1:=blk_frozen BK242.out 1;have hfz13_2:=blk_frozen BK242.out 2;have hfz13_3:=blk_frozen BK242.out 3;have hfz13_4:=blk_frozen BK242.out 4;have hfz13_5:=blk_frozen BK242.out 5;have hfz13_6:=blk_frozen BK242.out 6;have hfz13_7:=blk_frozen BK242.out 7;have hfz13_8:=blk_frozen BK242.out 8;have hfz13_9:=blk_frozen BK242.out 9)|(go_at_call 60;(with_reducible refine (spec_CellOk.calls a0_2 a0_3 a0_4 a0_5 a1 false _ A4.out).mono ?_);rintro e w14 ⟨rfl,hb⟩;have n0_:=Aside0.mk (blk_below (g:=gb242) (o:=.cells #[.int .i64 a0_0,.bool a0_1,.int .i64 a0_2,.int .i64 a0_3,.int .i64 a0_4,.int .i64 a0_5,.int .i64 a0_6,.int .i64 a0_7,.int .i64 a0_8,.int .i64 a0_9] 35 (0,0)) (by (with_reducible repeat (first|refine blk_drewN ?_ _|refine blk_drew ?_|refine blk_alloc ?_ _));exact BK242.out) hb);have n1_:=Aside0.mk (below_step (by repeat (first|(with_reducible first|exact HB.out|apply below_alloc|apply pw_below_drewN|apply below_drew1|refine below_set ?_ GE242.out)|exact HB.out)) hb);clear BK242;clear HB;have BK242:=n0_;have HB:=n1_;clear n0_ n1_;(try clear hb);(try clear hb2);(try clear hk);(try clear hi)))
   go_ret
   exact ⟨by first|rfl|(simp [errW_none,errW_some] <;> rfl)|(simp [*,errW_none,errW_some] <;> rfl),by repeat (first|(with_reducible first|exact HB.out|apply below_alloc|apply pw_below_drewN|apply below_drew1|refine below_set ?_ GE242.out)|exact HB.out)⟩
 ·rw [if_neg c3] at H
  have c3b0:(a0_0 == 1)=false:=beq_eq_false_iff_ne.mpr c3
  have c3b1:(a0_0 != 1)=true:=bne_iff_ne.mpr c3
  by_cases c15:a0_0=2
  ·rw [if_pos c15] at H
   have c15b0:(a0_0 == 2)=true:=beq_iff_eq.mpr c15
   have c15b1:(a0_0 != 2)=false:=bne_eq_false_iff_eq.mpr c15
   clear c15
   replace H:=Option.bind_eq_some_iff.mp H
   obtain ⟨t245,A160,H⟩:=H
   (try dsimp only at H)
   have A16:=Aside0.mk A160
   clear A160
   by_cases c17:t245=true
   ·subst c17
    have H1:((spec_CellOk.f a0_6 a0_7 a0_8 a0_9 a1).bind fun t246=>(some t246))=some r:=by rw [if_pos rfl] at H;exact H
    clear H
    have H:=H1
    clear H1
    replace H:=Option.bind_eq_some_iff.mp H
    obtain ⟨t246,A180,H⟩:=H
    (try dsimp only at H)
    have A18:=Aside0.mk A180
    clear A180
    obtain rfl:=Option.some.inj H
    go_enter Try.func51,Try.ntmps51
    go_wp2_with (first|((with_reducible refine gate_dst (N:=2) rfl ?_);refine box_event ?hg (N:=2) ?hd (cs:=#[.int .i64 a0_0,.bool a0_1,.int .i64 a0_2,.int .i64 a0_3,.int .i64 a0_4,.int .i64 a0_5,.int .i64 a0_6,.int .i64 a0_7,.int .i64 a0_8,.int .i64 a0_9]) (t:=35) ?hr ?_;(case hd=>rfl);(case hg=>rfl);(case hr=>first|(go_simp;done)|(go_simp;rfl));intro gb242 hg w19 hbox hb;have n0_:=Aside0.mk (below_step zhb hb);have n1_:=Aside0.mk (hbox);have n2_:=Aside0.mk ((by rw [hg];exact (below_size zhb):w.heap.size≤gb242));have n3_:=Aside0.mk ((by rw [hg];exact (below_size zhb):w.heap.size≤gb242));clear HB;have HB:=n0_;have BK242:=n1_;have GW242:=n2_;have GE242:=n3_;clear n0_ n1_ n2_ n3_;clear hb hbox hg;have hcz20_0:w19.cell? ⟨gb242,0,none⟩=some (.int .i64 a0_0):=(blk_cell BK242.out 0).trans rfl;have hcz20_1:w19.cell? ⟨gb242,1,none⟩=some (.bool a0_1):=(blk_cell BK242.out 1).trans rfl;have hcz20_2:w19.cell? ⟨gb242,2,none⟩=some (.int .i64 a0_2):=(blk_cell BK242.out 2).trans rfl;have hcz20_3:w19.cell? ⟨gb242,3,none⟩=some (.int .i64 a0_3):=(blk_cell BK242.out 3).trans rfl;have hcz20_4:w19.cell? ⟨gb242,4,none⟩=some (.int .i64 a0_4):=(blk_cell BK242.out 4).trans rfl;have hcz20_5:w19.cell? ⟨gb242,5,none⟩=some (.int .i64 a0_5):=(blk_cell BK242.out 5).trans rfl;have hcz20_6:w19.cell? ⟨gb242,6,none⟩=some (.int .i64 a0_6):=(blk_cell BK242.out 6).trans rfl;have hcz20_7:w19.cell? ⟨gb242,7,none⟩=some (.int .i64 a0_7):=(blk_cell BK242.out 7).trans rfl;have hcz20_8:w19.cell? ⟨gb242,8,none⟩=some (.int .i64 a0_8):=(blk_cell BK242.out 8).trans rfl;have hcz20_9:w19.cell? ⟨gb242,9,none⟩=some (.int .i64 a0_9):=(blk_cell BK242.out 9).trans rfl;have hfz20_0:=blk_frozen BK242.out 0;have hfz20_1:=blk_frozen BK242.out 1;have hfz20_2:=blk_frozen BK242.out 2;have hfz20_3:=blk_frozen BK242.out 3;have hfz20_4:=blk_frozen BK242.out 4;have hfz20_5:=blk_frozen BK242.out 5;have hfz20_6:=blk_frozen BK242.out 6;have hfz20_7:=blk_frozen BK242.out 7;have hfz20_8:=blk_frozen BK242.out 8;have hfz20_9:=blk_frozen BK242.out 9)|(go_at_call 60;(with_reducible refine (spec_CellOk.calls a0_2 a0_3 a0_4 a0_5 a1 true _ A16.out).mono ?_);rintro e w21 ⟨rfl,hb⟩;have n0_:=Aside0.mk (blk_below (g:=gb242) (o:=.cells #[.int .i64 a0_0,.bool a0_1,.int .i64 a0_2,.int .i64 a0_3,.int .i64 a0_4,.int .i64 a0_5,.int .i64 a0_6,.int .i64 a0_7,.int .i64 a0_8,.int .i64 a0_9] 35 (0,0)) (by (with_reducible repeat (first|refine blk_drewN ?_ _|refine blk_drew ?_|refine blk_alloc ?_ _));exact BK242.out) hb);have n1_:=Aside0.mk (below_step (by repeat (first|(with_reducible first|exact HB.out|apply below_alloc|apply pw_below_drewN|apply below_drew1|refine below_set ?_ GE242.out)|exact HB.out)) hb);clear BK242;clear HB;have BK242:=n0_;have HB:=n1_;clear n0_ n1_;(try clear hb);(try clear hb2);(try clear hk);(try clear hi);have hcz22_0:w21.cell? ⟨gb242,0,none⟩=some (.int .i64 a0_0):=(blk_cell BK242.out 0).trans rfl;have hcz22_1:w21.cell? ⟨gb242,1,none⟩=some (.bool a0_1):=(blk_cell BK242.out 1).trans rfl;have hcz22_2:w21.cell? ⟨gb242,2,none⟩=some (.int .i64 a0_2):=(blk_cell BK242.out 2).trans rfl;have hcz22_3:w21.cell? ⟨gb242,3,none⟩=some (.int .i64 a0_3):=(blk_cell BK242.out 3).trans rfl;have hcz22_4:w21.cell? ⟨gb242,4,none⟩=some (.int .i64 a0_4):=(blk_cell BK242.out 4).trans rfl;have hcz22_5:w21.cell? ⟨gb242,5,none⟩=some (.int .i64 a0_5):=(blk_cell BK242.out 5).trans rfl;have hcz22_6:w21.cell? ⟨gb242,6,none⟩=some (.int .i64 a0_6):=(blk_cell BK242.out 6).trans rfl;have hcz22_7:w21.cell? ⟨gb242,7,none⟩=some (.int .i64 a0_7):=(blk_cell BK242.out 7).trans rfl;have hcz22_8:w21.cell? ⟨gb242,8,none⟩=some (.int .i64 a0_8):=(blk_cell BK242.out 8).trans rfl;have hcz22_9:w21.cell? ⟨gb242,9,none⟩=some (.int .i64 a0_9):=(blk_cell BK242.out 9).trans rfl;have hfz22_0:=blk_frozen BK242.out 0;have hfz22_1:=blk_frozen BK242.out 1;have hfz22_2:=blk_frozen BK242.out 2;have hfz22_3:=blk_frozen BK242.out 3;have hfz22_4:=blk_frozen BK242.out 4;have hfz22_5:=blk_frozen BK242.out 5;have hfz22_6:=blk_frozen BK242.out 6;have hfz22_7:=blk_frozen BK242.out 7;have hfz22_8:=blk_frozen BK242.out 8;have hfz22_9:=blk_frozen BK242.out 9)|(go_at_call 60;(with_reducible refine (spec_CellOk.calls a0_6 a0_7 a0_8 a0_9 a1 t246 _ A18.out).mono ?_);rintro e w23 ⟨rfl,hb⟩;have n0_:=Aside0.mk (blk_below (g:=gb242) (o:=.cells #[.int .i64 a0_0,.bool a0_1,.int .i64 a0_2,.int .i64 a0_3,.int .i64 a0_4,.int .i64 a0_5,.int .i64 a0_6,.int .i64 a0_7,.int .i64 a0_8,.int .i64 a0_9] 35 (0,0)) (by (with_reducible repeat (first|refine blk_drewN ?_ _|refine blk_drew ?_|refine blk_alloc ?_ _));exact BK242.out) hb);have n1_:=Aside0.mk (below_step (by repeat (first|(with_reducible first|exact HB.out|apply below_alloc|apply pw_below_drewN|apply below_drew1|refine below_set ?_ GE242.out)|exact HB.out)) hb);clear BK242;clear HB;have BK242:=n0_;have HB:=n1_;clear n0_ n1_;(try clear hb);(try clear hb2);(try clear hk);(try clear hi)))
    go_ret
    exact ⟨by first|rfl|(simp [errW_none,errW_some] <;> rfl)|(simp [*,errW_none,errW_some] <;> rfl),by repeat (first|(with_reducible first|exact HB.out|apply below_alloc|apply pw_below_drewN|apply below_drew1|refine below_set ?_ GE242.out)|exact HB.out)⟩
   ·replace c17:=Bool.eq_false_iff.mpr c17
    subst c17
    have H1:(some false)=some r:=by rw [if_neg (show ¬ (false=true) by decide)] at H;exact H
    clear H
    have H:=H1
    clear H1
    obtain rfl:=Option.some.inj H
    go_enter Try.func51,Try.ntmps51
    go_wp2_with (first|((with_reducible refine gate_dst (N:=2) rfl ?_);refine box_event ?hg (N:=2) ?hd (cs:=#[.int .i64 a0_0,.bool a0_1,.int .i64 a0_2,.int .i64 a0_3,.int .i64 a0_4,.int .i64 a0_5,.int .i64 a0_6,.int .i64 a0_7,.int .i64 a0_8,.int .i64 a0_9]) (t:=35) ?hr ?_;(case hd=>rfl);(case hg=>rfl);(case hr=>first|(go_simp;done)|(go_simp;rfl));intro gb242 hg w24 hbox hb;have n0_:=Aside0.mk (below_step zhb hb);have n1_:=Aside0.mk (hbox);have n2_:=Aside0.mk ((by rw [hg];exact (below_size zhb):w.heap.size≤gb242));have n3_:=Aside0.mk ((by rw [hg];exact (below_size zhb):w.heap.size≤gb242));clear HB;have HB:=n0_;have BK242:=n1_;have GW242:=n2_;have GE242:=n3_;clear n0_ n1_ n2_ n3_;clear hb hbox hg;have hcz25_0:w24.cell? ⟨gb242,0,none⟩=some (.int .i64 a0_0):=(blk_cell BK242.out 0).trans rfl;have hcz25_1:w24.cell? ⟨gb242,1,none⟩=some (.bool a0_1):=(blk_cell BK242.out 1).trans rfl;have hcz25_2:w24.cell? ⟨gb242,2,none⟩=some (.int .i64 a0_2):=(blk_cell BK242.out 2).trans rfl;have hcz25_3:w24.cell? ⟨gb242,3,none⟩=some (.int .i64 a0_3):=(blk_cell BK242.out 3).trans rfl;have hcz25_4:w24.cell? ⟨gb242,4,none⟩=some (.int .i64 a0_4):=(blk_cell BK242.out 4).trans rfl;have hcz25_5:w24.cell? ⟨gb242,5,none⟩=some (.int .i64 a0_5):=(blk_cell BK242.out 5).trans rfl;have hcz25_6:w24.cell? ⟨gb242,6,none⟩=some (.int .i64 a0_6):=(blk_cell BK242.out 6).trans rfl;have hcz25_7:w24.cell? ⟨gb242,7,none⟩=some (.int .i64 a0_7):=(blk_cell BK242.out 7).trans rfl;have hcz25_8:w24.cell? ⟨gb242,8,none⟩=some (.int .i64 a0_8):=(blk_cell BK242.out 8).trans rfl;have hcz25_9:w24.cell? ⟨gb242,9,none⟩=some (.int .i64 a0_9):=(blk_cell BK242.out 9).trans rfl;have hfz25_0:=blk_frozen BK242.out 0;have hfz25_1:=blk_frozen BK242.out 1;have hfz25_2:=blk_frozen BK242.out 2;have hfz25_3:=blk_frozen BK242.out 3;have hfz25_4:=blk_frozen BK242.out 4;have hfz25_5:=blk_frozen BK242.out 5;have hfz25_6:=blk_frozen BK242.out 6;have hfz25_7:=blk_frozen BK242.out 7;have hfz25_8:=blk_frozen BK242.out 8;have hfz25_9:=blk_frozen BK242.out 9)|(go_at_call 60;(with_reducible refine (spec_CellOk.calls a0_2 a0_3 a0_4 a0_5 a1 false _ A16.out).mono ?_);rintro e w26 ⟨rfl,hb⟩;have n0_:=Aside0.mk (blk_below (g:=gb242) (o:=.cells #[.int .i64 a0_0,.bool a0_1,.int .i64 a0_2,.int .i64 a0_3,.int .i64 a0_4,.int .i64 a0_5,.int .i64 a0_6,.int .i64 a0_7,.int .i64 a0_8,.int .i64 a0_9] 35 (0,0)) (by (with_reducible repeat (first|refine blk_drewN ?_ _|refine blk_drew ?_|refine blk_alloc ?_ _));exact BK242.out) hb);have n1_:=Aside0.mk (below_step (by repeat (first|(with_reducible first|exact HB.out|apply below_alloc|apply pw_below_drewN|apply below_drew1|refine below_set ?_ GE242.out)|exact HB.out)) hb);clear BK242;clear HB;have BK242:=n0_;have HB:=n1_;clear n0_ n1_;(try clear hb);(try clear hb2);(try clear hk);(try clear hi)))
    go_ret
    exact ⟨by first|rfl|(simp [errW_none,errW_some] <;> rfl)|(simp [*,errW_none,errW_some] <;> rfl),by repeat (first|(with_reducible first|exact HB.out|apply below_alloc|apply pw_below_drewN|apply below_drew1|refine below_set ?_ GE242.out)|exact HB.out)⟩
  ·rw [if_neg c15] at H
   have c15b0:(a0_0 == 2)=false:=beq_eq_false_iff_ne.mpr c15
   have c15b1:(a0_0 != 2)=true:=bne_iff_ne.mpr c15
   obtain rfl:=Option.some.inj H
   go_enter Try.func51,Try.ntmps51
   go_wp2_with (first|((with_reducible refine gate_dst (N:=2) rfl ?_);refine box_event ?hg (N:=2) ?hd (cs:=#[.int .i64 a0_0,.bool a0_1,.int .i64 a0_2,.int .i64 a0_3,.int .i64 a0_4,.int .i64 a0_5,.int .i64 a0_6,.int .i64 a0_7,.int .i64 a0_8,.int .i64 a0_9]) (t:=35) ?hr ?_;(case hd=>rfl);(case hg=>rfl);(case hr=>first|(go_simp;done)|(go_simp;rfl));intro gb242 hg w27 hbox hb;have n0_:=Aside0.mk (below_step zhb hb);have n1_:=Aside0.mk (hbox);have n2_:=Aside0.mk ((by rw [hg];exact (below_size zhb):w.heap.size≤gb242));have n3_:=Aside0.mk ((by rw [hg];exact (below_size zhb):w.heap.size≤gb242));clear HB;have HB:=n0_;have BK242:=n1_;have GW242:=n2_;have GE242:=n3_;clear n0_ n1_ n2_ n3_;clear hb hbox hg;have hcz28_0:w27.cell? ⟨gb242,0,none⟩=some (.int .i64 a0_0):=(blk_cell BK242.out 0).trans rfl;have hcz28_1:w27.cell? ⟨gb242,1,none⟩=some (.bool a0_1):=(blk_cell BK242.out 1).trans rfl;have hcz28_2:w27.cell? ⟨gb242,2,none⟩=some (.int .i64 a0_2):=(blk_cell BK242.out 2).trans rfl;have hcz28_3:w27.cell? ⟨gb242,3,none⟩=some (.int .i64 a0_3):=(blk_cell BK242.out 3).trans rfl;have hcz28_4:w27.cell? ⟨gb242,4,none⟩=some (.int .i64 a0_4):=(blk_cell BK242.out 4).trans rfl;have hcz28_5:w27.cell? ⟨gb242,5,none⟩=some (.int .i64 a0_5):=(blk_cell BK242.out 5).trans rfl;have hcz28_6:w27.cell? ⟨gb242,6,none⟩=some (.int .i64 a0_6):=(blk_cell BK242.out 6).trans rfl;have hcz28_7:w27.cell? ⟨gb242,7,none⟩=some (.int .i64 a0_7):=(blk_cell BK242.out 7).trans rfl;have hcz28_8:w27.cell? ⟨gb242,8,none⟩=some (.int .i64 a0_8):=(blk_cell BK242.out 8).trans rfl;have hcz28_9:w27.cell? ⟨gb242,9,none⟩=some (.int .i64 a0_9):=(blk_cell BK242.out 9).trans rfl;have hfz28_0:=blk_frozen BK242.out 0;have hfz28_1:=blk_frozen BK242.out 1;have hfz28_2:=blk_frozen BK242.out 2;have hfz28_3:=blk_frozen BK242.out 3;have hfz28_4:=blk_frozen BK242.out 4;have hfz28_5:=blk_frozen BK242.out 5;have hfz28_6:=blk_frozen BK242.out 6;have hfz28_7:=blk_frozen BK242.out 7;have hfz28_8:=blk_frozen BK242.out 8;have hfz28_9:=blk_frozen BK242.out 9))
   go_ret
   exact ⟨by first|rfl|(simp [errW_none,errW_some] <;> rfl)|(simp [*,errW_none,errW_some] <;> rfl),by repeat (first|(with_reducible first|exact HB.out|apply below_alloc|apply pw_below_drewN|apply below_drew1|refine below_set ?_ GE242.out)|exact HB.out)⟩

/-! ### spec_l4Cells: function 52 -/
def spec_l4Cells.l0:Nat→List (S33)→Int→Int→Option (Bool)
 | 0,_,_,_=>none
 | k + 1,x0,x1,x5=>if x5 < (x0.length:Int) then (if 0≤x5 then ((spec_CellOk.f ((rd_T33 x0 x5).f0) ((rd_T33 x0 x5).f1) ((rd_T33 x0 x5).f2) ((rd_T33 x0 x5).f3) x1).bind fun t248=>(if t248=true then (spec_l4Cells.l0 k x0 x1 (wrap64 (x5 + 1))) else (some false))) else (none)) else (if (x0.length:Int) ≥ 1 then (some (decide ((x0.length:Int)≤6))) else (some false))
def spec_l4Cells.f (k:Nat) (l0:List (S33)) (a1:Int):Option (Bool):=spec_l4Cells.l0 k l0 a1 0
theorem spec_l4Cells.mono_l : ∀ k,(∀ y0 y1 y2,LeO (spec_l4Cells.l0 k y0 y1 y2) (spec_l4Cells.l0 (k + 1) y0 y1 y2))
 | 0=>fun _ _ _ r h=>by simp [spec_l4Cells.l0] at h
 | k + 1=>by
  have ih0:=spec_l4Cells.mono_l k
  ·intro y0 y1 y2
   unfold spec_l4Cells.l0
   repeat' first
   | (with_reducible exact ih0 _ _ _)
   | (with_reducible exact LeO.refl _)
   | (with_reducible exact LeO.none _)
   | (with_reducible refine LeO.ite ?_ ?_)
   | (with_reducible refine LeO.bind ?_ (fun _=>?_))
   | exact LeO.none _
   | refine LeO.ite ?_ ?_
   | refine LeO.bind ?_ (fun _=>?_)
theorem spec_l4Cells.mono : ∀ a0 a1 k,LeO (spec_l4Cells.f k a0 a1) (spec_l4Cells.f (k + 1) a0 a1):=by
 intro a0 a1 k
 have ih0:=spec_l4Cells.mono_l k
 unfold spec_l4Cells.f
 repeat' first
   | (with_reducible exact ih0 _ _ _)
   | (with_reducible exact LeO.refl _)
   | (with_reducible exact LeO.none _)
   | (with_reducible refine LeO.ite ?_ ?_)
   | (with_reducible refine LeO.bind ?_ (fun _=>?_))
   | exact LeO.none _
   | refine LeO.ite ?_ ?_
   | refine LeO.bind ?_ (fun _=>?_)
set_option maxHeartbeats 8000000 in
set_option maxRecDepth 100000 in
theorem spec_l4Cells.calls (k:Nat) (A0:Option Addr) (c0:Nat) (l0:List (S33)) (a1:Int) (r:Bool) (w:World) (hr0:Kd.C k33 w A0 l0.length l0) (hc0:l0.length≤c0) (h:spec_l4Cells.f k l0 a1=some r) :
  Calls Try.prog 52 #[.slice A0 l0.length c0,.int .i64 a1] w fun e w'=>e=.returned (.bool r)∧Below w.heap.size w w':=by
 have hu33:=Try.underlying33
 have HR0:=Aside0.mk hr0
 have HC0:=Aside0.mk hc0
 clear hr0 hc0
 have HB:=Aside0.mk (Below.refl w.heap.size w)
 have H:(spec_l4Cells.l0 k l0 a1 0)=some r:=h
 clear h
 have H':=Aside0.mk H
 clear H
 go_enter Try.func52,Try.ntmps52
 go_wp2
 go_loopg [5] k (fun kq v5 w'=>∃ (x5_1:Int),v5=.int .i64 x5_1∧Aside0 (spec_l4Cells.l0 kq l0 a1 x5_1=some r)∧Aside0 (kq≤k)∧Aside0 (Below w.heap.size w w'))
 case atStart=>exact ⟨(0),(by first|rfl|(rw [HR_.out];first|done|rfl)|(simp;done)|(simp [*];done)),H',⟨Nat.le_refl _⟩,⟨zhb⟩⟩
 case round =>
  clear H'
  try clear p2
  obtain ⟨x5_1,rfl,HA,HK1,HB⟩:=hrel
  cases gk with
  | zero=>exact absurd HA.out (by simp [spec_l4Cells.l0])
  | succ k1 =>
   have H:=HA.out
   clear HA
   simp only [spec_l4Cells.l0] at H
   by_cases c3:x5_1 < (l0.length:Int)
   ·rw [if_pos c3] at H
    have c3b0:decide (x5_1 < (l0.length:Int))=true:=decide_eq_true c3
    clear c3
    by_cases c4:0≤x5_1
    ·rw [if_pos c4] at H
     have c4b0:decide (0≤x5_1)=true:=decide_eq_true c4
     clear c4
     replace H:=Option.bind_eq_some_iff.mp H
     obtain ⟨t248,A50,H⟩:=H
     (try dsimp only at H)
     have A5:=Aside0.mk A50
     clear A50
     by_cases c6:t248=true
     ·subst c6
      have H1:(spec_l4Cells.l0 k1 l0 a1 (wrap64 (x5_1 + 1)))=some r:=by rw [if_pos rfl] at H;exact H
      clear H
      have H:=H1
      clear H1
      have H':=Aside0.mk H
      clear H
      have p247:0≤(x5_1:Int):=zod
      have q247:x5_1 < (l0.length:Int):=zod
      obtain ⟨ad247,e247,hx247_0,hx247_1,hx247_2,hx247_3⟩:=at_T33 HR0.out x5_1 p247 q247
      cases e247
      replace hx247_0:=(HB.out.cell (World.block_lt_of_cell? w _ hx247_0)).trans hx247_0
      replace hx247_1:=(HB.out.cell (World.block_lt_of_cell? w _ hx247_1)).trans hx247_1
      replace hx247_2:=(HB.out.cell (World.block_lt_of_cell? w _ hx247_2)).trans hx247_2
      replace hx247_3:=(HB.out.cell (World.block_lt_of_cell? w _ hx247_3)).trans hx247_3
      replace p247:=eq_true p247
      replace q247:=eq_true q247
      go_wp2_with (first|((with_reducible refine gate_callee (f:=60) rfl ?_);refine goesL_ (some 17) rfl rfl Try.func60 (by kernel_rfl) rfl #[.agg #[.int .i64 ((rd_T33 l0 x5_1).f0),.int .i64 ((rd_T33 l0 x5_1).f1),.int .i64 ((rd_T33 l0 x5_1).f2),.int .i64 ((rd_T33 l0 x5_1).f3)],.int .i64 a1] rfl zar ?_;(with_reducible refine (spec_CellOk.calls ((rd_T33 l0 x5_1).f0) ((rd_T33 l0 x5_1).f1) ((rd_T33 l0 x5_1).f2) ((rd_T33 l0 x5_1).f3) a1 true _ A5.out).mono ?_);rintro e w7 ⟨rfl,hb⟩;refine ⟨_,rfl,?_⟩;have n0_:=Aside0.mk (below_step zhb hb);clear HB;have HB:=n0_;clear n0_;(try clear hb);(try clear hb2);(try clear hk);(try clear hi)))
      go_roundg k1
      case measure=>have:=HK1.out;omega
      case rel=>exact ⟨(wrap64 (x5_1 + 1)),(by first|rfl|(rw [HR_.out];first|done|rfl)|(simp;done)|(simp [*];done)),H',⟨by have:=HK1.out;omega⟩,⟨zhb⟩⟩
     ·replace c6:=Bool.eq_false_iff.mpr c6
      subst c6
      have H1:(some false)=some r:=by rw [if_neg (show ¬ (false=true) by decide)] at H;exact H
      clear H
      have H:=H1
      clear H1
      obtain rfl:=Option.some.inj H
      have p247:0≤(x5_1:Int):=zod
      have q247:x5_1 < (l0.length:Int):=zod
      obtain ⟨ad247,e247,hx247_0,hx247_1,hx247_2,hx247_3⟩:=at_T33 HR0.out x5_1 p247 q247
      cases e247
      replace hx247_0:=(HB.out.cell (World.block_lt_of_cell? w _ hx247_0)).trans hx247_0
      replace hx247_1:=(HB.out.cell (World.block_lt_of_cell? w _ hx247_1)).trans hx247_1
      replace hx247_2:=(HB.out.cell (World.block_lt_of_cell? w _ hx247_2)).trans hx247_2
      replace hx247_3:=(HB.out.cell (World.block_lt_of_cell? w _ hx247_3)).trans hx247_3
      replace p247:=eq_true p247
      replace q247:=eq_true q247
      go_wp2_with (first|((with_reducible refine gate_callee (f:=60) rfl ?_);refine goesL_ (some 17) rfl rfl Try.func60 (by kernel_rfl) rfl #[.agg #[.int .i64 ((rd_T33 l0 x5_1).f0),.int .i64 ((rd_T33 l0 x5_1).f1),.int .i64 ((rd_T33 l0 x5_1).f2),.int .i64 ((rd_T33 l0 x5_1).f3)],.int .i64 a1] rfl zar ?_;(with_reducible refine (spec_CellOk.calls ((rd_T33 l0 x5_1).f0) ((rd_T33 l0 x5_1).f1) ((rd_T33 l0 x5_1).f2) ((rd_T33 l0 x5_1).f3) a1 false _ A5.out).mono ?_);rintro e w8 ⟨rfl,hb⟩;refine ⟨_,rfl,?_⟩;have n0_:=Aside0.mk (below_step zhb hb);clear HB;have HB:=n0_;clear n0_;(try clear hb);(try clear hb2);(try clear hk);(try clear hi)))
      go_ret
      exact ⟨by first|rfl|(rw [HR_.out];first|done|rfl)|(simp [errW_none,errW_some] <;> rfl)|(simp [*,errW_none,errW_some] <;> rfl),zhb⟩
    ·rw [if_neg c4] at H
     exact absurd H (by simp)
   ·rw [if_neg c3] at H
    have c3b0:decide (x5_1 < (l0.length:Int))=false:=decide_eq_false c3
    clear c3
    by_cases c9:(l0.length:Int) ≥ 1
    ·rw [if_pos c9] at H
     have c9b0:decide (1≤(l0.length:Int))=true:=decide_eq_true c9
     have c9b1:decide (1≤l0.length)=true:=decide_eq_true (by omega)
     clear c9
     obtain rfl:=Option.some.inj H
     go_wp2
     go_ret
     exact ⟨by first|rfl|(rw [HR_.out];first|done|rfl)|(simp [errW_none,errW_some] <;> rfl)|(simp [*,errW_none,errW_some] <;> rfl),zhb⟩
    ·rw [if_neg c9] at H
     have c9b0:decide (1≤(l0.length:Int))=false:=decide_eq_false c9
     have c9b1:decide (1≤l0.length)=false:=decide_eq_false (by omega)
     clear c9
     obtain rfl:=Option.some.inj H
     go_wp2
     go_ret
     exact ⟨by first|rfl|(rw [HR_.out];first|done|rfl)|(simp [errW_none,errW_some] <;> rfl)|(simp [*,errW_none,errW_some] <;> rfl),zhb⟩

/-! ### spec_l4Keys: function 54 -/
mutual
def spec_l4Keys.l0:Nat→List Int→Int→Int→Option (Bool)
 | 0,_,_,_=>none
 | k + 1,x0,x1,x5=>if x5 < (x0.length:Int) then (if 0≤x5 then ((spec_l3Col.f (rd x0 x5) x1).bind fun t250=>(if t250=true then (spec_l4Keys.l1 k x0 x1 x5 0) else (some false))) else (none)) else (some (decide ((x0.length:Int) < 6)))
def spec_l4Keys.l1:Nat→List Int→Int→Int→Int→Option (Bool)
 | 0,_,_,_,_=>none
 | k + 1,x0,x1,x5,x6=>if x6 < x5 then (if 0≤x6 then (if x6 < (x0.length:Int) then (if 0≤x5 then (if x5 < (x0.length:Int) then (if (rd x0 x6)=(rd x0 x5) then (some false) else (spec_l4Keys.l1 k x0 x1 x5 (wrap64 (x6 + 1)))) else (none)) else (none)) else (none)) else (none)) else (spec_l4Keys.l0 k x0 x1 (wrap64 (x5 + 1)))
end
def spec_l4Keys.f (k:Nat) (l0:List Int) (a1:Int):Option (Bool):=spec_l4Keys.l0 k l0 a1 0
theorem spec_l4Keys.mono_l : ∀ k,(∀ y0 y1 y2,LeO (spec_l4Keys.l0 k y0 y1 y2) (spec_l4Keys.l0 (k + 1) y0 y1 y2))∧(∀ y0 y1 y2 y3,LeO (spec_l4Keys.l1 k y0 y1 y2 y3) (spec_l4Keys.l1 (k + 1) y0 y1 y2 y3))
 | 0=>⟨fun _ _ _ r h=>by simp [spec_l4Keys.l0] at h,fun _ _ _ _ r h=>by simp [spec_l4Keys.l1] at h⟩
 | k + 1=>by
  obtain ⟨ih0,ih1⟩:=spec_l4Keys.mono_l k
  refine ⟨?_,?_⟩
  ·intro y0 y1 y2
   unfold spec_l4Keys.l0
   repeat' first
   | (with_reducible exact ih0 _ _ _)
   | (with_reducible exact ih1 _ _ _ _)
   | (with_reducible exact LeO.refl _)
   | (with_reducible exact LeO.none _)
   | (with_reducible refine LeO.ite ?_ ?_)
   | (with_reducible refine LeO.bind ?_ (fun _=>?_))
   | exact LeO.none _
   | refine LeO.ite ?_ ?_
   | refine LeO.bind ?_ (fun _=>?_)
  ·intro y0 y1 y2 y3
   unfold spec_l4Keys.l1
   repeat' first
   | (with_reducible exact ih0 _ _ _)
   | (with_reducible exact ih1 _ _ _ _)
   | (with_reducible exact LeO.refl _)
   | (with_reducible exact LeO.none _)
   | (with_reducible refine LeO.ite ?_ ?_)
   | (with_reducible refine LeO.bind ?_ (fun _=>?_))
   | exact LeO.none _
   | refine LeO.ite ?_ ?_
   | refine LeO.bind ?_ (fun _=>?_)
theorem spec_l4Keys.mono : ∀ a0 a1 k,LeO (spec_l4Keys.f k a0 a1) (spec_l4Keys.f (k + 1) a0 a1):=by
 intro a0 a1 k
 obtain ⟨ih0,ih1⟩:=spec_l4Keys.mono_l k
 unfold spec_l4Keys.f
 repeat' first
   | (with_reducible exact ih0 _ _ _)
   | (with_reducible exact ih1 _ _ _ _)
   | (with_reducible exact LeO.refl _)
   | (with_reducible exact LeO.none _)
   | (with_reducible refine LeO.ite ?_ ?_)
   | (with_reducible refine LeO.bind ?_ (fun _=>?_))
   | exact LeO.none _
   | refine LeO.ite ?_ ?_
   | refine LeO.bind ?_ (fun _=>?_)
set_option maxHeartbeats 8000000 in
set_option maxRecDepth 100000 in
theorem spec_l4Keys.calls (k:Nat) (A0:Option Addr) (c0:Nat) (l0:List Int) (a1:Int) (r:Bool) (w:World) (hr0:Kd.C (Kd.int .i64) w A0 l0.length l0) (hc0:l0.length≤c0) (h:spec_l4Keys.f k l0 a1=some r) :
  Calls Try.prog 54 #[.slice A0 l0.length c0,.int .i64 a1] w fun e w'=>e=.returned (.bool r)∧Drawn0 w w':=by
 have HR0:=Aside0.mk hr0
 have HC0:=Aside0.mk hc0
 clear hr0 hc0
 have H:(spec_l4Keys.l0 k l0 a1 0)=some r:=h
 clear h
 have H':=Aside0.mk H
 clear H
 go_enter Try.func54,Try.ntmps54
 go_wp2
 repeat (go_quiet (fail);try go_wp2)
 go_loopg [5] k (fun kq v5 w'=>∃ (x5_1:Int),v5=.int .i64 x5_1∧Aside0 (spec_l4Keys.l0 kq l0 a1 x5_1=some r)∧Aside0 (kq≤k)∧Drawn0 w w')
 case atStart=>exact ⟨(0),(by first|rfl|(rw [HR_.out];first|done|rfl)|(simp;done)|(simp [*];done)),H',⟨Nat.le_refl _⟩,zdw⟩
 case round =>
  clear H'
  try clear p2
  obtain ⟨x5_1,rfl,HA,HK1,⟨m1,rfl⟩⟩:=hrel
  cases gk with
  | zero=>exact absurd HA.out (by simp [spec_l4Keys.l0])
  | succ k1 =>
   have H:=HA.out
   clear HA
   simp only [spec_l4Keys.l0] at H
   by_cases c3:x5_1 < (l0.length:Int)
   ·rw [if_pos c3] at H
    have c3b0:decide (x5_1 < (l0.length:Int))=true:=decide_eq_true c3
    clear c3
    by_cases c4:0≤x5_1
    ·rw [if_pos c4] at H
     have c4b0:decide (0≤x5_1)=true:=decide_eq_true c4
     clear c4
     replace H:=Option.bind_eq_some_iff.mp H
     obtain ⟨t250,A50,H⟩:=H
     (try dsimp only at H)
     have A5:=Aside0.mk A50
     clear A50
     by_cases c6:t250=true
     ·subst c6
      have H1:(spec_l4Keys.l1 k1 l0 a1 x5_1 0)=some r:=by rw [if_pos rfl] at H;exact H
      clear H
      have H:=H1
      clear H1
      have H':=Aside0.mk H
      clear H
      have p249:0≤(x5_1:Int):=zod
      have q249:x5_1 < (l0.length:Int):=zod
      obtain ⟨ad249,e249,hx249_0⟩:=Kd.at_int HR0.out x5_1 p249 q249
      cases e249
      replace p249:=eq_true p249
      replace q249:=eq_true q249
      go_wp2_with (first|(go_at_call 53;(with_reducible refine (spec_l3Col.calls (rd l0 x5_1) a1 true _ A5.out).mono ?_);rintro e w' ⟨rfl,⟨nd,rfl⟩⟩;(try first|exact ⟨rfl,_,World.drewN_drewN _ _ _⟩|exact ⟨rfl,_,Eq.trans (World.drewN_drewN _ _ _) (congrArg (World.drewN _) (Nat.add_assoc _ _ _))⟩)))
      repeat (go_quiet (first|(go_at_call 53;(with_reducible refine (spec_l3Col.calls (rd l0 x5_1) a1 true _ A5.out).mono ?_);rintro e w' ⟨rfl,⟨nd,rfl⟩⟩;(try first|exact ⟨rfl,_,World.drewN_drewN _ _ _⟩|exact ⟨rfl,_,Eq.trans (World.drewN_drewN _ _ _) (congrArg (World.drewN _) (Nat.add_assoc _ _ _))⟩)));try go_wp2_with (first|(go_at_call 53;(with_reducible refine (spec_l3Col.calls (rd l0 x5_1) a1 true _ A5.out).mono ?_);rintro e w' ⟨rfl,⟨nd,rfl⟩⟩;(try first|exact ⟨rfl,_,World.drewN_drewN _ _ _⟩|exact ⟨rfl,_,Eq.trans (World.drewN_drewN _ _ _) (congrArg (World.drewN _) (Nat.add_assoc _ _ _))⟩))))
      go_loopg [6] k1 (fun kq v6 w'=>∃ (x6_2:Int),v6=.int .i64 x6_2∧Aside0 (spec_l4Keys.l1 kq l0 a1 x5_1 x6_2=some r)∧Aside0 (kq≤k1)∧Drawn0 w w')
      case atStart=>exact ⟨(0),(by first|rfl|(rw [HR_.out];first|done|rfl)|(simp;done)|(simp [*];done)),H',⟨Nat.le_refl _⟩,zdw⟩
      case round =>
       clear H'
       try clear p2
       try clear q2
       try clear hx2
       try clear c3
       try clear c3b0
       try clear c4
       try clear c4b0
       try clear c5
       try clear c6
       try clear hx249_0
       try clear p2
       try clear p249
       try clear q249
       obtain ⟨x6_2,rfl,HA,HK2,⟨m2,rfl⟩⟩:=hrel
       cases gk with
       | zero=>exact absurd HA.out (by simp [spec_l4Keys.l1])
       | succ k2 =>
        have H:=HA.out
        clear HA
        simp only [spec_l4Keys.l1] at H
        by_cases c7:x6_2 < x5_1
        ·rw [if_pos c7] at H
         have c7b0:decide (x6_2 < x5_1)=true:=decide_eq_true c7
         clear c7
         by_cases c8:0≤x6_2
         ·rw [if_pos c8] at H
          have c8b0:decide (0≤x6_2)=true:=decide_eq_true c8
          clear c8
          by_cases c9:x6_2 < (l0.length:Int)
          ·rw [if_pos c9] at H
           have c9b0:decide (x6_2 < (l0.length:Int))=true:=decide_eq_true c9
           clear c9
           by_cases c10:0≤x5_1
           ·rw [if_pos c10] at H
            have c10b0:decide (0≤x5_1)=true:=decide_eq_true c10
            clear c10
            by_cases c11:x5_1 < (l0.length:Int)
            ·rw [if_pos c11] at H
             have c11b0:decide (x5_1 < (l0.length:Int))=true:=decide_eq_true c11
             clear c11
             by_cases c12:(rd l0 x6_2)=(rd l0 x5_1)
             ·rw [if_pos c12] at H
              have c12b0:((rd l0 x6_2) == (rd l0 x5_1))=true:=beq_iff_eq.mpr c12
              have c12b1:((rd l0 x6_2) != (rd l0 x5_1))=false:=bne_eq_false_iff_eq.mpr c12
              clear c12
              obtain rfl:=Option.some.inj H
              have p251:0≤(x6_2:Int):=zod
              have q251:x6_2 < (l0.length:Int):=zod
              obtain ⟨ad251,e251,hx251_0⟩:=Kd.at_int HR0.out x6_2 p251 q251
              obtain rfl:ad249=ad251:=(by injection e251)
              replace p251:=eq_true p251
              replace q251:=eq_true q251
              have p252:0≤(x5_1:Int):=zod
              have q252:x5_1 < (l0.length:Int):=zod
              obtain ⟨ad252,e252,hx252_0⟩:=Kd.at_int HR0.out x5_1 p252 q252
              obtain rfl:ad249=ad252:=(by injection e252)
              replace p252:=eq_true p252
              replace q252:=eq_true q252
              go_wp2
              repeat (go_quiet (fail);try go_wp2)
              go_ret
              exact ⟨by first|rfl|(rw [HR_.out];first|done|rfl)|(simp;done)|(simp [*];done),zdw⟩
             ·rw [if_neg c12] at H
              have c12b0:((rd l0 x6_2) == (rd l0 x5_1))=false:=beq_eq_false_iff_ne.mpr c12
              have c12b1:((rd l0 x6_2) != (rd l0 x5_1))=true:=bne_iff_ne.mpr c12
              have H':=Aside0.mk H
              clear H
              have p251:0≤(x6_2:Int):=zod
              have q251:x6_2 < (l0.length:Int):=zod
              obtain ⟨ad251,e251,hx251_0⟩:=Kd.at_int HR0.out x6_2 p251 q251
              obtain rfl:ad249=ad251:=(by injection e251)
              replace p251:=eq_true p251
              replace q251:=eq_true q251
              have p252:0≤(x5_1:Int):=zod
              have q252:x5_1 < (l0.length:Int):=zod
              obtain ⟨ad252,e252,hx252_0⟩:=Kd.at_int HR0.out x5_1 p252 q252
              obtain rfl:ad249=ad252:=(by injection e252)
              replace p252:=eq_true p252
              replace q252:=eq_true q252
              go_wp2
              repeat (go_quiet (fail);try go_wp2)
              go_roundg k2
              case measure=>have:=HK1.out;have:=HK2.out;omega
              case rel=>exact ⟨(wrap64 (x6_2 + 1)),(by first|rfl|(rw [HR_.out];first|done|rfl)|(simp;done)|(simp [*];done)),H',⟨by have:=HK1.out;have:=HK2.out;omega⟩,zdw⟩
            ·rw [if_neg c11] at H
             exact absurd H (by simp)
           ·rw [if_neg c10] at H
            exact absurd H (by simp)
          ·rw [if_neg c9] at H
           exact absurd H (by simp)
         ·rw [if_neg c8] at H
          exact absurd H (by simp)
        ·rw [if_neg c7] at H
         have c7b0:decide (x6_2 < x5_1)=false:=decide_eq_false c7
         clear c7
         have H':=Aside0.mk H
         clear H
         go_wp2
         repeat (go_quiet (fail);try go_wp2)
         go_roundg k2
         case measure=>have:=HK1.out;have:=HK2.out;omega
         case rel=>exact ⟨(wrap64 (x5_1 + 1)),(by first|rfl|(rw [HR_.out];first|done|rfl)|(simp;done)|(simp [*];done)),H',⟨by have:=HK1.out;have:=HK2.out;omega⟩,zdw⟩
     ·replace c6:=Bool.eq_false_iff.mpr c6
      subst c6
      have H1:(some false)=some r:=by rw [if_neg (show ¬ (false=true) by decide)] at H;exact H
      clear H
      have H:=H1
      clear H1
      obtain rfl:=Option.some.inj H
      have p249:0≤(x5_1:Int):=zod
      have q249:x5_1 < (l0.length:Int):=zod
      obtain ⟨ad249,e249,hx249_0⟩:=Kd.at_int HR0.out x5_1 p249 q249
      cases e249
      replace p249:=eq_true p249
      replace q249:=eq_true q249
      go_wp2_with (first|(go_at_call 53;(with_reducible refine (spec_l3Col.calls (rd l0 x5_1) a1 false _ A5.out).mono ?_);rintro e w' ⟨rfl,⟨nd,rfl⟩⟩;(try first|exact ⟨rfl,_,World.drewN_drewN _ _ _⟩|exact ⟨rfl,_,Eq.trans (World.drewN_drewN _ _ _) (congrArg (World.drewN _) (Nat.add_assoc _ _ _))⟩)))
      repeat (go_quiet (first|(go_at_call 53;(with_reducible refine (spec_l3Col.calls (rd l0 x5_1) a1 false _ A5.out).mono ?_);rintro e w' ⟨rfl,⟨nd,rfl⟩⟩;(try first|exact ⟨rfl,_,World.drewN_drewN _ _ _⟩|exact ⟨rfl,_,Eq.trans (World.drewN_drewN _ _ _) (congrArg (World.drewN _) (Nat.add_assoc _ _ _))⟩)));try go_wp2_with (first|(go_at_call 53;(with_reducible refine (spec_l3Col.calls (rd l0 x5_1) a1 false _ A5.out).mono ?_);rintro e w' ⟨rfl,⟨nd,rfl⟩⟩;(try first|exact ⟨rfl,_,World.drewN_drewN _ _ _⟩|exact ⟨rfl,_,Eq.trans (World.drewN_drewN _ _ _) (congrArg (World.drewN _) (Nat.add_assoc _ _ _))⟩))))
      go_ret
      exact ⟨by first|rfl|(rw [HR_.out];first|done|rfl)|(simp;done)|(simp [*];done),zdw⟩
    ·rw [if_neg c4] at H
     exact absurd H (by simp)
   ·rw [if_neg c3] at H
    have c3b0:decide (x5_1 < (l0.length:Int))=false:=decide_eq_false c3
    clear c3
    obtain rfl:=Option.some.inj H
    go_wp2
    repeat (go_quiet (fail);try go_wp2)
    go_ret
    exact ⟨by first|rfl|(rw [HR_.out];first|done|rfl)|(simp;done)|(simp [*];done),zdw⟩


inductive Ok30:S30→Prop
 | mk (x:S30) (h0:(Lit.int .i64 x.f0).wf=true) (h1:(Lit.int .i64 x.f1).wf=true) (h2:(((Lit.int .i64 x.f2.f0).wf=true)∧((True)∧(((((Lit.int .i64 x.f2.f2.f0).wf=true)∧(((Lit.int .i64 x.f2.f2.f1).wf=true)∧(((Lit.int .i64 x.f2.f2.f2).wf=true)∧((Lit.int .i64 x.f2.f2.f3).wf=true)))))∧((((Lit.int .i64 x.f2.f3.f0).wf=true)∧(((Lit.int .i64 x.f2.f3.f1).wf=true)∧(((Lit.int .i64 x.f2.f3.f2).wf=true)∧((Lit.int .i64 x.f2.f3.f3).wf=true))))))))) (h3:(x.f3.length≤maxLen∧∀ y0 ∈ x.f3,(((Lit.int .i64 y0.f0).wf=true)∧(((Lit.int .i64 y0.f1).wf=true)∧(((Lit.int .i64 y0.f2).wf=true)∧((Lit.int .i64 y0.f3).wf=true)))))) (h4:(Lit.int .i64 x.f4).wf=true) (h5:(Lit.int .i64 x.f5).wf=true) (h6:(x.f6.length≤maxLen∧∀ y0 ∈ x.f6,(Lit.int .i64 y0).wf=true)) (h7:(Lit.int .i64 x.f7).wf=true) (h8:(Lit.int .i64 x.f8).wf=true) (h9:x.f9.length≤maxLen) (g9 : ∀ y0 ∈ x.f9,Ok30 y0):Ok30 x
theorem Ok30.out {x:S30} (h:Ok30 x):(((Lit.int .i64 x.f0).wf=true)∧(((Lit.int .i64 x.f1).wf=true)∧(((((Lit.int .i64 x.f2.f0).wf=true)∧((True)∧(((((Lit.int .i64 x.f2.f2.f0).wf=true)∧(((Lit.int .i64 x.f2.f2.f1).wf=true)∧(((Lit.int .i64 x.f2.f2.f2).wf=true)∧((Lit.int .i64 x.f2.f2.f3).wf=true)))))∧((((Lit.int .i64 x.f2.f3.f0).wf=true)∧(((Lit.int .i64 x.f2.f3.f1).wf=true)∧(((Lit.int .i64 x.f2.f3.f2).wf=true)∧((Lit.int .i64 x.f2.f3.f3).wf=true)))))))))∧(((x.f3.length≤maxLen∧∀ y0 ∈ x.f3,(((Lit.int .i64 y0.f0).wf=true)∧(((Lit.int .i64 y0.f1).wf=true)∧(((Lit.int .i64 y0.f2).wf=true)∧((Lit.int .i64 y0.f3).wf=true))))))∧(((Lit.int .i64 x.f4).wf=true)∧(((Lit.int .i64 x.f5).wf=true)∧(((x.f6.length≤maxLen∧∀ y0 ∈ x.f6,(Lit.int .i64 y0).wf=true))∧(((Lit.int .i64 x.f7).wf=true)∧(((Lit.int .i64 x.f8).wf=true)∧((x.f9.length≤maxLen∧∀ y0 ∈ x.f9,(Ok30 y0)))))))))))):=by
 cases h with
 | mk _ h0 h1 h2 h3 h4 h5 h6 h7 h8 h9 g9=>exact ⟨h0,h1,h2,h3,h4,h5,h6,h7,h8,⟨h9,g9⟩⟩

end Go.Proofs.Ytlpgnkndjmfcjaa.PFnExactPlanWide
