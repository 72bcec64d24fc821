-- Written by wip/tools/pp.py, a program of this session over the kit's printer: not the kit's own print
import Derived.Test.YtlpgnkndjmfcjaaPFnExactPlanSamex0
namespace Go.Proofs.Ytlpgnkndjmfcjaa.PFnExactPlanSame
open Go.RowKit Go.Proofs.YtlpgnkndjmfcjaaW.PrintWords Go.Proofs.YtlpgnkndjmfcjaaW.PrintLast Go.Proofs.YtlpgnkndjmfcjaaW.PrintMore
attribute [local go_sem] max2_int min2_int max_two min_two max_three min_three max_four min_four   -- for this text's walks alone
set_option linter.unusedVariables false
set_option linter.unusedSimpArgs false

theorem eqA33 (d:Nat) (w:World) (x0 y0:Int) (x1 y1:Int) (x2 y2:Int) (x3 y3:Int) :
  (Op.equalIn (d + 2) 33 (.agg #[.int .i64 x0,.int .i64 x1,.int .i64 x2,.int .i64 x3]) (.agg #[.int .i64 y0,.int .i64 y1,.int .i64 y2,.int .i64 y3])).run Try.prog w=.ok (x0 == y0 && (x1 == y1 && (x2 == y2 && (x3 == y3)))) w:=by
 refine eqA_of Try.underlying33 (by kernel_rfl) ?_
 refine eqf_cons (by rfl) (by go_simp;rfl) (by go_simp;rfl) (by go_simp) ?_
 refine eqf_cons (by rfl) (by go_simp;rfl) (by go_simp;rfl) (by go_simp) ?_
 refine eqf_cons (by rfl) (by go_simp;rfl) (by go_simp;rfl) (by go_simp) ?_
 exact eqf_last (by rfl) (by go_simp;rfl) (by go_simp;rfl) (by go_simp)

theorem eqA35 (d:Nat) (w:World) (x0 y0:Int) (x1 y1:Bool) (x2 y2:Int) (x3 y3:Int) (x4 y4:Int) (x5 y5:Int) (x6 y6:Int) (x7 y7:Int) (x8 y8:Int) (x9 y9:Int) :
  (Op.equalIn (d + 3) 35 (.agg #[.int .i64 x0,.bool x1,.int .i64 x2,.int .i64 x3,.int .i64 x4,.int .i64 x5,.int .i64 x6,.int .i64 x7,.int .i64 x8,.int .i64 x9]) (.agg #[.int .i64 y0,.bool y1,.int .i64 y2,.int .i64 y3,.int .i64 y4,.int .i64 y5,.int .i64 y6,.int .i64 y7,.int .i64 y8,.int .i64 y9])).run Try.prog w=.ok (x0 == y0 && (x1 == y1 && ((x2 == y2 && (x3 == y3 && (x4 == y4 && (x5 == y5)))) && ((x6 == y6 && (x7 == y7 && (x8 == y8 && (x9 == y9)))))))) w:=by
 refine eqA_of Try.underlying35 (by kernel_rfl) ?_
 refine eqf_cons (by rfl) (by go_simp;rfl) (by go_simp;rfl) (by go_simp) ?_
 refine eqf_cons (by rfl) (by go_simp;rfl) (by go_simp;rfl) (by go_simp) ?_
 refine eqf_cons (by rfl) (by go_simp) (by go_simp) (eqA33 (d + 0) w _ _ _ _ _ _ _ _) ?_
 exact eqf_last (by rfl) (by go_simp) (by go_simp) (eqA33 (d + 0) w _ _ _ _ _ _ _ _)
/-! ### laws_szCellS: function 17 -/
def laws_szCellS.f (l0:List (S23)) (a1:Int):Option (Int):=if (wrap64 (a1 - (l0.length:Int))) < 0 then (some (-1)) else (some (wrap64 (a1 - (l0.length:Int))))
set_option maxHeartbeats 8000000 in
set_option maxRecDepth 100000 in
theorem laws_szCellS.calls (A0:Option Addr) (c0:Nat) (l0:List (S23)) (a1:Int) (r:Int) (w:World) (hr0:Kd.C k23 w A0 l0.length l0) (hc0:l0.length≤c0) (h:laws_szCellS.f l0 a1=some r) :
  Calls Try.prog 17 #[.slice A0 l0.length c0,.int .i64 a1] w fun e w'=>e=.returned (.int .i64 r)∧Drawn0 w w':=by
 have HR0:=Aside0.mk hr0
 have HC0:=Aside0.mk hc0
 clear hr0 hc0
 have H:(if (wrap64 (a1 - (l0.length:Int))) < 0 then (some (-1)) else (some (wrap64 (a1 - (l0.length:Int)))))=some r:=h
 clear h
 by_cases c3:(wrap64 (a1 - (l0.length:Int))) < 0
 ·rw [if_pos c3] at H
  have c3b0:decide ((wrap64 (a1 - (l0.length:Int))) < 0)=true:=decide_eq_true c3
  clear c3
  obtain rfl:=Option.some.inj H
  go_enter Try.func17,Try.ntmps17
  go_wp2
  go_ret
  exact ⟨by first|rfl|(simp;done)|(simp [*];done),zdw⟩
 ·rw [if_neg c3] at H
  have c3b0:decide ((wrap64 (a1 - (l0.length:Int))) < 0)=false:=decide_eq_false c3
  clear c3
  obtain rfl:=Option.some.inj H
  go_enter Try.func17,Try.ntmps17
  go_wp2
  go_ret
  exact ⟨by first|rfl|(simp;done)|(simp [*];done),zdw⟩

/-! ### laws_szIntS: function 18 -/
def laws_szIntS.f (l0:List Int) (a1:Int):Option (Int):=if (wrap64 (a1 - (l0.length:Int))) < 0 then (some (-1)) else (some (wrap64 (a1 - (l0.length:Int))))
set_option maxHeartbeats 8000000 in
set_option maxRecDepth 100000 in
theorem laws_szIntS.calls (A0:Option Addr) (c0:Nat) (l0:List Int) (a1:Int) (r:Int) (w:World) (hr0:Kd.C (Kd.int .i64) w A0 l0.length l0) (hc0:l0.length≤c0) (h:laws_szIntS.f l0 a1=some r) :
  Calls Try.prog 18 #[.slice A0 l0.length c0,.int .i64 a1] w fun e w'=>e=.returned (.int .i64 r)∧Drawn0 w w':=by
 have HR0:=Aside0.mk hr0
 have HC0:=Aside0.mk hc0
 clear hr0 hc0
 have H:(if (wrap64 (a1 - (l0.length:Int))) < 0 then (some (-1)) else (some (wrap64 (a1 - (l0.length:Int)))))=some r:=h
 clear h
 by_cases c3:(wrap64 (a1 - (l0.length:Int))) < 0
 ·rw [if_pos c3] at H
  have c3b0:decide ((wrap64 (a1 - (l0.length:Int))) < 0)=true:=decide_eq_true c3
  clear c3
  obtain rfl:=Option.some.inj H
  go_enter Try.func18,Try.ntmps18
  go_wp2
  go_ret
  exact ⟨by first|rfl|(simp;done)|(simp [*];done),zdw⟩
 ·rw [if_neg c3] at H
  have c3b0:decide ((wrap64 (a1 - (l0.length:Int))) < 0)=false:=decide_eq_false c3
  clear c3
  obtain rfl:=Option.some.inj H
  go_enter Try.func18,Try.ntmps18
  go_wp2
  go_ret
  exact ⟨by first|rfl|(simp;done)|(simp [*];done),zdw⟩


/-! ### spec_l1Order: function 41 -/
def spec_l1Order.l0:Nat→List Int→List Int→Int→Option (Int)
 | 0,_,_,_=>none
 | k + 1,x0,x1,x5=>if x5 < (x0.length:Int) then (if x5 < (x1.length:Int) then (if 0≤x5 then (if (rd x0 x5) < (rd x1 x5) then (some (-1)) else (if (rd x0 x5) > (rd x1 x5) then (some 1) else (spec_l1Order.l0 k x0 x1 (wrap64 (x5 + 1))))) else (none)) else (some (wrap64 ((x0.length:Int) - (x1.length:Int))))) else (some (wrap64 ((x0.length:Int) - (x1.length:Int))))
def spec_l1Order.f (k:Nat) (l0:List Int) (l1:List Int):Option (Int):=spec_l1Order.l0 k l0 l1 0
theorem spec_l1Order.mono_l : ∀ k,(∀ y0 y1 y2,LeO (spec_l1Order.l0 k y0 y1 y2) (spec_l1Order.l0 (k + 1) y0 y1 y2))
 | 0=>fun _ _ _ r h=>by simp [spec_l1Order.l0] at h
 | k + 1=>by
  have ih0:=spec_l1Order.mono_l k
  ·intro y0 y1 y2
   unfold spec_l1Order.l0
   repeat' first
   | (with_reducible exact ih0 _ _ _)
   | (with_reducible exact LeO.refl _)
   | (with_reducible exact LeO.none _)
   | (with_reducible refine LeO.ite ?_ ?_)
   | (with_reducible refine LeO.bind ?_ (fun _=>?_))
   | exact LeO.none _
   | refine LeO.ite ?_ ?_
   | refine LeO.bind ?_ (fun _=>?_)
theorem spec_l1Order.mono : ∀ a0 a1 k,LeO (spec_l1Order.f k a0 a1) (spec_l1Order.f (k + 1) a0 a1):=by
 intro a0 a1 k
 have ih0:=spec_l1Order.mono_l k
 unfold spec_l1Order.f
 repeat' first
   | (with_reducible exact ih0 _ _ _)
   | (with_reducible exact LeO.refl _)
   | (with_reducible exact LeO.none _)
   | (with_reducible refine LeO.ite ?_ ?_)
   | (with_reducible refine LeO.bind ?_ (fun _=>?_))
   | exact LeO.none _
   | refine LeO.ite ?_ ?_
   | refine LeO.bind ?_ (fun _=>?_)
set_option maxHeartbeats 8000000 in
set_option maxRecDepth 100000 in
theorem spec_l1Order.calls (k:Nat) (A0:Option Addr) (c0:Nat) (l0:List Int) (A1:Option Addr) (c1:Nat) (l1:List Int) (r:Int) (w:World) (hr0:Kd.C (Kd.int .i64) w A0 l0.length l0) (hc0:l0.length≤c0) (hr1:Kd.C (Kd.int .i64) w A1 l1.length l1) (hc1:l1.length≤c1) (h:spec_l1Order.f k l0 l1=some r) :
  Calls Try.prog 41 #[.slice A0 l0.length c0,.slice A1 l1.length c1] w fun e w'=>e=.returned (.int .i64 r)∧Drawn0 w w':=by
 have HR0:=Aside0.mk hr0
 have HC0:=Aside0.mk hc0
 clear hr0 hc0
 have HR1:=Aside0.mk hr1
 have HC1:=Aside0.mk hc1
 clear hr1 hc1
 have H:(spec_l1Order.l0 k l0 l1 0)=some r:=h
 clear h
 have H':=Aside0.mk H
 clear H
 go_enter Try.func41,Try.ntmps41
 go_wp2
 repeat (go_quiet (fail);try go_wp2)
 go_loopg [5] k (fun kq v5 w'=>∃ (x5_1:Int),v5=.int .i64 x5_1∧Aside0 (spec_l1Order.l0 kq l0 l1 x5_1=some r)∧Aside0 (kq≤k)∧Drawn0 w w')
 case atStart=>exact ⟨(0),(by first|rfl|(simp;done)|(simp [*];done)),H',⟨Nat.le_refl _⟩,zdw⟩
 case round =>
  clear H'
  try clear c1
  try clear p2
  obtain ⟨x5_1,rfl,HA,HK1,⟨m1,rfl⟩⟩:=hrel
  cases gk with
  | zero=>exact absurd HA.out (by simp [spec_l1Order.l0])
  | succ k1 =>
   have H:=HA.out
   clear HA
   simp only [spec_l1Order.l0] at H
   by_cases c3:x5_1 < (l0.length:Int)
   ·rw [if_pos c3] at H
    have c3b0:decide (x5_1 < (l0.length:Int))=true:=decide_eq_true c3
    clear c3
    by_cases c4:x5_1 < (l1.length:Int)
    ·rw [if_pos c4] at H
     have c4b0:decide (x5_1 < (l1.length:Int))=true:=decide_eq_true c4
     clear c4
     by_cases c5:0≤x5_1
     ·rw [if_pos c5] at H
      have c5b0:decide (0≤x5_1)=true:=decide_eq_true c5
      clear c5
      by_cases c6:(rd l0 x5_1) < (rd l1 x5_1)
      ·rw [if_pos c6] at H
       have c6b0:decide ((rd l0 x5_1) < (rd l1 x5_1))=true:=decide_eq_true c6
       clear c6
       obtain rfl:=Option.some.inj H
       have p107:0≤(x5_1:Int):=zod
       have q107:x5_1 < (l0.length:Int):=zod
       obtain ⟨ad107,e107,hx107_0⟩:=Kd.at_int HR0.out x5_1 p107 q107
       cases e107
       replace p107:=eq_true p107
       replace q107:=eq_true q107
       have p108:0≤(x5_1:Int):=zod
       have q108:x5_1 < (l1.length:Int):=zod
       obtain ⟨ad108,e108,hx108_0⟩:=Kd.at_int HR1.out x5_1 p108 q108
       cases e108
       replace p108:=eq_true p108
       replace q108:=eq_true q108
       go_wp2
       repeat (go_quiet (fail);try go_wp2)
       go_ret
       exact ⟨by first|rfl|(simp;done)|(simp [*];done),zdw⟩
      ·rw [if_neg c6] at H
       have c6b0:decide ((rd l0 x5_1) < (rd l1 x5_1))=false:=decide_eq_false c6
       clear c6
       by_cases c7:(rd l0 x5_1) > (rd l1 x5_1)
       ·rw [if_pos c7] at H
        have c7b0:decide ((rd l1 x5_1) < (rd l0 x5_1))=true:=decide_eq_true c7
        clear c7
        obtain rfl:=Option.some.inj H
        have p107:0≤(x5_1:Int):=zod
        have q107:x5_1 < (l0.length:Int):=zod
        obtain ⟨ad107,e107,hx107_0⟩:=Kd.at_int HR0.out x5_1 p107 q107
        cases e107
        replace p107:=eq_true p107
        replace q107:=eq_true q107
        have p108:0≤(x5_1:Int):=zod
        have q108:x5_1 < (l1.length:Int):=zod
        obtain ⟨ad108,e108,hx108_0⟩:=Kd.at_int HR1.out x5_1 p108 q108
        cases e108
        replace p108:=eq_true p108
        replace q108:=eq_true q108
        have p109:0≤(x5_1:Int):=zod
        have q109:x5_1 < (l0.length:Int):=zod
        obtain ⟨ad109,e109,hx109_0⟩:=Kd.at_int HR0.out x5_1 p109 q109
        obtain rfl:ad107=ad109:=(by injection e109)
        replace p109:=eq_true p109
        replace q109:=eq_true q109
        have p110:0≤(x5_1:Int):=zod
        have q110:x5_1 < (l1.length:Int):=zod
        obtain ⟨ad110,e110,hx110_0⟩:=Kd.at_int HR1.out x5_1 p110 q110
        obtain rfl:ad108=ad110:=(by injection e110)
        replace p110:=eq_true p110
        replace q110:=eq_true q110
        go_wp2
        repeat (go_quiet (fail);try go_wp2)
        go_ret
        exact ⟨by first|rfl|(simp;done)|(simp [*];done),zdw⟩
       ·rw [if_neg c7] at H
        have c7b0:decide ((rd l1 x5_1) < (rd l0 x5_1))=false:=decide_eq_false c7
        clear c7
        have H':=Aside0.mk H
        clear H
        have p107:0≤(x5_1:Int):=zod
        have q107:x5_1 < (l0.length:Int):=zod
        obtain ⟨ad107,e107,hx107_0⟩:=Kd.at_int HR0.out x5_1 p107 q107
        cases e107
        replace p107:=eq_true p107
        replace q107:=eq_true q107
        have p108:0≤(x5_1:Int):=zod
        have q108:x5_1 < (l1.length:Int):=zod
        obtain ⟨ad108,e108,hx108_0⟩:=Kd.at_int HR1.out x5_1 p108 q108
        cases e108
        replace p108:=eq_true p108
        replace q108:=eq_true q108
        have p109:0≤(x5_1:Int):=zod
        have q109:x5_1 < (l0.length:Int):=zod
        obtain ⟨ad109,e109,hx109_0⟩:=Kd.at_int HR0.out x5_1 p109 q109
        obtain rfl:ad107=ad109:=(by injection e109)
        replace p109:=eq_true p109
        replace q109:=eq_true q109
        have p110:0≤(x5_1:Int):=zod
        have q110:x5_1 < (l1.length:Int):=zod
        obtain ⟨ad110,e110,hx110_0⟩:=Kd.at_int HR1.out x5_1 p110 q110
        obtain rfl:ad108=ad110:=(by injection e110)
        replace p110:=eq_true p110
        replace q110:=eq_true q110
        go_wp2
        repeat (go_quiet (fail);try go_wp2)
        go_roundg k1
        case measure=>have:=HK1.out;omega
        case rel=>exact ⟨(wrap64 (x5_1 + 1)),(by first|rfl|(simp;done)|(simp [*];done)),H',⟨by have:=HK1.out;omega⟩,zdw⟩
     ·rw [if_neg c5] at H
      exact absurd H (by simp)
    ·rw [if_neg c4] at H
     have c4b0:decide (x5_1 < (l1.length:Int))=false:=decide_eq_false c4
     clear c4
     obtain rfl:=Option.some.inj H
     go_wp2
     repeat (go_quiet (fail);try go_wp2)
     go_ret
     exact ⟨by first|rfl|(simp;done)|(simp [*];done),zdw⟩
   ·rw [if_neg c3] at H
    have c3b0:decide (x5_1 < (l0.length:Int))=false:=decide_eq_false c3
    clear c3
    obtain rfl:=Option.some.inj H
    go_wp2
    repeat (go_quiet (fail);try go_wp2)
    go_ret
    exact ⟨by first|rfl|(simp;done)|(simp [*];done),zdw⟩

/-! ### spec_l4Ints: function 20 -/
def spec_l4Ints.f (k:Nat) (l0:List Int) (l1:List Int):Option (Bool):=(spec_l1Order.f k l0 l1).bind fun t111=>(some (t111 == 0))
theorem spec_l4Ints.mono : ∀ a0 a1 k,LeO (spec_l4Ints.f k a0 a1) (spec_l4Ints.f (k + 1) a0 a1):=by
 intro a0 a1 k
 unfold spec_l4Ints.f
 repeat' first
   | (with_reducible exact spec_l1Order.mono _ _ _)
   | (with_reducible exact LeO.refl _)
   | (with_reducible exact LeO.none _)
   | (with_reducible refine LeO.ite ?_ ?_)
   | (with_reducible refine LeO.bind ?_ (fun _=>?_))
   | exact LeO.none _
   | refine LeO.ite ?_ ?_
   | refine LeO.bind ?_ (fun _=>?_)
set_option maxHeartbeats 8000000 in
set_option maxRecDepth 100000 in
theorem spec_l4Ints.calls (k:Nat) (A0:Option Addr) (c0:Nat) (l0:List Int) (A1:Option Addr) (c1:Nat) (l1:List Int) (r:Bool) (w:World) (hr0:Kd.C (Kd.int .i64) w A0 l0.length l0) (hc0:l0.length≤c0) (hr1:Kd.C (Kd.int .i64) w A1 l1.length l1) (hc1:l1.length≤c1) (h:spec_l4Ints.f k l0 l1=some r) :
  Calls Try.prog 20 #[.slice A0 l0.length c0,.slice A1 l1.length c1] w fun e w'=>e=.returned (.bool r)∧Drawn0 w w':=by
 have HR0:=Aside0.mk hr0
 have HC0:=Aside0.mk hc0
 clear hr0 hc0
 have HR1:=Aside0.mk hr1
 have HC1:=Aside0.mk hc1
 clear hr1 hc1
 have H:((spec_l1Order.f k l0 l1).bind fun t111=>(some (t111 == 0)))=some r:=h
 clear h
 replace H:=Option.bind_eq_some_iff.mp H
 obtain ⟨t111,A30,H⟩:=H
 (try dsimp only at H)
 have A3:=Aside0.mk A30
 clear A30
 obtain rfl:=Option.some.inj H
 go_enter Try.func20,Try.ntmps20
 go_wp2_with (first|((with_reducible refine gate_callee (f:=41) rfl ?_);refine goesL_ (some 7) rfl rfl Try.func41 (by kernel_rfl) rfl #[.slice A0 l0.length c0,.slice A1 l1.length c1] rfl zar ?_;(with_reducible refine (spec_l1Order.calls k _ _ l0 _ _ l1 t111 _ ?side1 ?side2 ?side3 ?side4 A3.out).mono ?_);(case side1=>exact zC HR0.out);(case side2=>exact HC0.out);(case side3=>exact zC HR1.out);(case side4=>exact HC1.out);rintro e w' ⟨rfl,⟨nd,rfl⟩⟩;refine ⟨_,rfl,?_⟩))
 go_ret
 exact ⟨by first|rfl|(simp;done)|(simp [*];done),zdw⟩

/-! ### laws_toIntS: function 15 -/
def laws_toIntS.l0:Nat→List Int→List Int→Int→Option (List Int)
 | 0,_,_,_=>none
 | k + 1,x0,x3,x4=>if x4 < (x0.length:Int) then (if 0≤x4 then (if x4 < (x3.length:Int) then (laws_toIntS.l0 k x0 (x3.set (x4:Int).toNat (rd x0 x4)) (wrap64 (x4 + 1))) else (none)) else (none)) else (some x3)
def laws_toIntS.f (k:Nat) (l0:List Int):Option (List Int):=if 0≤(l0.length:Int) then (if ((l0.length:Int):Int).toNat≤35184372088832 then (laws_toIntS.l0 k l0 (List.replicate ((l0.length:Int):Int).toNat 0) 0) else (none)) else (none)
theorem laws_toIntS.mono_l : ∀ k,(∀ y0 y1 y2,LeO (laws_toIntS.l0 k y0 y1 y2) (laws_toIntS.l0 (k + 1) y0 y1 y2))
 | 0=>fun _ _ _ r h=>by simp [laws_toIntS.l0] at h
 | k + 1=>by
  have ih0:=laws_toIntS.mono_l k
  ·intro y0 y1 y2
   unfold laws_toIntS.l0
   repeat' first
   | (with_reducible exact ih0 _ _ _)
   | (with_reducible exact LeO.refl _)
   | (with_reducible exact LeO.none _)
   | (with_reducible refine LeO.ite ?_ ?_)
   | (with_reducible refine LeO.bind ?_ (fun _=>?_))
   | exact LeO.none _
   | refine LeO.ite ?_ ?_
   | refine LeO.bind ?_ (fun _=>?_)
theorem laws_toIntS.mono : ∀ a0 k,LeO (laws_toIntS.f k a0) (laws_toIntS.f (k + 1) a0):=by
 intro a0 k
 have ih0:=laws_toIntS.mono_l k
 unfold laws_toIntS.f
 repeat' first
   | (with_reducible exact ih0 _ _ _)
   | (with_reducible exact LeO.refl _)
   | (with_reducible exact LeO.none _)
   | (with_reducible refine LeO.ite ?_ ?_)
   | (with_reducible refine LeO.bind ?_ (fun _=>?_))
   | exact LeO.none _
   | refine LeO.ite ?_ ?_
   | refine LeO.bind ?_ (fun _=>?_)
set_option maxHeartbeats 8000000 in
set_option maxRecDepth 100000 in
theorem laws_toIntS.calls (k:Nat) (A0:Option Addr) (c0:Nat) (l0:List Int) (r:List Int) (w:World) (hr0:Kd.C (Kd.int .i64) w A0 l0.length l0) (hc0:l0.length≤c0) (h:laws_toIntS.f k l0=some r) :
  Calls Try.prog 15 #[.slice A0 l0.length c0] w fun e w'=>∃ v0_:Value,e=.returned (v0_)∧Kd.R (Kd.int .i64) 3 w' w.heap.size (fun _=>True) v0_ r∧Below w.heap.size w w':=by
 have HR0:=Aside0.mk hr0
 have HC0:=Aside0.mk hc0
 clear hr0 hc0
 have HB:=Aside0.mk (Below.refl w.heap.size w)
 have H:(if 0≤(l0.length:Int) then (if ((l0.length:Int):Int).toNat≤35184372088832 then (laws_toIntS.l0 k l0 (List.replicate ((l0.length:Int):Int).toNat 0) 0) else (none)) else (none))=some r:=h
 clear h
 by_cases c2:0≤(l0.length:Int)
 ·rw [if_pos c2] at H
  have c2b0:=eq_true c2
  have c2b1:decide (0≤(l0.length:Int))=true:=decide_eq_true c2
  clear c2
  by_cases c3:((l0.length:Int):Int).toNat≤35184372088832
  ·rw [if_pos c3] at H
   have c3b0:=eq_true c3
   have c3b1:decide (((l0.length:Int):Int).toNat≤35184372088832)=true:=decide_eq_true c3
   clear c3
   obtain ⟨y120,hy120⟩ : ∃ y_:List Int,y_=(List.replicate ((l0.length:Int):Int).toNat 0):=⟨_,rfl⟩
   replace H:(laws_toIntS.l0 k l0 y120 0)=some r:=by first|(rw [hy120];with_reducible exact H)|(have H2_:=(Option.bind_some _ _).symm.trans H;rw [hy120];with_reducible exact H2_)|(have H2_:=(Option.bind_some _ _).symm.trans H;with_reducible exact H2_)|with_reducible exact H|(rw [hy120];exact H)|exact H
   have Ny120:=Aside0.mk hy120
   clear hy120
   have H':=Aside0.mk H
   clear H
   go_enter Try.func15,Try.ntmps15
   go_wp2_with (first|((with_reducible refine gate_dst (N:=7) rfl ?_);refine Kd.R_make (Kd.int .i64) _ 3 rfl (N:=7) rfl 27 _ _ rfl (l0.length:Int) rfl rfl Try.underlying27 (.int .i64 0) 8 info3 rfl (by decide) (by omega) 0 (ok:=fun _=>True) (okp:=fun _=>True) rfl (fun _ hk=>hk) trivial (zod) (Nat.le_trans (Nat.mul_le_mul_right _ (zod:(l0.length:Int).toNat≤35184372088832)) (by omega)) (Below.refl _ _) (Nat.le_refl _) ?_;intro v121 w4 ho5 hb hg_ hnew_;clear hg_ hnew_;(first|rw [← Ny120.out] at ho5|(simp only [Int.reduceToNat] at ho5;rw [← Ny120.out] at ho5));have n0_:=Aside0.mk (Kd.R_lower ho5 (below_size zhb));have n1_:=Aside0.mk (below_step zhb hb);clear HB;have HO122:=n0_;have HB:=n1_;clear n0_ n1_;clear hb ho5))
   go_loopg [4] k (fun kq v4 w'=>∃ (x3_1:List Int) (x4_1:Int),v4=.int .i64 x4_1∧Aside0 (laws_toIntS.l0 kq l0 x3_1 x4_1=some r)∧Aside0 (kq≤k)∧Aside0 (Kd.R (Kd.int .i64) 3 w' w.heap.size (fun _=>True) v121 x3_1)∧Aside0 (Below w.heap.size w w'))
   case atStart=>exact ⟨(y120),(0),(by first|rfl|(simp;done)|(simp [*];done)),H',⟨Nat.le_refl _⟩,⟨by (with_reducible repeat (first|apply Kd.R_alloc|apply Kd.R_drewN|apply Kd.R_drew));exact HO122.out⟩,⟨zhb⟩⟩
   case round =>
    clear H'
    try clear c1
    try clear c2
    try clear c2b0
    try clear c2b1
    try clear p2
    try clear c3
    try clear c3b0
    try clear c3b1
    obtain ⟨x3_1,x4_1,rfl,HA,HK1,HO_3,HB⟩:=hrel
    cases gk with
    | zero=>exact absurd HA.out (by simp [laws_toIntS.l0])
    | succ k1 =>
     have H:=HA.out
     clear HA
     simp only [laws_toIntS.l0] at H
     by_cases c6:x4_1 < (l0.length:Int)
     ·rw [if_pos c6] at H
      have c6b0:decide (x4_1 < (l0.length:Int))=true:=decide_eq_true c6
      clear c6
      by_cases c7:0≤x4_1
      ·rw [if_pos c7] at H
       have c7b0:decide (0≤x4_1)=true:=decide_eq_true c7
       clear c7
       by_cases c8:x4_1 < (x3_1.length:Int)
       ·rw [if_pos c8] at H
        have c8b0:decide (x4_1 < (x3_1.length:Int))=true:=decide_eq_true c8
        clear c8
        obtain ⟨y124,hy124⟩ : ∃ y_:List Int,y_=(x3_1.set (x4_1:Int).toNat (rd l0 x4_1)):=⟨_,rfl⟩
        replace H:(laws_toIntS.l0 k1 l0 y124 (wrap64 (x4_1 + 1)))=some r:=by first|(rw [hy124];with_reducible exact H)|(have H2_:=(Option.bind_some _ _).symm.trans H;rw [hy124];with_reducible exact H2_)|(have H2_:=(Option.bind_some _ _).symm.trans H;with_reducible exact H2_)|with_reducible exact H|(rw [hy124];exact H)|exact H
        have Ny124:=Aside0.mk hy124
        clear hy124
        have H':=Aside0.mk H
        clear H
        have p123:0≤(x4_1:Int):=zod
        have q123:x4_1 < (l0.length:Int):=zod
        obtain ⟨ad123,e123,hx123_0⟩:=Kd.at_int HR0.out x4_1 p123 q123
        cases e123
        replace hx123_0:=(HB.out.cell (World.block_lt_of_cell? w _ hx123_0)).trans hx123_0
        replace p123:=eq_true p123
        replace q123:=eq_true q123
        have p9:0≤(x4_1:Int):=zod
        have q9:(x4_1:Int) < ((x3_1.length:Int):Int):=zod
        obtain ⟨go9,co9,eo9,gb9,gl9,cl9,HG9⟩:=Kd.R_form HO_3.out (by omega)
        (first|cases eo9|(injection eo9 with ea_ en_ ec_;(first|subst ea_|(injection ea_ with ea_;subst ea_));subst ec_;clear en_))
        have GB9:=Aside0.mk gb9
        have GG9:=Aside0.mk HG9
        clear gb9 gl9 HG9
        obtain ⟨hx9_0,hf9_0⟩:=Kd.R_celln 0 HO_3.out (x4_1:Int) p9 q9
        replace p9:=eq_true p9
        replace q9:=eq_true q9
        have HP10:=Kd.R_putg HO_3.out (x4_1:Int) (rd l0 x4_1)
        go_wp2_with (first|((with_reducible refine gate_store (t:=3) (p:=20) rfl ?_);refine store_event (t:=3) (p:=20) (v:=?vo_w11) (w1:=(wr.setCell ⟨go9,(x4_1:Int).toNat,none⟩ (.int .i64 (rd l0 x4_1)))) ?hg ?ho ?hn ?hr ?_;(case ho=>rfl);(case hg=>rfl);(case hn=>rfl);(case hr=>first|(go_simp;done)|(go_simp;rfl));intro w11 hw;have hg:wr.grownBy w11 (some go9):=(by rw [hw];exact HP10.2);have hp_:Kd.R (Kd.int .i64) 3 w11 w.heap.size (fun _=>True) (.slice (some ⟨go9,0,none⟩) x3_1.length co9) y124:=(by rw [hw,Ny124.out];exact HP10.1);clear HP10;have n0_:=Aside0.mk (hp_);have n1_:=Aside0.mk ((by rw [hw];exact below_set (HB.out) GB9.out:Below w.heap.size w w11));clear HO_3;clear HB;have HO_3:=n0_;have HB:=n1_;clear n0_ n1_;clear hg hw hp_))
        go_roundg k1
        case measure=>have:=HK1.out;omega
        case rel=>exact ⟨(y124),(wrap64 (x4_1 + 1)),(by first|rfl|(simp;done)|(simp [*];done)),H',⟨by have:=HK1.out;omega⟩,⟨by (with_reducible repeat (first|apply Kd.R_alloc|apply Kd.R_drewN|apply Kd.R_drew));exact HO_3.out⟩,⟨zhb⟩⟩
       ·rw [if_neg c8] at H
        exact absurd H (by simp)
      ·rw [if_neg c7] at H
       exact absurd H (by simp)
     ·rw [if_neg c6] at H
      have c6b0:decide (x4_1 < (l0.length:Int))=false:=decide_eq_false c6
      clear c6
      obtain rfl:=Option.some.inj H
      go_wp2
      go_ret
      exact ⟨_,by first|rfl|(simp [errW_none,errW_some] <;> rfl)|(simp [*,errW_none,errW_some] <;> rfl),by (with_reducible repeat (first|apply Kd.R_alloc|apply Kd.R_drewN|apply Kd.R_drew));exact HO_3.out,zhb⟩
  ·rw [if_neg c3] at H
   exact absurd H (by simp)
 ·rw [if_neg c2] at H
  exact absurd H (by simp)

/-! ### laws_toCell: function 42 -/
def laws_toCell.f (a0_0:Int) (a0_1:Int) (a0_2:Int) (a0_3:Int):Option (Int × Int × Int × Int):=some (a0_0,a0_1,a0_2,a0_3)
set_option maxHeartbeats 8000000 in
set_option maxRecDepth 100000 in
theorem laws_toCell.calls (a0_0:Int) (a0_1:Int) (a0_2:Int) (a0_3:Int) (r1:Int) (r2:Int) (r3:Int) (r4:Int) (w:World) (h:laws_toCell.f a0_0 a0_1 a0_2 a0_3=some (r1,r2,r3,r4)) :
  Calls Try.prog 42 #[.agg #[.int .i64 a0_0,.int .i64 a0_1,.int .i64 a0_2,.int .i64 a0_3]] w fun e w'=>e=.returned (.agg #[.int .i64 r1,.int .i64 r2,.int .i64 r3,.int .i64 r4])∧Below w.heap.size w w':=by
 have hu23:=Try.underlying23
 have hu33:=Try.underlying33
 have HB:=Aside0.mk (Below.refl w.heap.size w)
 have H:(some (a0_0,a0_1,a0_2,a0_3))=some (r1,r2,r3,r4):=h
 clear h
 simp only [Option.some.injEq,Prod.mk.injEq] at H
 obtain ⟨rfl,rfl,rfl,rfl⟩:=H
 go_enter Try.func42,Try.ntmps42
 go_wp2_with (first|((with_reducible refine gate_dst (N:=1) rfl ?_);refine box_event ?hg (N:=1) ?hd (cs:=#[.int .i64 a0_0,.int .i64 a0_1,.int .i64 a0_2,.int .i64 a0_3]) (t:=23) ?hr ?_;(case hd=>rfl);(case hg=>rfl);(case hr=>first|(go_simp;done)|(go_simp;rfl));intro gb125 hg w2 hbox hb;have n0_:=Aside0.mk (below_step zhb hb);have n1_:=Aside0.mk (hbox);have n2_:=Aside0.mk ((by rw [hg];exact (below_size zhb):w.heap.size≤gb125));have n3_:=Aside0.mk ((by rw [hg];exact (below_size zhb):w.heap.size≤gb125));clear HB;have HB:=n0_;have BK125:=n1_;have GW125:=n2_;have GE125:=n3_;clear n0_ n1_ n2_ n3_;clear hb hbox hg)|((with_reducible refine gate_dst (N:=2) rfl ?_);refine box_event ?hg (N:=2) ?hd (cs:=#[.int .i64 0,.int .i64 0,.int .i64 0,.int .i64 0]) (t:=33) ?hr ?_;(case hd=>rfl);(case hg=>rfl);(case hr=>first|(go_simp;done)|(go_simp;rfl));intro gb126 hg w3 hbox hb;have n0_:=Aside0.mk (blk_below (g:=gb125) (o:=.cells #[.int .i64 a0_0,.int .i64 a0_1,.int .i64 a0_2,.int .i64 a0_3] 23 (0,0)) (by (with_reducible repeat (first|refine blk_drewN ?_ _|refine blk_drew ?_|refine blk_alloc ?_ _));exact BK125.out) hb);have n1_:=Aside0.mk (below_step (by repeat (first|(with_reducible first|exact HB.out|apply below_alloc|apply pw_below_drewN|apply below_drew1|refine below_set ?_ GE125.out)|exact HB.out)) hb);have n2_:=Aside0.mk (hbox);have n3_:=Aside0.mk ((by rw [hg];exact (below_size (by repeat (first|(with_reducible first|exact HB.out|apply below_alloc|apply pw_below_drewN|apply below_drew1|refine below_set ?_ GE125.out)|exact HB.out))):w.heap.size≤gb126));have n4_:=Aside0.mk ((by rw [hg];exact (below_size (by repeat (first|(with_reducible first|exact HB.out|apply below_alloc|apply pw_below_drewN|apply below_drew1|refine below_set ?_ GE125.out)|exact HB.out))):w.heap.size≤gb126));have n5_:=Aside0.mk ((by rw [hg];exact Nat.ne_of_lt (blk_lt (g:=gb125) (o:=.cells #[.int .i64 a0_0,.int .i64 a0_1,.int .i64 a0_2,.int .i64 a0_3] 23 (0,0)) (by (with_reducible repeat (first|refine blk_drewN ?_ _|refine blk_drew ?_|refine blk_alloc ?_ _));exact BK125.out)):gb125≠gb126));have n6_:=Aside0.mk ((by rw [hg];exact Nat.ne_of_gt (blk_lt (g:=gb125) (o:=.cells #[.int .i64 a0_0,.int .i64 a0_1,.int .i64 a0_2,.int .i64 a0_3] 23 (0,0)) (by (with_reducible repeat (first|refine blk_drewN ?_ _|refine blk_drew ?_|refine blk_alloc ?_ _));exact BK125.out)):gb126≠gb125));clear BK125;clear HB;have BK125:=n0_;have HB:=n1_;have BK126:=n2_;have GW126:=n3_;have GE126:=n4_;have NB125_126:=n5_;have NB126_125:=n6_;clear n0_ n1_ n2_ n3_ n4_ n5_ n6_;clear hb hbox hg)|((with_reducible refine gate_dst (N:=3) rfl ?_);refine box_event ?hg (N:=3) ?hd (cs:=#[.int .i64 0,.int .i64 0,.int .i64 0,.int .i64 0]) (t:=33) ?hr ?_;(case hd=>rfl);(case hg=>rfl);(case hr=>first|(go_simp;done)|(go_simp;rfl));intro gb127 hg w4 hbox hb;have n0_:=Aside0.mk (blk_below (g:=gb125) (o:=.cells #[.int .i64 a0_0,.int .i64 a0_1,.int .i64 a0_2,.int .i64 a0_3] 23 (0,0)) (by (with_reducible repeat (first|refine blk_drewN ?_ _|refine blk_drew ?_|refine blk_alloc ?_ _));exact BK125.out) hb);have n1_:=Aside0.mk (blk_below (g:=gb126) (o:=.cells #[.int .i64 0,.int .i64 0,.int .i64 0,.int .i64 0] 33 (0,0)) (by (with_reducible repeat (first|refine blk_drewN ?_ _|refine blk_drew ?_|refine blk_alloc ?_ _));exact BK126.out) hb);have n2_:=Aside0.mk (below_step (by repeat (first|(with_reducible first|exact HB.out|apply below_alloc|apply pw_below_drewN|apply below_drew1|refine below_set ?_ GE125.out|refine below_set ?_ GE126.out)|exact HB.out)) hb);have n3_:=Aside0.mk (hbox);have n4_:=Aside0.mk ((by rw [hg];exact (below_size (by repeat (first|(with_reducible first|exact HB.out|apply below_alloc|apply pw_below_drewN|apply below_drew1|refine below_set ?_ GE125.out|refine below_set ?_ GE126.out)|exact HB.out))):w.heap.size≤gb127));have n5_:=Aside0.mk ((by rw [hg];exact (below_size (by repeat (first|(with_reducible first|exact HB.out|apply below_alloc|apply pw_below_drewN|apply below_drew1|refine below_set ?_ GE125.out|refine below_set ?_ GE126.out)|exact HB.out))):w.heap.size≤gb127));have n6_:=Aside0.mk ((by rw [hg];exact Nat.ne_of_lt (blk_lt (g:=gb125) (o:=.cells #[.int .i64 a0_0,.int .i64 a0_1,.int .i64 a0_2,.int .i64 a0_3] 23 (0,0)) (by (with_reducible repeat (first|refine blk_drewN ?_ _|refine blk_drew ?_|refine blk_alloc ?_ _));exact BK125.out)):gb125≠gb127));have n7_:=Aside0.mk ((by rw [hg];exact Nat.ne_of_gt (blk_lt (g:=gb125) (o:=.cells #[.int .i64 a0_0,.int .i64 a0_1,.int .i64 a0_2,.int .i64 a0_3] 23 (0,0)) (by (with_reducible repeat (first|refine blk_drewN ?_ _|refine blk_drew ?_|refine blk_alloc ?_ _));exact BK125.out)):gb127≠gb125));have n8_:=Aside0.mk ((by rw [hg];exact Nat.ne_of_lt (blk_lt (g:=gb126) (o:=.cells #[.int .i64 0,.int .i64 0,.int .i64 0,.int .i64 0] 33 (0,0)) (by (with_reducible repeat (first|refine blk_drewN ?_ _|refine blk_drew ?_|refine blk_alloc ?_ _));exact BK126.out)):gb126≠gb127));have n9_:=Aside0.mk ((by rw [hg];exact Nat.ne_of_gt (blk_lt (g:=gb126) (o:=.cells #[.int .i64 0,.int .i64 0,.int .i64 0,.int .i64 0] 33 (0,0)) (by (with_reducible repeat (first|refine blk_drewN ?_ _|refine blk_drew ?_|refine blk_alloc ?_ _));exact BK126.out)):gb127≠gb126));clear BK125;clear BK126;clear HB;have BK125:=n0_;have BK126:=n1_;have HB:=n2_;have BK127:=n3_;have GW127:=n4_;have GE127:=n5_;have NB125_127:=n6_;have NB127_125:=n7_;have NB126_127:=n8_;have NB127_126:=n9_;clear n0_ n1_ n2_ n3_ n4_ n5_ n6_ n7_ n8_ n9_;clear hb hbox hg;have hnb5:=NB125_126.out;have hnc5:=NB126_125.out;have hnb6:=NB125_127.out;have hnc6:=NB127_125.out;have hcz7_0:w4.cell? ⟨gb125,0,none⟩=some (.int .i64 a0_0):=(blk_cell BK125.out 0).trans rfl;have hcz7_1:w4.cell? ⟨gb125,1,none⟩=some (.int .i64 a0_1):=(blk_cell BK125.out 1).trans rfl;have hcz7_2:w4.cell? ⟨gb125,2,none⟩=some (.int .i64 a0_2):=(blk_cell BK125.out 2).trans rfl;have hcz7_3:w4.cell? ⟨gb125,3,none⟩=some (.int .i64 a0_3):=(blk_cell BK125.out 3).trans rfl;have hfz7_0:=blk_frozen BK125.out 0;have hfz7_1:=blk_frozen BK125.out 1;have hfz7_2:=blk_frozen BK125.out 2;have hfz7_3:=blk_frozen BK125.out 3;have hnb8:=NB127_126.out;have hnc8:=NB126_127.out;have hcz9_0:w4.cell? ⟨gb127,0,none⟩=some (.int .i64 0):=(blk_cell BK127.out 0).trans rfl;have hcz9_1:w4.cell? ⟨gb127,1,none⟩=some (.int .i64 0):=(blk_cell BK127.out 1).trans rfl;have hcz9_2:w4.cell? ⟨gb127,2,none⟩=some (.int .i64 0):=(blk_cell BK127.out 2).trans rfl;have hcz9_3:w4.cell? ⟨gb127,3,none⟩=some (.int .i64 0):=(blk_cell BK127.out 3).trans rfl;have hfz9_0:=blk_frozen BK127.out 0;have hfz9_1:=blk_frozen BK127.out 1;have hfz9_2:=blk_frozen BK127.out 2;have hfz9_3:=blk_frozen BK127.out 3;have hcz10_0:w4.cell? ⟨gb126,0,none⟩=some (.int .i64 0):=(blk_cell BK126.out 0).trans rfl;have hcz10_1:w4.cell? ⟨gb126,1,none⟩=some (.int .i64 0):=(blk_cell BK126.out 1).trans rfl;have hcz10_2:w4.cell? ⟨gb126,2,none⟩=some (.int .i64 0):=(blk_cell BK126.out 2).trans rfl;have hcz10_3:w4.cell? ⟨gb126,3,none⟩=some (.int .i64 0):=(blk_cell BK126.out 3).trans rfl;have hfz10_0:=blk_frozen BK126.out 0;have hfz10_1:=blk_frozen BK126.out 1;have hfz10_2:=blk_frozen BK126.out 2;have hfz10_3:=blk_frozen BK126.out 3))
 refine bodyPost_ret (results_cell_row rfl _ _ gb126 33 #[.int .i64 a0_0,.int .i64 a0_1,.int .i64 a0_2,.int .i64 a0_3] (0,0) _ rfl (by (with_reducible repeat (first|refine blk_drewN ?_ _|refine blk_drew ?_|refine blk_alloc ?_ _));refine blk_put (cs:=#[.int .i64 a0_0,.int .i64 a0_1,.int .i64 a0_2,.int .i64 0]) ?_ 3 _ rfl;(with_reducible repeat (first|refine blk_drewN ?_ _|refine blk_drew ?_|refine blk_alloc ?_ _));refine blk_put (cs:=#[.int .i64 a0_0,.int .i64 a0_1,.int .i64 0,.int .i64 0]) ?_ 2 _ rfl;(with_reducible repeat (first|refine blk_drewN ?_ _|refine blk_drew ?_|refine blk_alloc ?_ _));refine blk_put (cs:=#[.int .i64 a0_0,.int .i64 0,.int .i64 0,.int .i64 0]) ?_ 1 _ rfl;(with_reducible repeat (first|refine blk_drewN ?_ _|refine blk_drew ?_|refine blk_alloc ?_ _));refine blk_put (cs:=#[.int .i64 0,.int .i64 0,.int .i64 0,.int .i64 0]) ?_ 0 _ rfl;(with_reducible repeat (first|refine blk_drewN ?_ _|refine blk_drew ?_|refine blk_alloc ?_ _));refine blk_far ?_ NB126_127.out _;(with_reducible repeat (first|refine blk_drewN ?_ _|refine blk_drew ?_|refine blk_alloc ?_ _));refine blk_far ?_ NB126_127.out _;(with_reducible repeat (first|refine blk_drewN ?_ _|refine blk_drew ?_|refine blk_alloc ?_ _));refine blk_far ?_ NB126_127.out _;(with_reducible repeat (first|refine blk_drewN ?_ _|refine blk_drew ?_|refine blk_alloc ?_ _));refine blk_far ?_ NB126_127.out _;(with_reducible repeat (first|refine blk_drewN ?_ _|refine blk_drew ?_|refine blk_alloc ?_ _));exact BK126.out) Try.underlying33 rfl (by kernel_rfl)) rfl ?_
 exact ⟨by first|rfl|(simp [errW_none,errW_some] <;> rfl)|(simp [*,errW_none,errW_some] <;> rfl),by repeat (first|(with_reducible first|exact HB.out|apply below_alloc|apply pw_below_drewN|apply below_drew1|refine below_set ?_ GE125.out|refine below_set ?_ GE126.out|refine below_set ?_ GE127.out)|exact HB.out)⟩

/-! ### laws_toTest: function 21 -/
def laws_toTest.f (a0_0:Int) (a0_1:Bool) (a0_2:Int) (a0_3:Int) (a0_4:Int) (a0_5:Int) (a0_6:Int) (a0_7:Int) (a0_8:Int) (a0_9:Int):Option (Int × Bool × Int × Int × Int × Int × Int × Int × Int × Int):=(laws_toCell.f a0_2 a0_3 a0_4 a0_5).bind fun bt131=>((laws_toCell.f a0_6 a0_7 a0_8 a0_9).bind fun bt135=>(some (a0_0,a0_1,bt131.1,bt131.2.1,bt131.2.2.1,bt131.2.2.2,bt135.1,bt135.2.1,bt135.2.2.1,bt135.2.2.2)))
set_option maxHeartbeats 8000000 in
set_option maxRecDepth 100000 in
theorem laws_toTest.calls (a0_0:Int) (a0_1:Bool) (a0_2:Int) (a0_3:Int) (a0_4:Int) (a0_5:Int) (a0_6:Int) (a0_7:Int) (a0_8:Int) (a0_9:Int) (r1:Int) (r2:Bool) (r3:Int) (r4:Int) (r5:Int) (r6:Int) (r7:Int) (r8:Int) (r9:Int) (r10:Int) (w:World) (h:laws_toTest.f a0_0 a0_1 a0_2 a0_3 a0_4 a0_5 a0_6 a0_7 a0_8 a0_9=some (r1,r2,r3,r4,r5,r6,r7,r8,r9,r10)) :
  Calls Try.prog 21 #[.agg #[.int .i64 a0_0,.bool a0_1,.int .i64 a0_2,.int .i64 a0_3,.int .i64 a0_4,.int .i64 a0_5,.int .i64 a0_6,.int .i64 a0_7,.int .i64 a0_8,.int .i64 a0_9]] w fun e w'=>e=.returned (.agg #[.int .i64 r1,.bool r2,.int .i64 r3,.int .i64 r4,.int .i64 r5,.int .i64 r6,.int .i64 r7,.int .i64 r8,.int .i64 r9,.int .i64 r10])∧Below w.heap.size w w':=by
 have hu25:=Try.underlying25
 have hu35:=Try.underlying35
 have hu23:=Try.underlying23
 have hu33:=Try.underlying33
 have HB:=Aside0.mk (Below.refl w.heap.size w)
 have H:((laws_toCell.f a0_2 a0_3 a0_4 a0_5).bind fun bt131=>((laws_toCell.f a0_6 a0_7 a0_8 a0_9).bind fun bt135=>(some (a0_0,a0_1,bt131.1,bt131.2.1,bt131.2.2.1,bt131.2.2.2,bt135.1,bt135.2.1,bt135.2.2.1,bt135.2.2.2))))=some (r1,r2,r3,r4,r5,r6,r7,r8,r9,r10):=h
 clear h
 replace H:=Option.bind_eq_some_iff.mp H
 obtain ⟨⟨t131,t132,t133,t134⟩,A20,H⟩:=H
 (try dsimp only at H)
 have A2:=Aside0.mk A20
 clear A20
 replace H:=Option.bind_eq_some_iff.mp H
 obtain ⟨⟨t135,t136,t137,t138⟩,A30,H⟩:=H
 (try dsimp only at H)
 have A3:=Aside0.mk A30
 clear A30
 simp only [Option.some.injEq,Prod.mk.injEq] at H
 obtain ⟨rfl,rfl,rfl,rfl,rfl,rfl,rfl,rfl,rfl,rfl⟩:=H
 go_enter Try.func21,Try.ntmps21
 go_wp2_with (first|((with_reducible refine gate_dst (N:=1) rfl ?_);refine box_event ?hg (N:=1) ?hd (cs:=#[.int .i64 a0_0,.bool a0_1,.int .i64 a0_2,.int .i64 a0_3,.int .i64 a0_4,.int .i64 a0_5,.int .i64 a0_6,.int .i64 a0_7,.int .i64 a0_8,.int .i64 a0_9]) (t:=25) ?hr ?_;(case hd=>rfl);(case hg=>rfl);(case hr=>first|(go_simp;done)|(go_simp;rfl));intro gb128 hg w4 hbox hb;have n0_:=Aside0.mk (below_step zhb hb);have n1_:=Aside0.mk (hbox);have n2_:=Aside0.mk ((by rw [hg];exact (below_size zhb):w.heap.size≤gb128));have n3_:=Aside0.mk ((by rw [hg];exact (below_size zhb):w.heap.size≤gb128));clear HB;have HB:=n0_;have BK128:=n1_;have GW128:=n2_;have GE128:=n3_;clear n0_ n1_ n2_ n3_;clear hb hbox hg)|((with_reducible refine gate_dst (N:=2) rfl ?_);refine box_event ?hg (N:=2) ?hd (cs:=#[.int .i64 0,.bool false,.int .i64 0,.int .i64 0,.int .i64 0,.int .i64 0,.int .i64 0,.int .i64 0,.int .i64 0,.int .i64 0]) (t:=35) ?hr ?_;(case hd=>rfl);(case hg=>rfl);(case hr=>first|(go_simp;done)|(go_simp;rfl));intro gb129 hg w5 hbox hb;have n0_:=Aside0.mk (blk_below (g:=gb128) (o:=.cells #[.int .i64 a0_0,.bool a0_1,.int .i64 a0_2,.int .i64 a0_3,.int .i64 a0_4,.int .i64 a0_5,.int .i64 a0_6,.int .i64 a0_7,.int .i64 a0_8,.int .i64 a0_9] 25 (0,0)) (by (with_reducible repeat (first|refine blk_drewN ?_ _|refine blk_drew ?_|refine blk_alloc ?_ _));exact BK128.out) hb);have n1_:=Aside0.mk (below_step (by repeat (first|(with_reducible first|exact HB.out|apply below_alloc|apply pw_below_drewN|apply below_drew1|refine below_set ?_ GE128.out)|exact HB.out)) hb);have n2_:=Aside0.mk (hbox);have n3_:=Aside0.mk ((by rw [hg];exact (below_size (by repeat (first|(with_reducible first|exact HB.out|apply below_alloc|apply pw_below_drewN|apply below_drew1|refine below_set ?_ GE128.out)|exact HB.out))):w.heap.size≤gb129));have n4_:=Aside0.mk ((by rw [hg];exact (below_size (by repeat (first|(with_reducible first|exact HB.out|apply below_alloc|apply pw_below_drewN|apply below_drew1|refine below_set ?_ GE128.out)|exact HB.out))):w.heap.size≤gb129));have n5_:=Aside0.mk ((by rw [hg];exact Nat.ne_of_lt (blk_lt (g:=gb128) (o:=.cells #[.int .i64 a0_0,.bool a0_1,.int .i64 a0_2,.int .i64 a0_3,.int .i64 a0_4,.int .i64 a0_5,.int .i64 a0_6,.int .i64 a0_7,.int .i64 a0_8,.int .i64 a0_9] 25 (0,0)) (by (with_reducible repeat (first|refine blk_drewN ?_ _|refine blk_drew ?_|refine blk_alloc ?_ _));exact BK128.out)):gb128≠gb129));have n6_:=Aside0.mk ((by rw [hg];exact Nat.ne_of_gt (blk_lt (g:=gb128) (o:=.cells #[.int .i64 a0_0,.bool a0_1,.int .i64 a0_2,.int .i64 a0_3,.int .i64 a0_4,.int .i64 a0_5,.int .i64 a0_6,.int .i64 a0_7,.int .i64 a0_8,.int .i64 a0_9] 25 (0,0)) (by (with_reducible repeat (first|refine blk_drewN ?_ _|refine blk_drew ?_|refine blk_alloc ?_ _));exact BK128.out)):gb129≠gb128));clear BK128;clear HB;have BK128:=n0_;have HB:=n1_;have BK129:=n2_;have GW129:=n3_;have GE129:=n4_;have NB128_129:=n5_;have NB129_128:=n6_;clear n0_ n1_ n2_ n3_ n4_ n5_ n6_;clear hb hbox hg)|((with_reducible refine gate_dst (N:=3) rfl ?_);refine box_event ?hg (N:=3) ?hd (cs:=#[.int .i64 0,.bool false,.int .i64 0,.int .i64 0,.int .i64 0,.int .i64 0,.int .i64 0,.int .i64 0,.int .i64 0,.int .i64 0]) (t:=35) ?hr ?_;(case hd=>rfl);(case hg=>rfl);(case hr=>first|(go_simp;done)|(go_simp;rfl));intro gb130 hg w6 hbox hb;have n0_:=Aside0.mk (blk_below (g:=gb128) (o:=.cells #[.int .i64 a0_0,.bool a0_1,.int .i64 a0_2,.int .i64 a0_3,.int .i64 a0_4,.int .i64 a0_5,.int .i64 a0_6,.int .i64 a0_7,.int .i64 a0_8,.int .i64 a0_9] 25 (0,0)) (by (with_reducible repeat (first|refine blk_drewN ?_ _|refine blk_drew ?_|refine blk_alloc ?_ _));exact BK128.out) hb);have n1_:=Aside0.mk (blk_below (g:=gb129) (o:=.cells #[.int .i64 0,.bool false,.int .i64 0,.int .i64 0,.int .i64 0,.int .i64 0,.int .i64 0,.int .i64 0,.int .i64 0,.int .i64 0] 35 (0,0)) (by (with_reducible repeat (first|refine blk_drewN ?_ _|refine blk_drew ?_|refine blk_alloc ?_ _));exact BK129.out) hb);have n2_:=Aside0.mk (below_step (by repeat (first|(with_reducible first|exact HB.out|apply below_alloc|apply pw_below_drewN|apply below_drew1|refine below_set ?_ GE128.out|refine below_set ?_ GE129.out)|exact HB.out)) hb);have n3_:=Aside0.mk (hbox);have n4_:=Aside0.mk ((by rw [hg];exact (below_size (by repeat (first|(with_reducible first|exact HB.out|apply below_alloc|apply pw_below_drewN|apply below_drew1|refine below_set ?_ GE128.out|refine below_set ?_ GE129.out)|exact HB.out))):w.heap.size≤gb130));have n5_:=Aside0.mk ((by rw [hg];exact (below_size (by repeat (first|(with_reducible first|exact HB.out|apply below_alloc|apply pw_below_drewN|apply below_drew1|refine below_set ?_ GE128.out|refine below_set ?_ GE129.out)|exact HB.out))):w.heap.size≤gb130));have n6_:=Aside0.mk ((by rw [hg];exact Nat.ne_of_lt (blk_lt (g:=gb128) (o:=.cells #[.int .i64 a0_0,.bool a0_1,.int .i64 a0_2,.int .i64 a0_3,.int .i64 a0_4,.int .i64 a0_5,.int .i64 a0_6,.int .i64 a0_7,.int .i64 a0_8,.int .i64 a0_9] 25 (0,0)) (by (with_reducible repeat (first|refine blk_drewN ?_ _|refine blk_drew ?_|refine blk_alloc ?_ _));exact BK128.out)):gb128≠gb130));have n7_:=Aside0.mk ((by rw [hg];exact Nat.ne_of_gt (blk_lt (g:=gb128) (o:=.cells #[.int .i64 a0_0,.bool a0_1,.int .i64 a0_2,.int .i64 a0_3,.int .i64 a0_4,.int .i64 a0_5,.int .i64 a0_6,.int .i64 a0_7,.int .i64 a0_8,.int .i64 a0_9] 25 (0,0)) (by (with_reducible repeat (first|refine blk_drewN ?_ _|refine blk_drew ?_|refine blk_alloc ?_ _));exact BK128.out)):gb130≠gb128));have n8_:=Aside0.mk ((by rw [hg];exact Nat.ne_of_lt (blk_lt (g:=gb129) (o:=.cells #[.int .i64 0,.bool false,.int .i64 0,.int .i64 0,.int .i64 0,.int .i64 0,.int .i64 0,.int .i64 0,.int .i64 0,.int .i64 0] 35 (0,0)) (by (with_reducible repeat (first|refine blk_drewN ?_ _|refine blk_drew ?_|refine blk_alloc ?_ _));exact BK129.out)):gb129≠gb130));have n9_:=Aside0.mk ((by rw [hg];exact Nat.ne_of_gt (blk_lt (g:=gb129) (o:=.cells #[.int .i64 0,.bool false,.int .i64 0,.int .i64 0,.int .i64 0,.int .i64 0,.int .i64 0,.int .i64 0,.int .i64 0,.int .i64 0] 35 (0,0)) (by (with_reducible repeat (first|refine blk_drewN ?_ _|refine blk_drew ?_|refine blk_alloc ?_ _));exact BK129.out)):gb130≠gb129));clear BK128;clear BK129;clear HB;have BK128:=n0_;have BK129:=n1_;have HB:=n2_;have BK130:=n3_;have GW130:=n4_;have GE130:=n5_;have NB128_130:=n6_;have NB130_128:=n7_;have NB129_130:=n8_;have NB130_129:=n9_;clear n0_ n1_ n2_ n3_ n4_ n5_ n6_ n7_ n8_ n9_;clear hb hbox hg;have hnb7:=NB128_129.out;have hnc7:=NB129_128.out;have hnb8:=NB128_130.out;have hnc8:=NB130_128.out;have hcz9_0:w6.cell? ⟨gb128,0,none⟩=some (.int .i64 a0_0):=(blk_cell BK128.out 0).trans rfl;have hcz9_1:w6.cell? ⟨gb128,1,none⟩=some (.bool a0_1):=(blk_cell BK128.out 1).trans rfl;have hcz9_2:w6.cell? ⟨gb128,2,none⟩=some (.int .i64 a0_2):=(blk_cell BK128.out 2).trans rfl;have hcz9_3:w6.cell? ⟨gb128,3,none⟩=some (.int .i64 a0_3):=(blk_cell BK128.out 3).trans rfl;have hcz9_4:w6.cell? ⟨gb128,4,none⟩=some (.int .i64 a0_4):=(blk_cell BK128.out 4).trans rfl;have hcz9_5:w6.cell? ⟨gb128,5,none⟩=some (.int .i64 a0_5):=(blk_cell BK128.out 5).trans rfl;have hcz9_6:w6.cell? ⟨gb128,6,none⟩=some (.int .i64 a0_6):=(blk_cell BK128.out 6).trans rfl;have hcz9_7:w6.cell? ⟨gb128,7,none⟩=some (.int .i64 a0_7):=(blk_cell BK128.out 7).trans rfl;have hcz9_8:w6.cell? ⟨gb128,8,none⟩=some (.int .i64 a0_8):=(blk_cell BK128.out 8).trans rfl;have hcz9_9:w6.cell? ⟨gb128,9,none⟩=some (.int .i64 a0_9):=(blk_cell BK128.out 9).trans rfl;have hfz9_0:=blk_frozen BK128.out 0;have hfz9_1:=blk_frozen BK128.out 1;have hfz9_2:=blk_frozen BK128.out 2;have hfz9_3:=blk_frozen BK128.out 3;have hfz9_4:=blk_frozen BK128.out 4;have hfz9_5:=blk_frozen BK128.out 5;have hfz9_6:=blk_frozen BK128.out 6;have hfz9_7:=blk_frozen BK128.out 7;have hfz9_8:=blk_frozen BK128.out 8;have hfz9_9:=blk_frozen BK128.out 9;have hnb10:=NB130_129.out;have hnc10:=NB129_130.out;have hcz11_0:w6.cell? ⟨gb130,0,none⟩=some (.int .i64 0):=(blk_cell BK130.out 0).trans rfl;have hcz11_1:w6.cell? ⟨gb130,1,none⟩=some (.bool false):=(blk_cell BK130.out 1).trans rfl;have hcz11_2:w6.cell? ⟨gb130,2,none⟩=some (.int .i64 0):=(blk_cell BK130.out 2).trans rfl;have hcz11_3:w6.cell? ⟨gb130,3,none⟩=some (.int .i64 0):=(blk_cell BK130.out 3).trans rfl;have hcz11_4:w6.cell? ⟨gb130,4,none⟩=some (.int .i64 0):=(blk_cell BK130.out 4).trans rfl;have hcz11_5:w6.cell? ⟨gb130,5,none⟩=some (.int .i64 0):=(blk_cell BK130.out 5).trans rfl;have hcz11_6:w6.cell? ⟨gb130,6,none⟩=some (.int .i64 0):=(blk_cell BK130.out 6).trans rfl;have hcz11_7:w6.cell? ⟨gb130,7,none⟩=some (.int .i64 0):=(blk_cell BK130.out 7).trans rfl;have hcz11_8:w6.cell? ⟨gb130,8,none⟩=some (.int .i64 0):=(blk_cell BK130.out 8).trans rfl;have hcz11_9:w6.cell? ⟨gb130,9,none⟩=some (.int .i64 0):=(blk_cell BK130.out 9).trans rfl;have hfz11_0:=blk_frozen BK130.out 0;have hfz11_1:=blk_frozen BK130.out 1;have hfz11_2:=blk_frozen BK130.out 2;have hfz11_3:=blk_frozen BK130.out 3;have hfz11_4:=blk_frozen BK130.out 4;have hfz11_5:=blk_frozen BK130.out 5;have hfz11_6:=blk_frozen BK130.out 6;have hfz11_7:=blk_frozen BK130.out 7;have hfz11_8:=blk_frozen BK130.out 8;have hfz11_9:=blk_frozen BK130.out 9)|((with_reducible refine gate_callee (f:=42) rfl ?_);refine goesL_ (some 12) rfl rfl Try.func42 (by kernel_rfl) rfl #[.agg #[.int .i64 a0_2,.int .i64 a0_3,.int .i64 a0_4,.int .i64 a0_5]] rfl zar ?_;(with_reducible refine (laws_toCell.calls a0_2 a0_3 a0_4 a0_5 t131 t132 t133 t134 _ A2.out).mono ?_);rintro e w12 ⟨rfl,hb⟩;refine ⟨_,rfl,?_⟩;have n0_:=Aside0.mk (blk_below (g:=gb128) (o:=.cells #[.int .i64 a0_0,.bool a0_1,.int .i64 a0_2,.int .i64 a0_3,.int .i64 a0_4,.int .i64 a0_5,.int .i64 a0_6,.int .i64 a0_7,.int .i64 a0_8,.int .i64 a0_9] 25 (0,0)) (by (with_reducible repeat (first|refine blk_drewN ?_ _|refine blk_drew ?_|refine blk_alloc ?_ _));refine blk_far ?_ NB128_130.out _;(with_reducible repeat (first|refine blk_drewN ?_ _|refine blk_drew ?_|refine blk_alloc ?_ _));refine blk_far ?_ NB128_130.out _;(with_reducible repeat (first|refine blk_drewN ?_ _|refine blk_drew ?_|refine blk_alloc ?_ _));exact BK128.out) hb);have n1_:=Aside0.mk (blk_below (g:=gb129) (o:=.cells #[.int .i64 0,.bool false,.int .i64 0,.int .i64 0,.int .i64 0,.int .i64 0,.int .i64 0,.int .i64 0,.int .i64 0,.int .i64 0] 35 (0,0)) (by (with_reducible repeat (first|refine blk_drewN ?_ _|refine blk_drew ?_|refine blk_alloc ?_ _));refine blk_far ?_ NB129_130.out _;(with_reducible repeat (first|refine blk_drewN ?_ _|refine blk_drew ?_|refine blk_alloc ?_ _));refine blk_far ?_ NB129_130.out _;(with_reducible repeat (first|refine blk_drewN ?_ _|refine blk_drew ?_|refine blk_alloc ?_ _));exact BK129.out) hb);have n2_:=Aside0.mk (blk_below (g:=gb130) (o:=.cells #[.int .i64 a0_0,.bool a0_1,.int .i64 0,.int .i64 0,.int .i64 0,.int .i64 0,.int .i64 0,.int .i64 0,.int .i64 0,.int .i64 0] 35 (0,0)) (by (with_reducible repeat (first|refine blk_drewN ?_ _|refine blk_drew ?_|refine blk_alloc ?_ _));refine blk_put (cs:=#[.int .i64 a0_0,.bool false,.int .i64 0,.int .i64 0,.int .i64 0,.int .i64 0,.int .i64 0,.int .i64 0,.int .i64 0,.int .i64 0]) ?_ 1 _ rfl;(with_reducible repeat (first|refine blk_drewN ?_ _|refine blk_drew ?_|refine blk_alloc ?_ _));refine blk_put (cs:=#[.int .i64 0,.bool false,.int .i64 0,.int .i64 0,.int .i64 0,.int .i64 0,.int .i64 0,.int .i64 0,.int .i64 0,.int .i64 0]) ?_ 0 _ rfl;(with_reducible repeat (first|refine blk_drewN ?_ _|refine blk_drew ?_|refine blk_alloc ?_ _));exact BK130.out) hb);have n3_:=Aside0.mk (below_step (by repeat (first|(with_reducible first|exact HB.out|apply below_alloc|apply pw_below_drewN|apply below_drew1|refine below_set ?_ GE128.out|refine below_set ?_ GE129.out|refine below_set ?_ GE130.out)|exact HB.out)) hb);clear BK128;clear BK129;clear BK130;clear HB;have BK128:=n0_;have BK129:=n1_;have BK130:=n2_;have HB:=n3_;clear n0_ n1_ n2_ n3_;(try clear hb);(try clear hb2);(try clear hk);(try clear hi);have hcz13_0:w12.cell? ⟨gb130,0,none⟩=some (.int .i64 a0_0):=(blk_cell BK130.out 0).trans rfl;have hcz13_1:w12.cell? ⟨gb130,1,none⟩=some (.bool a0_1):=(blk_cell BK130.out 1).trans rfl;have hcz13_2:w12.cell? ⟨gb130,2,none⟩=some (.int .i64 0):=(blk_cell BK130.out 2).trans rfl;have hcz13_3:w12.cell? ⟨gb130,3,none⟩=some (.int .i64 0):=(blk_cell BK130.out 3).trans rfl;have hcz13_4:w12.cell? ⟨gb130,4,none⟩=some (.int .i64 0):=(blk_cell BK130.out 4).trans rfl;have hcz13_5:w12.cell? ⟨gb130,5,none⟩=some (.int .i64 0):=(blk_cell BK130.out 5).trans rfl;have hcz13_6:w12.cell? ⟨gb130,6,none⟩=some (.int .i64 0):=(blk_cell BK130.out 6).trans rfl;have hcz13_7:w12.cell? ⟨gb130,7,none⟩=some (.int .i64 0):=(blk_cell BK130.out 7).trans rfl;have hcz13_8:w12.cell? ⟨gb130,8,none⟩=some (.int .i64 0):=(blk_cell BK130.out 8).trans rfl;have hcz13_9:w12.cell? ⟨gb130,9,none⟩=some (.int .i64 0):=(blk_cell BK130.out 9).trans rfl;have hfz13_0:=blk_frozen BK130.out 0;have hfz13_1:=blk_frozen BK130.out 1;have hfz13_2:=blk_frozen BK130.out 2;have hfz13_3:=blk_frozen BK130.out 3;have hfz13_4:=blk_frozen BK130.out 4;have hfz13_5:=blk_frozen BK130.out 5;have hfz13_6:=blk_frozen BK130.out 6;have hfz13_7:=blk_frozen BK130.out 7;have hfz13_8:=blk_frozen BK130.out 8;have hfz13_9:=blk_frozen BK130.out 9;have hcz14_0:w12.cell? ⟨gb128,0,none⟩=some (.int .i64 a0_0):=(blk_cell BK128.out 0).trans rfl;have hcz14_1:w12.cell? ⟨gb128,1,none⟩=some (.bool a0_1):=(blk_cell BK128.out 1).trans rfl;have hcz14_2:w12.cell? ⟨gb128,2,none⟩=some (.int .i64 a0_2):=(blk_cell BK128.out 2).trans rfl;have hcz14_3:w12.cell? ⟨gb128,3,none⟩=some (.int .i64 a0_3):=(blk_cell BK128.out 3).trans rfl;have hcz14_4:w12.cell? ⟨gb128,4,none⟩=some (.int .i64 a0_4):=(blk_cell BK128.out 4).trans rfl;have hcz14_5:w12.cell? ⟨gb128,5,none⟩=some (.int .i64 a0_5):=(blk_cell BK128.out 5).trans rfl;have hcz14_6:w12.cell? ⟨gb128,6,none⟩=some (.int .i64 a0_6):=(blk_cell BK128.out 6).trans rfl;have hcz14_7:w12.cell? ⟨gb128,7,none⟩=some (.int .i64 a0_7):=(blk_cell BK128.out 7).trans rfl;have hcz14_8:w12.cell? ⟨gb128,8,none⟩=some (.int .i64 a0_8):=(blk_cell BK128.out 8).trans rfl;have hcz14_9:w12.cell? ⟨gb128,9,none⟩=some (.int .i64 a0_9):=(blk_cell BK128.out 9).trans rfl;have hfz14_0:=blk_frozen BK128.out 0;have hfz14_1:=blk_frozen BK128.out 1;have hfz14_2:=blk_frozen BK128.out 2;have hfz14_3:=blk_frozen BK128.out 3;have hfz14_4:=blk_frozen BK128.out 4;have hfz14_5:=blk_frozen BK128.out 5;have hfz14_6:=blk_frozen BK128.out 6;have hfz14_7:=blk_frozen BK128.out 7;have hfz14_8:=blk_frozen BK128.out 8;have hfz14_9:=blk_frozen BK128.out 9)|((with_reducible refine gate_callee (f:=42) rfl ?_);refine goesL_ (some 16) rfl rfl Try.func42 (by kernel_rfl) rfl #[.agg #[.int .i64 a0_6,.int .i64 a0_7,.int .i64 a0_8,.int .i64 a0_9]] rfl zar ?_;(with_reducible refine (laws_toCell.calls a0_6 a0_7 a0_8 a0_9 t135 t136 t137 t138 _ A3.out).mono ?_);rintro e w15 ⟨rfl,hb⟩;refine ⟨_,rfl,?_⟩;have n0_:=Aside0.mk (blk_below (g:=gb128) (o:=.cells #[.int .i64 a0_0,.bool a0_1,.int .i64 a0_2,.int .i64 a0_3,.int .i64 a0_4,.int .i64 a0_5,.int .i64 a0_6,.int .i64 a0_7,.int .i64 a0_8,.int .i64 a0_9] 25 (0,0)) (by (with_reducible repeat (first|refine blk_drewN ?_ _|refine blk_drew ?_|refine blk_alloc ?_ _));refine blk_far ?_ NB128_130.out _;(with_reducible repeat (first|refine blk_drewN ?_ _|refine blk_drew ?_|refine blk_alloc ?_ _));refine blk_far ?_ NB128_130.out _;(with_reducible repeat (first|refine blk_drewN ?_ _|refine blk_drew ?_|refine blk_alloc ?_ _));refine blk_far ?_ NB128_130.out _;(with_reducible repeat (first|refine blk_drewN ?_ _|refine blk_drew ?_|refine blk_alloc ?_ _));refine blk_far ?_ NB128_130.out _;(with_reducible repeat (first|refine blk_drewN ?_ _|refine blk_drew ?_|refine blk_alloc ?_ _));exact BK128.out) hb);have n1_:=Aside0.mk (blk_below (g:=gb129) (o:=.cells #[.int .i64 0,.bool false,.int .i64 0,.int .i64 0,.int .i64 0,.int .i64 0,.int .i64 0,.int .i64 0,.int .i64 0,.int .i64 0] 35 (0,0)) (by (with_reducible repeat (first|refine blk_drewN ?_ _|refine blk_drew ?_|refine blk_alloc ?_ _));refine blk_far ?_ NB129_130.out _;(with_reducible repeat (first|refine blk_drewN ?_ _|refine blk_drew ?_|refine blk_alloc ?_ _));refine blk_far ?_ NB129_130.out _;(with_reducible repeat (first|refine blk_drewN ?_ _|refine blk_drew ?_|refine blk_alloc ?_ _));refine blk_far ?_ NB129_130.out _;(with_reducible repeat (first|refine blk_drewN ?_ _|refine blk_drew ?_|refine blk_alloc ?_ _));refine blk_far ?_ NB129_130.out _;(with_reducible repeat (first|refine blk_drewN ?_ _|refine blk_drew ?_|refine blk_alloc ?_ _));exact BK129.out) hb);have n2_:=Aside0.mk (blk_below (g:=gb130) (o:=.cells #[.int .i64 a0_0,.bool a0_1,.int .i64 t131,.int .i64 t132,.int .i64 t133,.int .i64 t134,.int .i64 0,.int .i64 0,.int .i64 0,.int .i64 0] 35 (0,0)) (by (with_reducible repeat (first|refine blk_drewN ?_ _|refine blk_drew ?_|refine blk_alloc ?_ _));refine blk_put (cs:=#[.int .i64 a0_0,.bool a0_1,.int .i64 t131,.int .i64 t132,.int .i64 t133,.int .i64 0,.int .i64 0,.int .i64 0,.int .i64 0,.int .i64 0]) ?_ 5 _ rfl;(with_reducible repeat (first|refine blk_drewN ?_ _|refine blk_drew ?_|refine blk_alloc ?_ _));refine blk_put (cs:=#[.int .i64 a0_0,.bool a0_1,.int .i64 t131,.int .i64 t132,.int .i64 0,.int .i64 0,.int .i64 0,.int .i64 0,.int .i64 0,.int .i64 0]) ?_ 4 _ rfl;(with_reducible repeat (first|refine blk_drewN ?_ _|refine blk_drew ?_|refine blk_alloc ?_ _));refine blk_put (cs:=#[.int .i64 a0_0,.bool a0_1,.int .i64 t131,.int .i64 0,.int .i64 0,.int .i64 0,.int .i64 0,.int .i64 0,.int .i64 0,.int .i64 0]) ?_ 3 _ rfl;(with_reducible repeat (first|refine blk_drewN ?_ _|refine blk_drew ?_|refine blk_alloc ?_ _));refine blk_put (cs:=#[.int .i64 a0_0,.bool a0_1,.int .i64 0,.int .i64 0,.int .i64 0,.int .i64 0,.int .i64 0,.int .i64 0,.int .i64 0,.int .i64 0]) ?_ 2 _ rfl;(with_reducible repeat (first|refine blk_drewN ?_ _|refine blk_drew ?_|refine blk_alloc ?_ _));exact BK130.out) hb);have n3_:=Aside0.mk (below_step (by repeat (first|(with_reducible first|exact HB.out|apply below_alloc|apply pw_below_drewN|apply below_drew1|refine below_set ?_ GE128.out|refine below_set ?_ GE129.out|refine below_set ?_ GE130.out)|exact HB.out)) hb);clear BK128;clear BK129;clear BK130;clear HB;have BK128:=n0_;have BK129:=n1_;have BK130:=n2_;have HB:=n3_;clear n0_ n1_ n2_ n3_;(try clear hb);(try clear hb2);(try clear hk);(try clear hi);have hcz16_0:w15.cell? ⟨gb130,0,none⟩=some (.int .i64 a0_0):=(blk_cell BK130.out 0).trans rfl;have hcz16_1:w15.cell? ⟨gb130,1,none⟩=some (.bool a0_1):=(blk_cell BK130.out 1).trans rfl;have hcz16_2:w15.cell? ⟨gb130,2,none⟩=some (.int .i64 t131):=(blk_cell BK130.out 2).trans rfl;have hcz16_3:w15.cell? ⟨gb130,3,none⟩=some (.int .i64 t132):=(blk_cell BK130.out 3).trans rfl;have hcz16_4:w15.cell? ⟨gb130,4,none⟩=some (.int .i64 t133):=(blk_cell BK130.out 4).trans rfl;have hcz16_5:w15.cell? ⟨gb130,5,none⟩=some (.int .i64 t134):=(blk_cell BK130.out 5).trans rfl;have hcz16_6:w15.cell? ⟨gb130,6,none⟩=some (.int .i64 0):=(blk_cell BK130.out 6).trans rfl;have hcz16_7:w15.cell? ⟨gb130,7,none⟩=some (.int .i64 0):=(blk_cell BK130.out 7).trans rfl;have hcz16_8:w15.cell? ⟨gb130,8,none⟩=some (.int .i64 0):=(blk_cell BK130.out 8).trans rfl;have hcz16_9:w15.cell? ⟨gb130,9,none⟩=some (.int .i64 0):=(blk_cell BK130.out 9).trans rfl;have hfz16_0:=blk_frozen BK130.out 0;have hfz16_1:=blk_frozen BK130.out 1;have hfz16_2:=blk_frozen BK130.out 2;have hfz16_3:=blk_frozen BK130.out 3;have hfz16_4:=blk_frozen BK130.out 4;have hfz16_5:=blk_frozen BK130.out 5;have hfz16_6:=blk_frozen BK130.out 6;have hfz16_7:=blk_frozen BK130.out 7;have hfz16_8:=blk_frozen BK130.out 8;have hfz16_9:=blk_frozen BK130.out 9;have hcz17_0:w15.cell? ⟨gb129,0,none⟩=some (.int .i64 0):=(blk_cell BK129.out 0).trans rfl;have hcz17_1:w15.cell? ⟨gb129,1,none⟩=some (.bool false):=(blk_cell BK129.out 1).trans rfl;have hcz17_2:w15.cell? ⟨gb129,2,none⟩=some (.int .i64 0):=(blk_cell BK129.out 2).trans rfl;have hcz17_3:w15.cell? ⟨gb129,3,none⟩=some (.int .i64 0):=(blk_cell BK129.out 3).trans rfl;have hcz17_4:w15.cell? ⟨gb129,4,none⟩=some (.int .i64 0):=(blk_cell BK129.out 4).trans rfl;have hcz17_5:w15.cell? ⟨gb129,5,none⟩=some (.int .i64 0):=(blk_cell BK129.out 5).trans rfl;have hcz17_6:w15.cell? ⟨gb129,6,none⟩=some (.int .i64 0):=(blk_cell BK129.out 6).trans rfl;have hcz17_7:w15.cell? ⟨gb129,7,none⟩=some (.int .i64 0):=(blk_cell BK129.out 7).trans rfl;have hcz17_8:w15.cell? ⟨gb129,8,none⟩=some (.int .i64 0):=(blk_cell BK129.out 8).trans rfl;have hcz17_9:w15.cell? ⟨gb129,9,none⟩=some (.int .i64 0):=(blk_cell BK129.out 9).trans rfl;have hfz17_0:=blk_frozen BK129.out 0;have hfz17_1:=blk_frozen BK129.out 1;have hfz17_2:=blk_frozen BK129.out 2;have hfz17_3:=blk_frozen BK129.out 3;have hfz17_4:=blk_frozen BK129.out 4;have hfz17_5:=blk_frozen BK129.out 5;have hfz17_6:=blk_frozen BK129.out 6;have hfz17_7:=blk_frozen BK129.out 7;have hfz17_8:=blk_frozen BK129.out 8;have hfz17_9:=blk_frozen BK129.out 9))
 refine bodyPost_ret (results_cell_row rfl _ _ gb129 35 #[.int .i64 a0_0,.bool a0_1,.int .i64 t131,.int .i64 t132,.int .i64 t133,.int .i64 t134,.int .i64 t135,.int .i64 t136,.int .i64 t137,.int .i64 t138] (0,0) _ rfl (by (with_reducible repeat (first|refine blk_drewN ?_ _|refine blk_drew ?_|refine blk_alloc ?_ _));refine blk_put (cs:=#[.int .i64 a0_0,.bool a0_1,.int .i64 t131,.int .i64 t132,.int .i64 t133,.int .i64 t134,.int .i64 t135,.int .i64 t136,.int .i64 t137,.int .i64 0]) ?_ 9 _ rfl;(with_reducible repeat (first|refine blk_drewN ?_ _|refine blk_drew ?_|refine blk_alloc ?_ _));refine blk_put (cs:=#[.int .i64 a0_0,.bool a0_1,.int .i64 t131,.int .i64 t132,.int .i64 t133,.int .i64 t134,.int .i64 t135,.int .i64 t136,.int .i64 0,.int .i64 0]) ?_ 8 _ rfl;(with_reducible repeat (first|refine blk_drewN ?_ _|refine blk_drew ?_|refine blk_alloc ?_ _));refine blk_put (cs:=#[.int .i64 a0_0,.bool a0_1,.int .i64 t131,.int .i64 t132,.int .i64 t133,.int .i64 t134,.int .i64 t135,.int .i64 0,.int .i64 0,.int .i64 0]) ?_ 7 _ rfl;(with_reducible repeat (first|refine blk_drewN ?_ _|refine blk_drew ?_|refine blk_alloc ?_ _));refine blk_put (cs:=#[.int .i64 a0_0,.bool a0_1,.int .i64 t131,.int .i64 t132,.int .i64 t133,.int .i64 t134,.int .i64 0,.int .i64 0,.int .i64 0,.int .i64 0]) ?_ 6 _ rfl;(with_reducible repeat (first|refine blk_drewN ?_ _|refine blk_drew ?_|refine blk_alloc ?_ _));refine blk_put (cs:=#[.int .i64 a0_0,.bool a0_1,.int .i64 t131,.int .i64 t132,.int .i64 t133,.int .i64 0,.int .i64 0,.int .i64 0,.int .i64 0,.int .i64 0]) ?_ 5 _ rfl;(with_reducible repeat (first|refine blk_drewN ?_ _|refine blk_drew ?_|refine blk_alloc ?_ _));refine blk_put (cs:=#[.int .i64 a0_0,.bool a0_1,.int .i64 t131,.int .i64 t132,.int .i64 0,.int .i64 0,.int .i64 0,.int .i64 0,.int .i64 0,.int .i64 0]) ?_ 4 _ rfl;(with_reducible repeat (first|refine blk_drewN ?_ _|refine blk_drew ?_|refine blk_alloc ?_ _));refine blk_put (cs:=#[.int .i64 a0_0,.bool a0_1,.int .i64 t131,.int .i64 0,.int .i64 0,.int .i64 0,.int .i64 0,.int .i64 0,.int .i64 0,.int .i64 0]) ?_ 3 _ rfl;(with_reducible repeat (first|refine blk_drewN ?_ _|refine blk_drew ?_|refine blk_alloc ?_ _));refine blk_put (cs:=#[.int .i64 a0_0,.bool a0_1,.int .i64 0,.int .i64 0,.int .i64 0,.int .i64 0,.int .i64 0,.int .i64 0,.int .i64 0,.int .i64 0]) ?_ 2 _ rfl;(with_reducible repeat (first|refine blk_drewN ?_ _|refine blk_drew ?_|refine blk_alloc ?_ _));refine blk_put (cs:=#[.int .i64 a0_0,.bool false,.int .i64 0,.int .i64 0,.int .i64 0,.int .i64 0,.int .i64 0,.int .i64 0,.int .i64 0,.int .i64 0]) ?_ 1 _ rfl;(with_reducible repeat (first|refine blk_drewN ?_ _|refine blk_drew ?_|refine blk_alloc ?_ _));refine blk_put (cs:=#[.int .i64 0,.bool false,.int .i64 0,.int .i64 0,.int .i64 0,.int .i64 0,.int .i64 0,.int .i64 0,.int .i64 0,.int .i64 0]) ?_ 0 _ rfl;(with_reducible repeat (first|refine blk_drewN ?_ _|refine blk_drew ?_|refine blk_alloc ?_ _));refine blk_far ?_ NB129_130.out _;(with_reducible repeat (first|refine blk_drewN ?_ _|refine blk_drew ?_|refine blk_alloc ?_ _));refine blk_far ?_ NB129_130.out _;(with_reducible repeat (first|refine blk_drewN ?_ _|refine blk_drew ?_|refine blk_alloc ?_ _));refine blk_far ?_ NB129_130.out _;(with_reducible repeat (first|refine blk_drewN ?_ _|refine blk_drew ?_|refine blk_alloc ?_ _));refine blk_far ?_ NB129_130.out _;(with_reducible repeat (first|refine blk_drewN ?_ _|refine blk_drew ?_|refine blk_alloc ?_ _));exact BK129.out) Try.underlying35 rfl (by kernel_rfl)) rfl ?_
 exact ⟨by first|rfl|(simp [errW_none,errW_some] <;> rfl)|(simp [*,errW_none,errW_some] <;> rfl),by repeat (first|(with_reducible first|exact HB.out|apply below_alloc|apply pw_below_drewN|apply below_drew1|refine below_set ?_ GE128.out|refine below_set ?_ GE129.out|refine below_set ?_ GE130.out)|exact HB.out)⟩

/-! ### laws_toCellS: function 22 -/
def laws_toCellS.l0:Nat→List (S23)→List (S33)→Int→Option ((List (S33)))
 | 0,_,_,_=>none
 | k + 1,x0,x3,x4=>if x4 < (x0.length:Int) then (if 0≤x4 then ((laws_toCell.f ((rd_T23 x0 x4).f0) ((rd_T23 x0 x4).f1) ((rd_T23 x0 x4).f2) ((rd_T23 x0 x4).f3)).bind fun bt143=>(if x4 < (x3.length:Int) then (laws_toCellS.l0 k x0 (x3.set (x4:Int).toNat (⟨bt143.1,bt143.2.1,bt143.2.2.1,bt143.2.2.2⟩:S33)) (wrap64 (x4 + 1))) else (none))) else (none)) else (some x3)
def laws_toCellS.f (k:Nat) (l0:List (S23)):Option ((List (S33))):=if 0≤(l0.length:Int) then (if ((l0.length:Int):Int).toNat≤8796093022208 then (laws_toCellS.l0 k l0 (List.replicate ((l0.length:Int):Int).toNat z33) 0) else (none)) else (none)
theorem laws_toCellS.mono_l : ∀ k,(∀ y0 y1 y2,LeO (laws_toCellS.l0 k y0 y1 y2) (laws_toCellS.l0 (k + 1) y0 y1 y2))
 | 0=>fun _ _ _ r h=>by simp [laws_toCellS.l0] at h
 | k + 1=>by
  have ih0:=laws_toCellS.mono_l k
  ·intro y0 y1 y2
   unfold laws_toCellS.l0
   repeat' first
   | (with_reducible exact ih0 _ _ _)
   | (with_reducible exact LeO.refl _)
   | (with_reducible exact LeO.none _)
   | (with_reducible refine LeO.ite ?_ ?_)
   | (with_reducible refine LeO.bind ?_ (fun _=>?_))
   | exact LeO.none _
   | refine LeO.ite ?_ ?_
   | refine LeO.bind ?_ (fun _=>?_)
theorem laws_toCellS.mono : ∀ a0 k,LeO (laws_toCellS.f k a0) (laws_toCellS.f (k + 1) a0):=by
 intro a0 k
 have ih0:=laws_toCellS.mono_l k
 unfold laws_toCellS.f
 repeat' first
   | (with_reducible exact ih0 _ _ _)
   | (with_reducible exact LeO.refl _)
   | (with_reducible exact LeO.none _)
   | (with_reducible refine LeO.ite ?_ ?_)
   | (with_reducible refine LeO.bind ?_ (fun _=>?_))
   | exact LeO.none _
   | refine LeO.ite ?_ ?_
   | refine LeO.bind ?_ (fun _=>?_)
set_option maxHeartbeats 8000000 in
set_option maxRecDepth 100000 in
theorem laws_toCellS.calls (k:Nat) (A0:Option Addr) (c0:Nat) (l0:List (S23)) (r:List (S33)) (w:World) (hr0:Kd.C k23 w A0 l0.length l0) (hc0:l0.length≤c0) (h:laws_toCellS.f k l0=some r) :
  Calls Try.prog 22 #[.slice A0 l0.length c0] w fun e w'=>∃ v0_:Value,e=.returned (v0_)∧Kd.R k33 33 w' w.heap.size (fun _=>True) v0_ r∧Below w.heap.size w w':=by
 have hu23:=Try.underlying23
 have hu33:=Try.underlying33
 have HR0:=Aside0.mk hr0
 have HC0:=Aside0.mk hc0
 clear hr0 hc0
 have HB:=Aside0.mk (Below.refl w.heap.size w)
 have H:(if 0≤(l0.length:Int) then (if ((l0.length:Int):Int).toNat≤8796093022208 then (laws_toCellS.l0 k l0 (List.replicate ((l0.length:Int):Int).toNat z33) 0) else (none)) else (none))=some r:=h
 clear h
 by_cases c2:0≤(l0.length:Int)
 ·rw [if_pos c2] at H
  have c2b0:=eq_true c2
  have c2b1:decide (0≤(l0.length:Int))=true:=decide_eq_true c2
  clear c2
  by_cases c3:((l0.length:Int):Int).toNat≤8796093022208
  ·rw [if_pos c3] at H
   have c3b0:=eq_true c3
   have c3b1:decide (((l0.length:Int):Int).toNat≤8796093022208)=true:=decide_eq_true c3
   clear c3
   obtain ⟨y139,hy139⟩ : ∃ y_:List (S33),y_=(List.replicate ((l0.length:Int):Int).toNat z33):=⟨_,rfl⟩
   replace H:(laws_toCellS.l0 k l0 y139 0)=some r:=by first|(rw [hy139];with_reducible exact H)|(have H2_:=(Option.bind_some _ _).symm.trans H;rw [hy139];with_reducible exact H2_)|(have H2_:=(Option.bind_some _ _).symm.trans H;with_reducible exact H2_)|with_reducible exact H|(rw [hy139];exact H)|exact H
   have Ny139:=Aside0.mk hy139
   clear hy139
   have H':=Aside0.mk H
   clear H
   go_enter Try.func22,Try.ntmps22
   go_wp2_with (first|((with_reducible refine gate_dst (N:=7) rfl ?_);refine Kd.R_make k33 _ 33 rfl (N:=7) rfl 36 _ _ rfl (l0.length:Int) rfl rfl Try.underlying36 (.agg #[(.int .i64 0),(.int .i64 0),(.int .i64 0),(.int .i64 0)]) 32 info33 rfl (by decide) (by omega) z33 (ok:=fun _=>True) (okp:=fun _=>True) (k33_mkM _ _ _ z33 ) (fun _ hk=>hk) trivial (zod) (Nat.le_trans (Nat.mul_le_mul_right _ (zod:(l0.length:Int).toNat≤8796093022208)) (by omega)) (Below.refl _ _) (Nat.le_refl _) ?_;intro v140 w4 ho5 hb hg_ hnew_;clear hg_ hnew_;(first|rw [← Ny139.out] at ho5|(simp only [Int.reduceToNat] at ho5;rw [← Ny139.out] at ho5));have n0_:=Aside0.mk (Kd.R_lower ho5 (below_size zhb));have n1_:=Aside0.mk (below_step zhb hb);clear HB;have HO141:=n0_;have HB:=n1_;clear n0_ n1_;clear hb ho5))
   go_loopg [4] k (fun kq v4 w'=>∃ (x3_1:List (S33)) (x4_1:Int),v4=.int .i64 x4_1∧Aside0 (laws_toCellS.l0 kq l0 x3_1 x4_1=some r)∧Aside0 (kq≤k)∧Aside0 (Kd.R k33 33 w' w.heap.size (fun _=>True) v140 x3_1)∧Aside0 (Below w.heap.size w w'))
   case atStart=>exact ⟨(y139),(0),(by first|rfl|(simp;done)|(simp [*];done)),H',⟨Nat.le_refl _⟩,⟨by (with_reducible repeat (first|apply Kd.R_alloc|apply Kd.R_drewN|apply Kd.R_drew));exact HO141.out⟩,⟨zhb⟩⟩
   case round =>
    clear H'
    try clear c2
    try clear c2b0
    try clear c2b1
    try clear p2
    try clear c3
    try clear c3b0
    try clear c3b1
    obtain ⟨x3_1,x4_1,rfl,HA,HK1,HO_3,HB⟩:=hrel
    cases gk with
    | zero=>exact absurd HA.out (by simp [laws_toCellS.l0])
    | succ k1 =>
     have H:=HA.out
     clear HA
     simp only [laws_toCellS.l0] at H
     by_cases c6:x4_1 < (l0.length:Int)
     ·rw [if_pos c6] at H
      have c6b0:decide (x4_1 < (l0.length:Int))=true:=decide_eq_true c6
      clear c6
      by_cases c7:0≤x4_1
      ·rw [if_pos c7] at H
       have c7b0:decide (0≤x4_1)=true:=decide_eq_true c7
       clear c7
       replace H:=Option.bind_eq_some_iff.mp H
       obtain ⟨⟨t143,t144,t145,t146⟩,A80,H⟩:=H
       (try dsimp only at H)
       have A8:=Aside0.mk A80
       clear A80
       by_cases c9:x4_1 < (x3_1.length:Int)
       ·rw [if_pos c9] at H
        have c9b0:decide (x4_1 < (x3_1.length:Int))=true:=decide_eq_true c9
        clear c9
        obtain ⟨y147,hy147⟩ : ∃ y_:List (S33),y_=(x3_1.set (x4_1:Int).toNat (⟨t143,t144,t145,t146⟩:S33)):=⟨_,rfl⟩
        replace H:(laws_toCellS.l0 k1 l0 y147 (wrap64 (x4_1 + 1)))=some r:=by first|(rw [hy147];with_reducible exact H)|(have H2_:=(Option.bind_some _ _).symm.trans H;rw [hy147];with_reducible exact H2_)|(have H2_:=(Option.bind_some _ _).symm.trans H;with_reducible exact H2_)|with_reducible exact H|(rw [hy147];exact H)|exact H
        have Ny147:=Aside0.mk hy147
        clear hy147
        have H':=Aside0.mk H
        clear H
        have p142:0≤(x4_1:Int):=zod
        have q142:x4_1 < (l0.length:Int):=zod
        obtain ⟨ad142,e142,hx142_0,hx142_1,hx142_2,hx142_3⟩:=at_T23 HR0.out x4_1 p142 q142
        cases e142
        replace hx142_0:=(HB.out.cell (World.block_lt_of_cell? w _ hx142_0)).trans hx142_0
        replace hx142_1:=(HB.out.cell (World.block_lt_of_cell? w _ hx142_1)).trans hx142_1
        replace hx142_2:=(HB.out.cell (World.block_lt_of_cell? w _ hx142_2)).trans hx142_2
        replace hx142_3:=(HB.out.cell (World.block_lt_of_cell? w _ hx142_3)).trans hx142_3
        replace p142:=eq_true p142
        replace q142:=eq_true q142
        go_wp2_with (first|((with_reducible refine gate_callee (f:=42) rfl ?_);refine goesL_ (some 20) rfl rfl Try.func42 (by kernel_rfl) rfl #[.agg #[.int .i64 ((rd_T23 l0 x4_1).f0),.int .i64 ((rd_T23 l0 x4_1).f1),.int .i64 ((rd_T23 l0 x4_1).f2),.int .i64 ((rd_T23 l0 x4_1).f3)]] rfl zar ?_;(with_reducible refine (laws_toCell.calls ((rd_T23 l0 x4_1).f0) ((rd_T23 l0 x4_1).f1) ((rd_T23 l0 x4_1).f2) ((rd_T23 l0 x4_1).f3) t143 t144 t145 t146 _ A8.out).mono ?_);rintro e w11 ⟨rfl,hb⟩;refine ⟨_,rfl,?_⟩;have n0_:=Aside0.mk (Kd.R_below (by (with_reducible repeat (first|apply Kd.R_alloc|apply Kd.R_drewN|apply Kd.R_drew));exact HO_3.out) hb);have n1_:=Aside0.mk (below_step zhb hb);clear HO_3;clear HB;have HO_3:=n0_;have HB:=n1_;clear n0_ n1_;(try clear hb);(try clear hb2);(try clear hk);(try clear hi);have p10:0≤(x4_1:Int):=zod;have q10:(x4_1:Int) < ((x3_1.length:Int):Int):=zod;obtain ⟨go10,co10,eo10,gb10,gl10,cl10,HG10⟩:=Kd.R_form HO_3.out (by omega);(first|cases eo10|(injection eo10 with ea_ en_ ec_;(first|subst ea_|(injection ea_ with ea_;subst ea_));subst ec_;clear en_));have GB10:=Aside0.mk gb10;have GG10:=Aside0.mk HG10;clear gb10 gl10 HG10;obtain ⟨ce10,hcl10,hM10,hcc10,hfr10⟩:=Kd.R_elem HO_3.out z33 (x4_1:Int) p10 q10;obtain rfl:=k33_openM hM10;have hx10_0:w11.cell? ⟨go10,(x4_1:Int).toNat * 4,none⟩=some (.int .i64 ((rd_T33 x3_1 x4_1).f0)):=hcc10 0 _ rfl;have hx10_1:w11.cell? ⟨go10,(x4_1:Int).toNat * 4 + 1,none⟩=some (.int .i64 ((rd_T33 x3_1 x4_1).f1)):=hcc10 1 _ rfl;have hx10_2:w11.cell? ⟨go10,(x4_1:Int).toNat * 4 + 2,none⟩=some (.int .i64 ((rd_T33 x3_1 x4_1).f2)):=hcc10 2 _ rfl;have hx10_3:w11.cell? ⟨go10,(x4_1:Int).toNat * 4 + 3,none⟩=some (.int .i64 ((rd_T33 x3_1 x4_1).f3)):=hcc10 3 _ rfl;have hf10_0:w11.frozen? ⟨go10,(x4_1:Int).toNat * 4,none⟩=false:=hfr10 0;have hf10_1:w11.frozen? ⟨go10,(x4_1:Int).toNat * 4 + 1,none⟩=false:=hfr10 1;have hf10_2:w11.frozen? ⟨go10,(x4_1:Int).toNat * 4 + 2,none⟩=false:=hfr10 2;have hf10_3:w11.frozen? ⟨go10,(x4_1:Int).toNat * 4 + 3,none⟩=false:=hfr10 3;clear hcl10 hcc10 hfr10 hM10;replace p10:=eq_true p10;replace q10:=eq_true q10;have HX12:=Aside0.mk (show Kd.R k33 33 w11 w.heap.size (fun _=>True) (.slice (some ⟨go10,0,none⟩) x3_1.length co10) x3_1 from (by (with_reducible repeat (first|apply Kd.R_alloc|apply Kd.R_drewN|apply Kd.R_drew));exact HO_3.out));obtain ⟨ce12,hcl12,hM12,hcc12,hfr12⟩:=Kd.R_elem HX12.out z33 (x4_1:Int) (zod) (by have h_:(x4_1:Int) < ((x3_1.length:Int):Int):=zod;first|exact h_|(have e_:=(Kd.R_reads' HO_3.out).1;omega)|simpa using h_);obtain rfl:=k33_openM hM12;have HP12:=Kd.R_seg HX12.out (x4_1:Int) (zod) (by have h_:(x4_1:Int) < ((x3_1.length:Int):Int):=zod;first|exact h_|(have e_:=(Kd.R_reads' HO_3.out).1;omega)|simpa using h_) (seg:=[.int .i64 t143,.int .i64 t144,.int .i64 t145,.int .i64 t146]) (j:=0) hcl12 hcc12 (show 4≤4 from by decide) (x':=(⟨t143,t144,t145,t146⟩:S33)) (k33_mkM _ _ _ (⟨t143,t144,t145,t146⟩:S33) ) (fun _ hk=>hk);have hx12_0:=hcc12 0 _ rfl;(try simp only [show (k33).sz=4 from rfl,Nat.mul_one,Nat.add_zero] at hx12_0);have hf12_0:=hfr12 0;(try simp only [show (k33).sz=4 from rfl,Nat.mul_one,Nat.add_zero] at hf12_0);have hx12_1:=hcc12 1 _ rfl;(try simp only [show (k33).sz=4 from rfl,Nat.mul_one,Nat.add_zero] at hx12_1);have hf12_1:=hfr12 1;(try simp only [show (k33).sz=4 from rfl,Nat.mul_one,Nat.add_zero] at hf12_1);have hx12_2:=hcc12 2 _ rfl;(try simp only [show (k33).sz=4 from rfl,Nat.mul_one,Nat.add_zero] at hx12_2);have hf12_2:=hfr12 2;(try simp only [show (k33).sz=4 from rfl,Nat.mul_one,Nat.add_zero] at hf12_2);have hx12_3:=hcc12 3 _ rfl;(try simp only [show (k33).sz=4 from rfl,Nat.mul_one,Nat.add_zero] at hx12_3);have hf12_3:=hfr12 3;(try simp only [show (k33).sz=4 from rfl,Nat.mul_one,Nat.add_zero] at hf12_3);clear hcl12 hcc12 hfr12 hM12)|((with_reducible refine gate_store (t:=33) (p:=21) rfl ?_);refine store_event (t:=33) (p:=21) (v:=?vo_w13) (w1:=((((w11.setCell ⟨go10,(x4_1:Int).toNat * 4,none⟩ (.int .i64 t143)).setCell ⟨go10,(x4_1:Int).toNat * 4 + 1,none⟩ (.int .i64 t144)).setCell ⟨go10,(x4_1:Int).toNat * 4 + 2,none⟩ (.int .i64 t145)).setCell ⟨go10,(x4_1:Int).toNat * 4 + 3,none⟩ (.int .i64 t146))) ?hg ?ho ?hn ?hr ?_;(case ho=>rfl);(case hg=>rfl);(case hn=>rfl);(case hr=>first|(go_simp;done)|(go_simp;rfl));intro w13 hw;have hg:w11.grownBy w13 (some go10):=(by rw [hw];exact HP12.2);have hp_:Kd.R k33 33 w13 w.heap.size (fun _=>True) (.slice (some ⟨go10,0,none⟩) x3_1.length co10) y147:=(by rw [hw,Ny147.out];exact HP12.1);clear HP12;have n0_:=Aside0.mk (hp_);have n1_:=Aside0.mk ((by rw [hw];exact below_set (below_set (below_set (below_set (HB.out) GB10.out) GB10.out) GB10.out) GB10.out:Below w.heap.size w w13));clear HO_3;clear HB;have HO_3:=n0_;have HB:=n1_;clear n0_ n1_;clear hg hw hp_))
        go_roundg k1
        case measure=>have:=HK1.out;omega
        case rel=>exact ⟨(y147),(wrap64 (x4_1 + 1)),(by first|rfl|(simp;done)|(simp [*];done)),H',⟨by have:=HK1.out;omega⟩,⟨by (with_reducible repeat (first|apply Kd.R_alloc|apply Kd.R_drewN|apply Kd.R_drew));exact HO_3.out⟩,⟨zhb⟩⟩
       ·rw [if_neg c9] at H
        exact absurd H (by simp)
      ·rw [if_neg c7] at H
       exact absurd H (by simp)
     ·rw [if_neg c6] at H
      have c6b0:decide (x4_1 < (l0.length:Int))=false:=decide_eq_false c6
      clear c6
      obtain rfl:=Option.some.inj H
      go_wp2
      go_ret
      exact ⟨_,by first|rfl|(simp [errW_none,errW_some] <;> rfl)|(simp [*,errW_none,errW_some] <;> rfl),by (with_reducible repeat (first|apply Kd.R_alloc|apply Kd.R_drewN|apply Kd.R_drew));exact HO_3.out,zhb⟩
  ·rw [if_neg c3] at H
   exact absurd H (by simp)
 ·rw [if_neg c2] at H
  exact absurd H (by simp)


section
attribute [local go_sem high] eqA33
/-! ### slices_Equal_impl_Cell_impl_Cell: function 24 -/
def slices_Equal_impl_Cell_impl_Cell.l0:Nat→List (S33)→List (S33)→Int→Int→Option (Bool)
 | 0,_,_,_,_=>none
 | k + 1,x0,x1,x12,x13=>if x13 < x12 then (if 0≤x13 then (if x13 < (x0.length:Int) then (if x13 < (x1.length:Int) then (if (!(((rd_T33 x0 x13).f0) == ((rd_T33 x1 x13).f0)) || (!(((rd_T33 x0 x13).f1) == ((rd_T33 x1 x13).f1)) || (!(((rd_T33 x0 x13).f2) == ((rd_T33 x1 x13).f2)) || (!(((rd_T33 x0 x13).f3) == ((rd_T33 x1 x13).f3))))))=true then (some false) else (slices_Equal_impl_Cell_impl_Cell.l0 k x0 x1 x12 (wrap64 (x13 + 1)))) else (none)) else (none)) else (none)) else (some true)
def slices_Equal_impl_Cell_impl_Cell.f (k:Nat) (l0:List (S33)) (l1:List (S33)):Option (Bool):=if (l0.length:Int)=(l1.length:Int) then (slices_Equal_impl_Cell_impl_Cell.l0 k l0 l1 (l0.length:Int) 0) else (some false)
theorem slices_Equal_impl_Cell_impl_Cell.mono_l : ∀ k,(∀ y0 y1 y2 y3,LeO (slices_Equal_impl_Cell_impl_Cell.l0 k y0 y1 y2 y3) (slices_Equal_impl_Cell_impl_Cell.l0 (k + 1) y0 y1 y2 y3))
 | 0=>fun _ _ _ _ r h=>by simp [slices_Equal_impl_Cell_impl_Cell.l0] at h
 | k + 1=>by
  have ih0:=slices_Equal_impl_Cell_impl_Cell.mono_l k
  ·intro y0 y1 y2 y3
   unfold slices_Equal_impl_Cell_impl_Cell.l0
   repeat' first
   | (with_reducible exact ih0 _ _ _ _)
   | (with_reducible exact LeO.refl _)
   | (with_reducible exact LeO.none _)
   | (with_reducible refine LeO.ite ?_ ?_)
   | (with_reducible refine LeO.bind ?_ (fun _=>?_))
   | exact LeO.none _
   | refine LeO.ite ?_ ?_
   | refine LeO.bind ?_ (fun _=>?_)
theorem slices_Equal_impl_Cell_impl_Cell.mono : ∀ a0 a1 k,LeO (slices_Equal_impl_Cell_impl_Cell.f k a0 a1) (slices_Equal_impl_Cell_impl_Cell.f (k + 1) a0 a1):=by
 intro a0 a1 k
 have ih0:=slices_Equal_impl_Cell_impl_Cell.mono_l k
 unfold slices_Equal_impl_Cell_impl_Cell.f
 repeat' first
   | (with_reducible exact ih0 _ _ _ _)
   | (with_reducible exact LeO.refl _)
   | (with_reducible exact LeO.none _)
   | (with_reducible refine LeO.ite ?_ ?_)
   | (with_reducible refine LeO.bind ?_ (fun _=>?_))
   | exact LeO.none _
   | refine LeO.ite ?_ ?_
   | refine LeO.bind ?_ (fun _=>?_)
set_option maxHeartbeats 8000000 in
set_option maxRecDepth 100000 in
theorem slices_Equal_impl_Cell_impl_Cell.calls (k:Nat) (A0:Option Addr) (c0:Nat) (l0:List (S33)) (A1:Option Addr) (c1:Nat) (l1:List (S33)) (r:Bool) (w:World) (hr0:Kd.C k33 w A0 l0.length l0) (hc0:l0.length≤c0) (hr1:Kd.C k33 w A1 l1.length l1) (hc1:l1.length≤c1) (h:slices_Equal_impl_Cell_impl_Cell.f k l0 l1=some r) :
  Calls Try.prog 24 #[.slice A0 l0.length c0,.slice A1 l1.length c1] w fun e w'=>e=.returned (.bool r)∧Drawn0 w w':=by
 have hu33:=Try.underlying33
 have HR0:=Aside0.mk hr0
 have HC0:=Aside0.mk hc0
 clear hr0 hc0
 have HR1:=Aside0.mk hr1
 have HC1:=Aside0.mk hc1
 clear hr1 hc1
 have H:(if (l0.length:Int)=(l1.length:Int) then (slices_Equal_impl_Cell_impl_Cell.l0 k l0 l1 (l0.length:Int) 0) else (some false))=some r:=h
 clear h
 by_cases c3:(l0.length:Int)=(l1.length:Int)
 ·rw [if_pos c3] at H
  have c3b0:((l0.length:Int) == (l1.length:Int))=true:=beq_iff_eq.mpr c3
  have c3b1:((l0.length:Int) != (l1.length:Int))=false:=bne_eq_false_iff_eq.mpr c3
  have c3b2:(l0.length == l1.length)=true:=by first|simpa using c3|(simp at c3 ⊢;omega)
  clear c3
  have H':=Aside0.mk H
  clear H
  go_enter Try.func24,Try.ntmps24
  go_wp2
  repeat (go_quiet (fail);try go_wp2)
  go_loopg [13] k (fun kq v13 w'=>∃ (x13_1:Int),v13=.int .i64 x13_1∧Aside0 (slices_Equal_impl_Cell_impl_Cell.l0 kq l0 l1 (l0.length:Int) x13_1=some r)∧Aside0 (kq≤k)∧Drawn0 w w')
  case atStart=>exact ⟨(0),(by first|rfl|(simp;done)|(simp [*];done)),H',⟨Nat.le_refl _⟩,zdw⟩
  case round =>
   clear H'
   try clear c1
   try clear c2
   try clear p2
   try clear c3
   try clear c3b0
   try clear c3b1
   try clear c3b2
   obtain ⟨x13_1,rfl,HA,HK1,⟨m1,rfl⟩⟩:=hrel
   cases gk with
   | zero=>exact absurd HA.out (by simp [slices_Equal_impl_Cell_impl_Cell.l0])
   | succ k1 =>
    have H:=HA.out
    clear HA
    simp only [slices_Equal_impl_Cell_impl_Cell.l0] at H
    by_cases c4:x13_1 < (l0.length:Int)
    ·rw [if_pos c4] at H
     have c4b0:decide (x13_1 < (l0.length:Int))=true:=decide_eq_true c4
     clear c4
     by_cases c5:0≤x13_1
     ·rw [if_pos c5] at H
      have c5b0:decide (0≤x13_1)=true:=decide_eq_true c5
      clear c5
      by_cases c6:x13_1 < (l0.length:Int)
      ·rw [if_pos c6] at H
       have c6b0:decide (x13_1 < (l0.length:Int))=true:=decide_eq_true c6
       clear c6
       by_cases c7:x13_1 < (l1.length:Int)
       ·rw [if_pos c7] at H
        have c7b0:decide (x13_1 < (l1.length:Int))=true:=decide_eq_true c7
        clear c7
        by_cases c8:(!(((rd_T33 l0 x13_1).f0) == ((rd_T33 l1 x13_1).f0)) || (!(((rd_T33 l0 x13_1).f1) == ((rd_T33 l1 x13_1).f1)) || (!(((rd_T33 l0 x13_1).f2) == ((rd_T33 l1 x13_1).f2)) || (!(((rd_T33 l0 x13_1).f3) == ((rd_T33 l1 x13_1).f3))))))=true
        ·rw [if_pos c8] at H
         have c8b0:(!(((rd_T33 l0 x13_1).f0) == ((rd_T33 l1 x13_1).f0)) || (!(((rd_T33 l0 x13_1).f1) == ((rd_T33 l1 x13_1).f1)) || (!(((rd_T33 l0 x13_1).f2) == ((rd_T33 l1 x13_1).f2)) || (!(((rd_T33 l0 x13_1).f3) == ((rd_T33 l1 x13_1).f3))))))=true:=c8
         clear c8
         obtain rfl:=Option.some.inj H
         have p200:0≤(x13_1:Int):=zod
         have q200:x13_1 < (l0.length:Int):=zod
         obtain ⟨ad200,e200,hx200_0,hx200_1,hx200_2,hx200_3⟩:=at_T33 HR0.out x13_1 p200 q200
         cases e200
         replace p200:=eq_true p200
         replace q200:=eq_true q200
         have p201:0≤(x13_1:Int):=zod
         have q201:x13_1 < (l1.length:Int):=zod
         obtain ⟨ad201,e201,hx201_0,hx201_1,hx201_2,hx201_3⟩:=at_T33 HR1.out x13_1 p201 q201
         cases e201
         replace p201:=eq_true p201
         replace q201:=eq_true q201
         go_wp2
         repeat (go_quiet (fail);try go_wp2)
         go_ret
         exact ⟨by first|rfl|(simp;done)|(simp [*];done),zdw⟩
        ·rw [if_neg c8] at H
         have c8b0:(!(((rd_T33 l0 x13_1).f0) == ((rd_T33 l1 x13_1).f0)) || (!(((rd_T33 l0 x13_1).f1) == ((rd_T33 l1 x13_1).f1)) || (!(((rd_T33 l0 x13_1).f2) == ((rd_T33 l1 x13_1).f2)) || (!(((rd_T33 l0 x13_1).f3) == ((rd_T33 l1 x13_1).f3))))))=false:=by simpa using c8
         clear c8
         have H':=Aside0.mk H
         clear H
         have p200:0≤(x13_1:Int):=zod
         have q200:x13_1 < (l0.length:Int):=zod
         obtain ⟨ad200,e200,hx200_0,hx200_1,hx200_2,hx200_3⟩:=at_T33 HR0.out x13_1 p200 q200
         cases e200
         replace p200:=eq_true p200
         replace q200:=eq_true q200
         have p201:0≤(x13_1:Int):=zod
         have q201:x13_1 < (l1.length:Int):=zod
         obtain ⟨ad201,e201,hx201_0,hx201_1,hx201_2,hx201_3⟩:=at_T33 HR1.out x13_1 p201 q201
         cases e201
         replace p201:=eq_true p201
         replace q201:=eq_true q201
         go_wp2
         repeat (go_quiet (fail);try go_wp2)
         go_roundg k1
         case measure=>have:=HK1.out;omega
         case rel=>exact ⟨(wrap64 (x13_1 + 1)),(by first|rfl|(simp;done)|(simp [*];done)),H',⟨by have:=HK1.out;omega⟩,zdw⟩
       ·rw [if_neg c7] at H
        exact absurd H (by simp)
      ·rw [if_neg c6] at H
       exact absurd H (by simp)
     ·rw [if_neg c5] at H
      exact absurd H (by simp)
    ·rw [if_neg c4] at H
     have c4b0:decide (x13_1 < (l0.length:Int))=false:=decide_eq_false c4
     clear c4
     obtain rfl:=Option.some.inj H
     go_wp2
     repeat (go_quiet (fail);try go_wp2)
     go_ret
     exact ⟨by first|rfl|(simp;done)|(simp [*];done),zdw⟩
 ·rw [if_neg c3] at H
  have c3b0:((l0.length:Int) == (l1.length:Int))=false:=beq_eq_false_iff_ne.mpr c3
  have c3b1:((l0.length:Int) != (l1.length:Int))=true:=bne_iff_ne.mpr c3
  have c3b2:(l0.length == l1.length)=false:=by first|simpa using c3|(simp at c3 ⊢;omega)
  obtain rfl:=Option.some.inj H
  go_enter Try.func24,Try.ntmps24
  go_wp2
  repeat (go_quiet (fail);try go_wp2)
  go_ret
  exact ⟨by first|rfl|(simp;done)|(simp [*];done),zdw⟩
end

/-! ### slices_Equal_int_int: function 25 -/
def slices_Equal_int_int.l0:Nat→List Int→List Int→Int→Int→Option (Bool)
 | 0,_,_,_,_=>none
 | k + 1,x0,x1,x12,x13=>if x13 < x12 then (if 0≤x13 then (if x13 < (x0.length:Int) then (if x13 < (x1.length:Int) then (if (rd x0 x13)=(rd x1 x13) then (slices_Equal_int_int.l0 k x0 x1 x12 (wrap64 (x13 + 1))) else (some false)) else (none)) else (none)) else (none)) else (some true)
def slices_Equal_int_int.f (k:Nat) (l0:List Int) (l1:List Int):Option (Bool):=if (l0.length:Int)=(l1.length:Int) then (slices_Equal_int_int.l0 k l0 l1 (l0.length:Int) 0) else (some false)
theorem slices_Equal_int_int.mono_l : ∀ k,(∀ y0 y1 y2 y3,LeO (slices_Equal_int_int.l0 k y0 y1 y2 y3) (slices_Equal_int_int.l0 (k + 1) y0 y1 y2 y3))
 | 0=>fun _ _ _ _ r h=>by simp [slices_Equal_int_int.l0] at h
 | k + 1=>by
  have ih0:=slices_Equal_int_int.mono_l k
  ·intro y0 y1 y2 y3
   unfold slices_Equal_int_int.l0
   repeat' first
   | (with_reducible exact ih0 _ _ _ _)
   | (with_reducible exact LeO.refl _)
   | (with_reducible exact LeO.none _)
   | (with_reducible refine LeO.ite ?_ ?_)
   | (with_reducible refine LeO.bind ?_ (fun _=>?_))
   | exact LeO.none _
   | refine LeO.ite ?_ ?_
   | refine LeO.bind ?_ (fun _=>?_)
theorem slices_Equal_int_int.mono : ∀ a0 a1 k,LeO (slices_Equal_int_int.f k a0 a1) (slices_Equal_int_int.f (k + 1) a0 a1):=by
 intro a0 a1 k
 have ih0:=slices_Equal_int_int.mono_l k
 unfold slices_Equal_int_int.f
 repeat' first
   | (with_reducible exact ih0 _ _ _ _)
   | (with_reducible exact LeO.refl _)
   | (with_reducible exact LeO.none _)
   | (with_reducible refine LeO.ite ?_ ?_)
   | (with_reducible refine LeO.bind ?_ (fun _=>?_))
   | exact LeO.none _
   | refine LeO.ite ?_ ?_
   | refine LeO.bind ?_ (fun _=>?_)
set_option maxHeartbeats 8000000 in
set_option maxRecDepth 100000 in
theorem slices_Equal_int_int.calls (k:Nat) (A0:Option Addr) (c0:Nat) (l0:List Int) (A1:Option Addr) (c1:Nat) (l1:List Int) (r:Bool) (w:World) (hr0:Kd.C (Kd.int .i64) w A0 l0.length l0) (hc0:l0.length≤c0) (hr1:Kd.C (Kd.int .i64) w A1 l1.length l1) (hc1:l1.length≤c1) (h:slices_Equal_int_int.f k l0 l1=some r) :
  Calls Try.prog 25 #[.slice A0 l0.length c0,.slice A1 l1.length c1] w fun e w'=>e=.returned (.bool r)∧Drawn0 w w':=by
 have HR0:=Aside0.mk hr0
 have HC0:=Aside0.mk hc0
 clear hr0 hc0
 have HR1:=Aside0.mk hr1
 have HC1:=Aside0.mk hc1
 clear hr1 hc1
 have H:(if (l0.length:Int)=(l1.length:Int) then (slices_Equal_int_int.l0 k l0 l1 (l0.length:Int) 0) else (some false))=some r:=h
 clear h
 by_cases c3:(l0.length:Int)=(l1.length:Int)
 ·rw [if_pos c3] at H
  have c3b0:((l0.length:Int) == (l1.length:Int))=true:=beq_iff_eq.mpr c3
  have c3b1:((l0.length:Int) != (l1.length:Int))=false:=bne_eq_false_iff_eq.mpr c3
  have c3b2:(l0.length == l1.length)=true:=by first|simpa using c3|(simp at c3 ⊢;omega)
  clear c3
  have H':=Aside0.mk H
  clear H
  go_enter Try.func25,Try.ntmps25
  go_wp2
  repeat (go_quiet (fail);try go_wp2)
  go_loopg [13] k (fun kq v13 w'=>∃ (x13_1:Int),v13=.int .i64 x13_1∧Aside0 (slices_Equal_int_int.l0 kq l0 l1 (l0.length:Int) x13_1=some r)∧Aside0 (kq≤k)∧Drawn0 w w')
  case atStart=>exact ⟨(0),(by first|rfl|(simp;done)|(simp [*];done)),H',⟨Nat.le_refl _⟩,zdw⟩
  case round =>
   clear H'
   try clear c1
   try clear c2
   try clear p2
   try clear c3
   try clear c3b0
   try clear c3b1
   try clear c3b2
   obtain ⟨x13_1,rfl,HA,HK1,⟨m1,rfl⟩⟩:=hrel
   cases gk with
   | zero=>exact absurd HA.out (by simp [slices_Equal_int_int.l0])
   | succ k1 =>
    have H:=HA.out
    clear HA
    simp only [slices_Equal_int_int.l0] at H
    by_cases c4:x13_1 < (l0.length:Int)
    ·rw [if_pos c4] at H
     have c4b0:decide (x13_1 < (l0.length:Int))=true:=decide_eq_true c4
     clear c4
     by_cases c5:0≤x13_1
     ·rw [if_pos c5] at H
      have c5b0:decide (0≤x13_1)=true:=decide_eq_true c5
      clear c5
      by_cases c6:x13_1 < (l0.length:Int)
      ·rw [if_pos c6] at H
       have c6b0:decide (x13_1 < (l0.length:Int))=true:=decide_eq_true c6
       clear c6
       by_cases c7:x13_1 < (l1.length:Int)
       ·rw [if_pos c7] at H
        have c7b0:decide (x13_1 < (l1.length:Int))=true:=decide_eq_true c7
        clear c7
        by_cases c8:(rd l0 x13_1)=(rd l1 x13_1)
        ·rw [if_pos c8] at H
         have c8b0:((rd l0 x13_1) == (rd l1 x13_1))=true:=beq_iff_eq.mpr c8
         have c8b1:((rd l0 x13_1) != (rd l1 x13_1))=false:=bne_eq_false_iff_eq.mpr c8
         clear c8
         have H':=Aside0.mk H
         clear H
         have p202:0≤(x13_1:Int):=zod
         have q202:x13_1 < (l0.length:Int):=zod
         obtain ⟨ad202,e202,hx202_0⟩:=Kd.at_int HR0.out x13_1 p202 q202
         cases e202
         replace p202:=eq_true p202
         replace q202:=eq_true q202
         have p203:0≤(x13_1:Int):=zod
         have q203:x13_1 < (l1.length:Int):=zod
         obtain ⟨ad203,e203,hx203_0⟩:=Kd.at_int HR1.out x13_1 p203 q203
         cases e203
         replace p203:=eq_true p203
         replace q203:=eq_true q203
         go_wp2
         repeat (go_quiet (fail);try go_wp2)
         go_roundg k1
         case measure=>have:=HK1.out;omega
         case rel=>exact ⟨(wrap64 (x13_1 + 1)),(by first|rfl|(simp;done)|(simp [*];done)),H',⟨by have:=HK1.out;omega⟩,zdw⟩
        ·rw [if_neg c8] at H
         have c8b0:((rd l0 x13_1) == (rd l1 x13_1))=false:=beq_eq_false_iff_ne.mpr c8
         have c8b1:((rd l0 x13_1) != (rd l1 x13_1))=true:=bne_iff_ne.mpr c8
         obtain rfl:=Option.some.inj H
         have p202:0≤(x13_1:Int):=zod
         have q202:x13_1 < (l0.length:Int):=zod
         obtain ⟨ad202,e202,hx202_0⟩:=Kd.at_int HR0.out x13_1 p202 q202
         cases e202
         replace p202:=eq_true p202
         replace q202:=eq_true q202
         have p203:0≤(x13_1:Int):=zod
         have q203:x13_1 < (l1.length:Int):=zod
         obtain ⟨ad203,e203,hx203_0⟩:=Kd.at_int HR1.out x13_1 p203 q203
         cases e203
         replace p203:=eq_true p203
         replace q203:=eq_true q203
         go_wp2
         repeat (go_quiet (fail);try go_wp2)
         go_ret
         exact ⟨by first|rfl|(simp;done)|(simp [*];done),zdw⟩
       ·rw [if_neg c7] at H
        exact absurd H (by simp)
      ·rw [if_neg c6] at H
       exact absurd H (by simp)
     ·rw [if_neg c5] at H
      exact absurd H (by simp)
    ·rw [if_neg c4] at H
     have c4b0:decide (x13_1 < (l0.length:Int))=false:=decide_eq_false c4
     clear c4
     obtain rfl:=Option.some.inj H
     go_wp2
     repeat (go_quiet (fail);try go_wp2)
     go_ret
     exact ⟨by first|rfl|(simp;done)|(simp [*];done),zdw⟩
 ·rw [if_neg c3] at H
  have c3b0:((l0.length:Int) == (l1.length:Int))=false:=beq_eq_false_iff_ne.mpr c3
  have c3b1:((l0.length:Int) != (l1.length:Int))=true:=bne_iff_ne.mpr c3
  have c3b2:(l0.length == l1.length)=false:=by first|simpa using c3|(simp at c3 ⊢;omega)
  obtain rfl:=Option.some.inj H
  go_enter Try.func25,Try.ntmps25
  go_wp2
  repeat (go_quiet (fail);try go_wp2)
  go_ret
  exact ⟨by first|rfl|(simp;done)|(simp [*];done),zdw⟩



/-! ### laws_eqIntS: function 16 -/
def laws_eqIntS.l0:Nat→List Int→List Int→Int→Option (Bool)
 | 0,_,_,_=>none
 | k + 1,x0,x1,x5=>if x5 < (x0.length:Int) then (if 0≤x5 then (if x5 < (x1.length:Int) then (if (rd x0 x5)=(rd x1 x5) then (laws_eqIntS.l0 k x0 x1 (wrap64 (x5 + 1))) else (some false)) else (none)) else (none)) else (some true)
def laws_eqIntS.f (k:Nat) (l0:List Int) (l1:List Int):Option (Bool):=if (l0.length:Int)=(l1.length:Int) then (laws_eqIntS.l0 k l0 l1 0) else (some false)
theorem laws_eqIntS.mono_l : ∀ k,(∀ y0 y1 y2,LeO (laws_eqIntS.l0 k y0 y1 y2) (laws_eqIntS.l0 (k + 1) y0 y1 y2))
 | 0=>fun _ _ _ r h=>by simp [laws_eqIntS.l0] at h
 | k + 1=>by
  have ih0:=laws_eqIntS.mono_l k
  ·intro y0 y1 y2
   unfold laws_eqIntS.l0
   repeat' first
   | (with_reducible exact ih0 _ _ _)
   | (with_reducible exact LeO.refl _)
   | (with_reducible exact LeO.none _)
   | (with_reducible refine LeO.ite ?_ ?_)
   | (with_reducible refine LeO.bind ?_ (fun _=>?_))
   | exact LeO.none _
   | refine LeO.ite ?_ ?_
   | refine LeO.bind ?_ (fun _=>?_)
theorem laws_eqIntS.mono : ∀ a0 a1 k,LeO (laws_eqIntS.f k a0 a1) (laws_eqIntS.f (k + 1) a0 a1):=by
 intro a0 a1 k
 have ih0:=laws_eqIntS.mono_l k
 unfold laws_eqIntS.f
 repeat' first
   | (with_reducible exact ih0 _ _ _)
   | (with_reducible exact LeO.refl _)
   | (with_reducible exact LeO.none _)
   | (with_reducible refine LeO.ite ?_ ?_)
   | (with_reducible refine LeO.bind ?_ (fun _=>?_))
   | exact LeO.none _
   | refine LeO.ite ?_ ?_
   | refine LeO.bind ?_ (fun _=>?_)
set_option maxHeartbeats 8000000 in
set_option maxRecDepth 100000 in
theorem laws_eqIntS.calls (k:Nat) (A0:Option Addr) (c0:Nat) (l0:List Int) (A1:Option Addr) (c1:Nat) (l1:List Int) (r:Bool) (w:World) (hr0:Kd.C (Kd.int .i64) w A0 l0.length l0) (hc0:l0.length≤c0) (hr1:Kd.C (Kd.int .i64) w A1 l1.length l1) (hc1:l1.length≤c1) (h:laws_eqIntS.f k l0 l1=some r) :
  Calls Try.prog 16 #[.slice A0 l0.length c0,.slice A1 l1.length c1] w fun e w'=>e=.returned (.bool r)∧Drawn0 w w':=by
 have HR0:=Aside0.mk hr0
 have HC0:=Aside0.mk hc0
 clear hr0 hc0
 have HR1:=Aside0.mk hr1
 have HC1:=Aside0.mk hc1
 clear hr1 hc1
 have H:(if (l0.length:Int)=(l1.length:Int) then (laws_eqIntS.l0 k l0 l1 0) else (some false))=some r:=h
 clear h
 by_cases c3:(l0.length:Int)=(l1.length:Int)
 ·rw [if_pos c3] at H
  have c3b0:((l0.length:Int) == (l1.length:Int))=true:=beq_iff_eq.mpr c3
  have c3b1:((l0.length:Int) != (l1.length:Int))=false:=bne_eq_false_iff_eq.mpr c3
  have c3b2:(l0.length == l1.length)=true:=by first|simpa using c3|(simp at c3 ⊢;omega)
  clear c3
  have H':=Aside0.mk H
  clear H
  go_enter Try.func16,Try.ntmps16
  go_wp2
  repeat (go_quiet (fail);try go_wp2)
  go_loopg [5] k (fun kq v5 w'=>∃ (x5_1:Int),v5=.int .i64 x5_1∧Aside0 (laws_eqIntS.l0 kq l0 l1 x5_1=some r)∧Aside0 (kq≤k)∧Drawn0 w w')
  case atStart=>exact ⟨(0),(by first|rfl|(simp;done)|(simp [*];done)),H',⟨Nat.le_refl _⟩,zdw⟩
  case round =>
   clear H'
   try clear c1
   try clear p2
   try clear c3
   try clear c3b0
   try clear c3b1
   try clear c3b2
   obtain ⟨x5_1,rfl,HA,HK1,⟨m1,rfl⟩⟩:=hrel
   cases gk with
   | zero=>exact absurd HA.out (by simp [laws_eqIntS.l0])
   | succ k1 =>
    have H:=HA.out
    clear HA
    simp only [laws_eqIntS.l0] at H
    by_cases c4:x5_1 < (l0.length:Int)
    ·rw [if_pos c4] at H
     have c4b0:decide (x5_1 < (l0.length:Int))=true:=decide_eq_true c4
     clear c4
     by_cases c5:0≤x5_1
     ·rw [if_pos c5] at H
      have c5b0:decide (0≤x5_1)=true:=decide_eq_true c5
      clear c5
      by_cases c6:x5_1 < (l1.length:Int)
      ·rw [if_pos c6] at H
       have c6b0:decide (x5_1 < (l1.length:Int))=true:=decide_eq_true c6
       clear c6
       by_cases c7:(rd l0 x5_1)=(rd l1 x5_1)
       ·rw [if_pos c7] at H
        have c7b0:((rd l0 x5_1) == (rd l1 x5_1))=true:=beq_iff_eq.mpr c7
        have c7b1:((rd l0 x5_1) != (rd l1 x5_1))=false:=bne_eq_false_iff_eq.mpr c7
        clear c7
        have H':=Aside0.mk H
        clear H
        have p218:0≤(x5_1:Int):=zod
        have q218:x5_1 < (l0.length:Int):=zod
        obtain ⟨ad218,e218,hx218_0⟩:=Kd.at_int HR0.out x5_1 p218 q218
        cases e218
        replace p218:=eq_true p218
        replace q218:=eq_true q218
        have p219:0≤(x5_1:Int):=zod
        have q219:x5_1 < (l1.length:Int):=zod
        obtain ⟨ad219,e219,hx219_0⟩:=Kd.at_int HR1.out x5_1 p219 q219
        cases e219
        replace p219:=eq_true p219
        replace q219:=eq_true q219
        go_wp2
        repeat (go_quiet (fail);try go_wp2)
        go_roundg k1
        case measure=>have:=HK1.out;omega
        case rel=>exact ⟨(wrap64 (x5_1 + 1)),(by first|rfl|(simp;done)|(simp [*];done)),H',⟨by have:=HK1.out;omega⟩,zdw⟩
       ·rw [if_neg c7] at H
        have c7b0:((rd l0 x5_1) == (rd l1 x5_1))=false:=beq_eq_false_iff_ne.mpr c7
        have c7b1:((rd l0 x5_1) != (rd l1 x5_1))=true:=bne_iff_ne.mpr c7
        obtain rfl:=Option.some.inj H
        have p218:0≤(x5_1:Int):=zod
        have q218:x5_1 < (l0.length:Int):=zod
        obtain ⟨ad218,e218,hx218_0⟩:=Kd.at_int HR0.out x5_1 p218 q218
        cases e218
        replace p218:=eq_true p218
        replace q218:=eq_true q218
        have p219:0≤(x5_1:Int):=zod
        have q219:x5_1 < (l1.length:Int):=zod
        obtain ⟨ad219,e219,hx219_0⟩:=Kd.at_int HR1.out x5_1 p219 q219
        cases e219
        replace p219:=eq_true p219
        replace q219:=eq_true q219
        go_wp2
        repeat (go_quiet (fail);try go_wp2)
        go_ret
        exact ⟨by first|rfl|(simp;done)|(simp [*];done),zdw⟩
      ·rw [if_neg c6] at H
       exact absurd H (by simp)
     ·rw [if_neg c5] at H
      exact absurd H (by simp)
    ·rw [if_neg c4] at H
     have c4b0:decide (x5_1 < (l0.length:Int))=false:=decide_eq_false c4
     clear c4
     obtain rfl:=Option.some.inj H
     go_wp2
     repeat (go_quiet (fail);try go_wp2)
     go_ret
     exact ⟨by first|rfl|(simp;done)|(simp [*];done),zdw⟩
 ·rw [if_neg c3] at H
  have c3b0:((l0.length:Int) == (l1.length:Int))=false:=beq_eq_false_iff_ne.mpr c3
  have c3b1:((l0.length:Int) != (l1.length:Int))=true:=bne_iff_ne.mpr c3
  have c3b2:(l0.length == l1.length)=false:=by first|simpa using c3|(simp at c3 ⊢;omega)
  obtain rfl:=Option.some.inj H
  go_enter Try.func16,Try.ntmps16
  go_wp2
  repeat (go_quiet (fail);try go_wp2)
  go_ret
  exact ⟨by first|rfl|(simp;done)|(simp [*];done),zdw⟩

/-! ### laws_eqCell: function 43 -/
def laws_eqCell.f (a0_0:Int) (a0_1:Int) (a0_2:Int) (a0_3:Int) (a1_0:Int) (a1_1:Int) (a1_2:Int) (a1_3:Int):Option (Bool):=if a0_0=a1_0 then (if a0_1=a1_1 then (if a0_2=a1_2 then (if a0_3=a1_3 then (some true) else (some false)) else (some false)) else (some false)) else (some false)
set_option maxHeartbeats 8000000 in
set_option maxRecDepth 100000 in
theorem laws_eqCell.calls (a0_0:Int) (a0_1:Int) (a0_2:Int) (a0_3:Int) (a1_0:Int) (a1_1:Int) (a1_2:Int) (a1_3:Int) (r:Bool) (w:World) (h:laws_eqCell.f a0_0 a0_1 a0_2 a0_3 a1_0 a1_1 a1_2 a1_3=some r) :
  Calls Try.prog 43 #[.agg #[.int .i64 a0_0,.int .i64 a0_1,.int .i64 a0_2,.int .i64 a0_3],.agg #[.int .i64 a1_0,.int .i64 a1_1,.int .i64 a1_2,.int .i64 a1_3]] w fun e w'=>e=.returned (.bool r)∧Below w.heap.size w w':=by
 have hu33:=Try.underlying33
 have HB:=Aside0.mk (Below.refl w.heap.size w)
 have H:(if a0_0=a1_0 then (if a0_1=a1_1 then (if a0_2=a1_2 then (if a0_3=a1_3 then (some true) else (some false)) else (some false)) else (some false)) else (some false))=some r:=h
 clear h
 by_cases c3:a0_0=a1_0
 ·rw [if_pos c3] at H
  have c3b0:(a0_0 == a1_0)=true:=beq_iff_eq.mpr c3
  have c3b1:(a0_0 != a1_0)=false:=bne_eq_false_iff_eq.mpr c3
  clear c3
  by_cases c4:a0_1=a1_1
  ·rw [if_pos c4] at H
   have c4b0:(a0_1 == a1_1)=true:=beq_iff_eq.mpr c4
   have c4b1:(a0_1 != a1_1)=false:=bne_eq_false_iff_eq.mpr c4
   clear c4
   by_cases c5:a0_2=a1_2
   ·rw [if_pos c5] at H
    have c5b0:(a0_2 == a1_2)=true:=beq_iff_eq.mpr c5
    have c5b1:(a0_2 != a1_2)=false:=bne_eq_false_iff_eq.mpr c5
    clear c5
    by_cases c6:a0_3=a1_3
    ·rw [if_pos c6] at H
     have c6b0:(a0_3 == a1_3)=true:=beq_iff_eq.mpr c6
     have c6b1:(a0_3 != a1_3)=false:=bne_eq_false_iff_eq.mpr c6
     clear c6
     obtain rfl:=Option.some.inj H
     go_enter Try.func43,Try.ntmps43
     go_wp2_with (first|((with_reducible refine gate_dst (N:=2) rfl ?_);refine box_event ?hg (N:=2) ?hd (cs:=#[.int .i64 a0_0,.int .i64 a0_1,.int .i64 a0_2,.int .i64 a0_3]) (t:=33) ?hr ?_;(case hd=>rfl);(case hg=>rfl);(case hr=>first|(go_simp;done)|(go_simp;rfl));intro gb220 hg w7 hbox hb;have n0_:=Aside0.mk (below_step zhb hb);have n1_:=Aside0.mk (hbox);have n2_:=Aside0.mk ((by rw [hg];exact (below_size zhb):w.heap.size≤gb220));have n3_:=Aside0.mk ((by rw [hg];exact (below_size zhb):w.heap.size≤gb220));clear HB;have HB:=n0_;have BK220:=n1_;have GW220:=n2_;have GE220:=n3_;clear n0_ n1_ n2_ n3_;clear hb hbox hg)|((with_reducible refine gate_dst (N:=3) rfl ?_);refine box_event ?hg (N:=3) ?hd (cs:=#[.int .i64 a1_0,.int .i64 a1_1,.int .i64 a1_2,.int .i64 a1_3]) (t:=33) ?hr ?_;(case hd=>rfl);(case hg=>rfl);(case hr=>first|(go_simp;done)|(go_simp;rfl));intro gb221 hg w8 hbox hb;have n0_:=Aside0.mk (blk_below (g:=gb220) (o:=.cells #[.int .i64 a0_0,.int .i64 a0_1,.int .i64 a0_2,.int .i64 a0_3] 33 (0,0)) (by (with_reducible repeat (first|refine blk_drewN ?_ _|refine blk_drew ?_|refine blk_alloc ?_ _));exact BK220.out) hb);have n1_:=Aside0.mk (below_step (by repeat (first|(with_reducible first|exact HB.out|apply below_alloc|apply pw_below_drewN|apply below_drew1|refine below_set ?_ GE220.out)|exact HB.out)) hb);have n2_:=Aside0.mk (hbox);have n3_:=Aside0.mk ((by rw [hg];exact (below_size (by repeat (first|(with_reducible first|exact HB.out|apply below_alloc|apply pw_below_drewN|apply below_drew1|refine below_set ?_ GE220.out)|exact HB.out))):w.heap.size≤gb221));have n4_:=Aside0.mk ((by rw [hg];exact (below_size (by repeat (first|(with_reducible first|exact HB.out|apply below_alloc|apply pw_below_drewN|apply below_drew1|refine below_set ?_ GE220.out)|exact HB.out))):w.heap.size≤gb221));have n5_:=Aside0.mk ((by rw [hg];exact Nat.ne_of_lt (blk_lt (g:=gb220) (o:=.cells #[.int .i64 a0_0,.int .i64 a0_1,.int .i64 a0_2,.int .i64 a0_3] 33 (0,0)) (by (with_reducible repeat (first|refine blk_drewN ?_ _|refine blk_drew ?_|refine blk_alloc ?_ _));exact BK220.out)):gb220≠gb221));have n6_:=Aside0.mk ((by rw [hg];exact Nat.ne_of_gt (blk_lt (g:=gb220) (o:=.cells #[.int .i64 a0_0,.int .i64 a0_1,.int .i64 a0_2,.int .i64 a0_3] 33 (0,0)) (by (with_reducible repeat (first|refine blk_drewN ?_ _|refine blk_drew ?_|refine blk_alloc ?_ _));exact BK220.out)):gb221≠gb220));clear BK220;clear HB;have BK220:=n0_;have HB:=n1_;have BK221:=n2_;have GW221:=n3_;have GE221:=n4_;have NB220_221:=n5_;have NB221_220:=n6_;clear n0_ n1_ n2_ n3_ n4_ n5_ n6_;clear hb hbox hg;have hnb9:=NB220_221.out;have hnc9:=NB221_220.out;have hcz10_0:w8.cell? ⟨gb220,0,none⟩=some (.int .i64 a0_0):=(blk_cell BK220.out 0).trans rfl;have hcz10_1:w8.cell? ⟨gb220,1,none⟩=some (.int .i64 a0_1):=(blk_cell BK220.out 1).trans rfl;have hcz10_2:w8.cell? ⟨gb220,2,none⟩=some (.int .i64 a0_2):=(blk_cell BK220.out 2).trans rfl;have hcz10_3:w8.cell? ⟨gb220,3,none⟩=some (.int .i64 a0_3):=(blk_cell BK220.out 3).trans rfl;have hfz10_0:=blk_frozen BK220.out 0;have hfz10_1:=blk_frozen BK220.out 1;have hfz10_2:=blk_frozen BK220.out 2;have hfz10_3:=blk_frozen BK220.out 3;have hcz11_0:w8.cell? ⟨gb221,0,none⟩=some (.int .i64 a1_0):=(blk_cell BK221.out 0).trans rfl;have hcz11_1:w8.cell? ⟨gb221,1,none⟩=some (.int .i64 a1_1):=(blk_cell BK221.out 1).trans rfl;have hcz11_2:w8.cell? ⟨gb221,2,none⟩=some (.int .i64 a1_2):=(blk_cell BK221.out 2).trans rfl;have hcz11_3:w8.cell? ⟨gb221,3,none⟩=some (.int .i64 a1_3):=(blk_cell BK221.out 3).trans rfl;have hfz11_0:=blk_frozen BK221.out 0;have hfz11_1:=blk_frozen BK221.out 1;have hfz11_2:=blk_frozen BK221.out 2;have hfz11_3:=blk_frozen BK221.out 3))
     go_ret
     exact ⟨by first|rfl|(simp [errW_none,errW_some] <;> rfl)|(simp [*,errW_none,errW_some] <;> rfl),by repeat (first|(with_reducible first|exact HB.out|apply below_alloc|apply pw_below_drewN|apply below_drew1|refine below_set ?_ GE220.out|refine below_set ?_ GE221.out)|exact HB.out)⟩
    ·rw [if_neg c6] at H
     have c6b0:(a0_3 == a1_3)=false:=beq_eq_false_iff_ne.mpr c6
     have c6b1:(a0_3 != a1_3)=true:=bne_iff_ne.mpr c6
     obtain rfl:=Option.some.inj H
     go_enter Try.func43,Try.ntmps43
     go_wp2_with (first|((with_reducible refine gate_dst (N:=2) rfl ?_);refine box_event ?hg (N:=2) ?hd (cs:=#[.int .i64 a0_0,.int .i64 a0_1,.int .i64 a0_2,.int .i64 a0_3]) (t:=33) ?hr ?_;(case hd=>rfl);(case hg=>rfl);(case hr=>first|(go_simp;done)|(go_simp;rfl));intro gb220 hg w12 hbox hb;have n0_:=Aside0.mk (below_step zhb hb);have n1_:=Aside0.mk (hbox);have n2_:=Aside0.mk ((by rw [hg];exact (below_size zhb):w.heap.size≤gb220));have n3_:=Aside0.mk ((by rw [hg];exact (below_size zhb):w.heap.size≤gb220));clear HB;have HB:=n0_;have BK220:=n1_;have GW220:=n2_;have GE220:=n3_;clear n0_ n1_ n2_ n3_;clear hb hbox hg)|((with_reducible refine gate_dst (N:=3) rfl ?_);refine box_event ?hg (N:=3) ?hd (cs:=#[.int .i64 a1_0,.int .i64 a1_1,.int .i64 a1_2,.int .i64 a1_3]) (t:=33) ?hr ?_;(case hd=>rfl);(case hg=>rfl);(case hr=>first|(go_simp;done)|(go_simp;rfl));intro gb221 hg w13 hbox hb;have n0_:=Aside0.mk (blk_below (g:=gb220) (o:=.cells #[.int .i64 a0_0,.int .i64 a0_1,.int .i64 a0_2,.int .i64 a0_3] 33 (0,0)) (by (with_reducible repeat (first|refine blk_drewN ?_ _|refine blk_drew ?_|refine blk_alloc ?_ _));exact BK220.out) hb);have n1_:=Aside0.mk (below_step (by repeat (first|(with_reducible first|exact HB.out|apply below_alloc|apply pw_below_drewN|apply below_drew1|refine below_set ?_ GE220.out)|exact HB.out)) hb);have n2_:=Aside0.mk (hbox);have n3_:=Aside0.mk ((by rw [hg];exact (below_size (by repeat (first|(with_reducible first|exact HB.out|apply below_alloc|apply pw_below_drewN|apply below_drew1|refine below_set ?_ GE220.out)|exact HB.out))):w.heap.size≤gb221));have n4_:=Aside0.mk ((by rw [hg];exact (below_size (by repeat (first|(with_reducible first|exact HB.out|apply below_alloc|apply pw_below_drewN|apply below_drew1|refine below_set ?_ GE220.out)|exact HB.out))):w.heap.size≤gb221));have n5_:=Aside0.mk ((by rw [hg];exact Nat.ne_of_lt (blk_lt (g:=gb220) (o:=.cells #[.int .i64 a0_0,.int .i64 a0_1,.int .i64 a0_2,.int .i64 a0_3] 33 (0,0)) (by (with_reducible repeat (first|refine blk_drewN ?_ _|refine blk_drew ?_|refine blk_alloc ?_ _));exact BK220.out)):gb220≠gb221));have n6_:=Aside0.mk ((by rw [hg];exact Nat.ne_of_gt (blk_lt (g:=gb220) (o:=.cells #[.int .i64 a0_0,.int .i64 a0_1,.int .i64 a0_2,.int .i64 a0_3] 33 (0,0)) (by (with_reducible repeat (first|refine blk_drewN ?_ _|refine blk_drew ?_|refine blk_alloc ?_ _));exact BK220.out)):gb221≠gb220));clear BK220;clear HB;have BK220:=n0_;have HB:=n1_;have BK221:=n2_;have GW221:=n3_;have GE221:=n4_;have NB220_221:=n5_;have NB221_220:=n6_;clear n0_ n1_ n2_ n3_ n4_ n5_ n6_;clear hb hbox hg;have hnb14:=NB220_221.out;have hnc14:=NB221_220.out;have hcz15_0:w13.cell? ⟨gb220,0,none⟩=some (.int .i64 a0_0):=(blk_cell BK220.out 0).trans rfl;have hcz15_1:w13.cell? ⟨gb220,1,none⟩=some (.int .i64 a0_1):=(blk_cell BK220.out 1).trans rfl;have hcz15_2:w13.cell? ⟨gb220,2,none⟩=some (.int .i64 a0_2):=(blk_cell BK220.out 2).trans rfl;have hcz15_3:w13.cell? ⟨gb220,3,none⟩=some (.int .i64 a0_3):=(blk_cell BK220.out 3).trans rfl;have hfz15_0:=blk_frozen BK220.out 0;have hfz15_1:=blk_frozen BK220.out 1;have hfz15_2:=blk_frozen BK220.out 2;have hfz15_3:=blk_frozen BK220.out 3;have hcz16_0:w13.cell? ⟨gb221,0,none⟩=some (.int .i64 a1_0):=(blk_cell BK221.out 0).trans rfl;have hcz16_1:w13.cell? ⟨gb221,1,none⟩=some (.int .i64 a1_1):=(blk_cell BK221.out 1).trans rfl;have hcz16_2:w13.cell? ⟨gb221,2,none⟩=some (.int .i64 a1_2):=(blk_cell BK221.out 2).trans rfl;have hcz16_3:w13.cell? ⟨gb221,3,none⟩=some (.int .i64 a1_3):=(blk_cell BK221.out 3).trans rfl;have hfz16_0:=blk_frozen BK221.out 0;have hfz16_1:=blk_frozen BK221.out 1;have hfz16_2:=blk_frozen BK221.out 2;have hfz16_3:=blk_frozen BK221.out 3))
     go_ret
     exact ⟨by first|rfl|(simp [errW_none,errW_some] <;> rfl)|(simp [*,errW_none,errW_some] <;> rfl),by repeat (first|(with_reducible first|exact HB.out|apply below_alloc|apply pw_below_drewN|apply below_drew1|refine below_set ?_ GE220.out|refine below_set ?_ GE221.out)|exact HB.out)⟩
   ·rw [if_neg c5] at H
    have c5b0:(a0_2 == a1_2)=false:=beq_eq_false_iff_ne.mpr c5
    have c5b1:(a0_2 != a1_2)=true:=bne_iff_ne.mpr c5
    obtain rfl:=Option.some.inj H
    go_enter Try.func43,Try.ntmps43
    go_wp2_with (first|((with_reducible refine gate_dst (N:=2) rfl ?_);refine box_event ?hg (N:=2) ?hd (cs:=#[.int .i64 a0_0,.int .i64 a0_1,.int .i64 a0_2,.int .i64 a0_3]) (t:=33) ?hr ?_;(case hd=>rfl);(case hg=>rfl);(case hr=>first|(go_simp;done)|(go_simp;rfl));intro gb220 hg w17 hbox hb;have n0_:=Aside0.mk (below_step zhb hb);have n1_:=Aside0.mk (hbox);have n2_:=Aside0.mk ((by rw [hg];exact (below_size zhb):w.heap.size≤gb220));have n3_:=Aside0.mk ((by rw [hg];exact (below_size zhb):w.heap.size≤gb220));clear HB;have HB:=n0_;have BK220:=n1_;have GW220:=n2_;have GE220:=n3_;clear n0_ n1_ n2_ n3_;clear hb hbox hg)|((with_reducible refine gate_dst (N:=3) rfl ?_);refine box_event ?hg (N:=3) ?hd (cs:=#[.int .i64 a1_0,.int .i64 a1_1,.int .i64 a1_2,.int .i64 a1_3]) (t:=33) ?hr ?_;(case hd=>rfl);(case hg=>rfl);(case hr=>first|(go_simp;done)|(go_simp;rfl));intro gb221 hg w18 hbox hb;have n0_:=Aside0.mk (blk_below (g:=gb220) (o:=.cells #[.int .i64 a0_0,.int .i64 a0_1,.int .i64 a0_2,.int .i64 a0_3] 33 (0,0)) (by (with_reducible repeat (first|refine blk_drewN ?_ _|refine blk_drew ?_|refine blk_alloc ?_ _));exact BK220.out) hb);have n1_:=Aside0.mk (below_step (by repeat (first|(with_reducible first|exact HB.out|apply below_alloc|apply pw_below_drewN|apply below_drew1|refine below_set ?_ GE220.out)|exact HB.out)) hb);have n2_:=Aside0.mk (hbox);have n3_:=Aside0.mk ((by rw [hg];exact (below_size (by repeat (first|(with_reducible first|exact HB.out|apply below_alloc|apply pw_below_drewN|apply below_drew1|refine below_set ?_ GE220.out)|exact HB.out))):w.heap.size≤gb221));have n4_:=Aside0.mk ((by rw [hg];exact (below_size (by repeat (first|(with_reducible first|exact HB.out|apply below_alloc|apply pw_below_drewN|apply below_drew1|refine below_set ?_ GE220.out)|exact HB.out))):w.heap.size≤gb221));have n5_:=Aside0.mk ((by rw [hg];exact Nat.ne_of_lt (blk_lt (g:=gb220) (o:=.cells #[.int .i64 a0_0,.int .i64 a0_1,.int .i64 a0_2,.int .i64 a0_3] 33 (0,0)) (by (with_reducible repeat (first|refine blk_drewN ?_ _|refine blk_drew ?_|refine blk_alloc ?_ _));exact BK220.out)):gb220≠gb221));have n6_:=Aside0.mk ((by rw [hg];exact Nat.ne_of_gt (blk_lt (g:=gb220) (o:=.cells #[.int .i64 a0_0,.int .i64 a0_1,.int .i64 a0_2,.int .i64 a0_3] 33 (0,0)) (by (with_reducible repeat (first|refine blk_drewN ?_ _|refine blk_drew ?_|refine blk_alloc ?_ _));exact BK220.out)):gb221≠gb220));clear BK220;clear HB;have BK220:=n0_;have HB:=n1_;have BK221:=n2_;have GW221:=n3_;have GE221:=n4_;have NB220_221:=n5_;have NB221_220:=n6_;clear n0_ n1_ n2_ n3_ n4_ n5_ n6_;clear hb hbox hg;have hnb19:=NB220_221.out;have hnc19:=NB221_220.out;have hcz20_0:w18.cell? ⟨gb220,0,none⟩=some (.int .i64 a0_0):=(blk_cell BK220.out 0).trans rfl;have hcz20_1:w18.cell? ⟨gb220,1,none⟩=some (.int .i64 a0_1):=(blk_cell BK220.out 1).trans rfl;have hcz20_2:w18.cell? ⟨gb220,2,none⟩=some (.int .i64 a0_2):=(blk_cell BK220.out 2).trans rfl;have hcz20_3:w18.cell? ⟨gb220,3,none⟩=some (.int .i64 a0_3):=(blk_cell BK220.out 3).trans rfl;have hfz20_0:=blk_frozen BK220.out 0;have hfz20_1:=blk_frozen BK220.out 1;have hfz20_2:=blk_frozen BK220.out 2;have hfz20_3:=blk_frozen BK220.out 3;have hcz21_0:w18.cell? ⟨gb221,0,none⟩=some (.int .i64 a1_0):=(blk_cell BK221.out 0).trans rfl;have hcz21_1:w18.cell? ⟨gb221,1,none⟩=some (.int .i64 a1_1):=(blk_cell BK221.out 1).trans rfl;have hcz21_2:w18.cell? ⟨gb221,2,none⟩=some (.int .i64 a1_2):=(blk_cell BK221.out 2).trans rfl;have hcz21_3:w18.cell? ⟨gb221,3,none⟩=some (.int .i64 a1_3):=(blk_cell BK221.out 3).trans rfl;have hfz21_0:=blk_frozen BK221.out 0;have hfz21_1:=blk_frozen BK221.out 1;have hfz21_2:=blk_frozen BK221.out 2;have hfz21_3:=blk_frozen BK221.out 3))
    go_ret
    exact ⟨by first|rfl|(simp [errW_none,errW_some] <;> rfl)|(simp [*,errW_none,errW_some] <;> rfl),by repeat (first|(with_reducible first|exact HB.out|apply below_alloc|apply pw_below_drewN|apply below_drew1|refine below_set ?_ GE220.out|refine below_set ?_ GE221.out)|exact HB.out)⟩
  ·rw [if_neg c4] at H
   have c4b0:(a0_1 == a1_1)=false:=beq_eq_false_iff_ne.mpr c4
   have c4b1:(a0_1 != a1_1)=true:=bne_iff_ne.mpr c4
   obtain rfl:=Option.some.inj H
   go_enter Try.func43,Try.ntmps43
   go_wp2_with (first|((with_reducible refine gate_dst (N:=2) rfl ?_);refine box_event ?hg (N:=2) ?hd (cs:=#[.int .i64 a0_0,.int .i64 a0_1,.int .i64 a0_2,.int .i64 a0_3]) (t:=33) ?hr ?_;(case hd=>rfl);(case hg=>rfl);(case hr=>first|(go_simp;done)|(go_simp;rfl));intro gb220 hg w22 hbox hb;have n0_:=Aside0.mk (below_step zhb hb);have n1_:=Aside0.mk (hbox);have n2_:=Aside0.mk ((by rw [hg];exact (below_size zhb):w.heap.size≤gb220));have n3_:=Aside0.mk ((by rw [hg];exact (below_size zhb):w.heap.size≤gb220));clear HB;have HB:=n0_;have BK220:=n1_;have GW220:=n2_;have GE220:=n3_;clear n0_ n1_ n2_ n3_;clear hb hbox hg)|((with_reducible refine gate_dst (N:=3) rfl ?_);refine box_event ?hg (N:=3) ?hd (cs:=#[.int .i64 a1_0,.int .i64 a1_1,.int .i64 a1_2,.int .i64 a1_3]) (t:=33) ?hr ?_;(case hd=>rfl);(case hg=>rfl);(case hr=>first|(go_simp;done)|(go_simp;rfl));intro gb221 hg w23 hbox hb;have n0_:=Aside0.mk (blk_below (g:=gb220) (o:=.cells #[.int .i64 a0_0,.int .i64 a0_1,.int .i64 a0_2,.int .i64 a0_3] 33 (0,0)) (by (with_reducible repeat (first|refine blk_drewN ?_ _|refine blk_drew ?_|refine blk_alloc ?_ _));exact BK220.out) hb);have n1_:=Aside0.mk (below_step (by repeat (first|(with_reducible first|exact HB.out|apply below_alloc|apply pw_below_drewN|apply below_drew1|refine below_set ?_ GE220.out)|exact HB.out)) hb);have n2_:=Aside0.mk (hbox);have n3_:=Aside0.mk ((by rw [hg];exact (below_size (by repeat (first|(with_reducible first|exact HB.out|apply below_alloc|apply pw_below_drewN|apply below_drew1|refine below_set ?_ GE220.out)|exact HB.out))):w.heap.size≤gb221));have n4_:=Aside0.mk ((by rw [hg];exact (below_size (by repeat (first|(with_reducible first|exact HB.out|apply below_alloc|apply pw_below_drewN|apply below_drew1|refine below_set ?_ GE220.out)|exact HB.out))):w.heap.size≤gb221));have n5_:=Aside0.mk ((by rw [hg];exact Nat.ne_of_lt (blk_lt (g:=gb220) (o:=.cells #[.int .i64 a0_0,.int .i64 a0_1,.int .i64 a0_2,.int .i64 a0_3] 33 (0,0)) (by (with_reducible repeat (first|refine blk_drewN ?_ _|refine blk_drew ?_|refine blk_alloc ?_ _));exact BK220.out)):gb220≠gb221));have n6_:=Aside0.mk ((by rw [hg];exact Nat.ne_of_gt (blk_lt (g:=gb220) (o:=.cells #[.int .i64 a0_0,.int .i64 a0_1,.int .i64 a0_2,.int .i64 a0_3] 33 (0,0)) (by (with_reducible repeat (first|refine blk_drewN ?_ _|refine blk_drew ?_|refine blk_alloc ?_ _));exact BK220.out)):gb221≠gb220));clear BK220;clear HB;have BK220:=n0_;have HB:=n1_;have BK221:=n2_;have GW221:=n3_;have GE221:=n4_;have NB220_221:=n5_;have NB221_220:=n6_;clear n0_ n1_ n2_ n3_ n4_ n5_ n6_;clear hb hbox hg;have hnb24:=NB220_221.out;have hnc24:=NB221_220.out;have hcz25_0:w23.cell? ⟨gb220,0,none⟩=some (.int .i64 a0_0):=(blk_cell BK220.out 0).trans rfl;have hcz25_1:w23.cell? ⟨gb220,1,none⟩=some (.int .i64 a0_1):=(blk_cell BK220.out 1).trans rfl;have hcz25_2:w23.cell? ⟨gb220,2,none⟩=some (.int .i64 a0_2):=(blk_cell BK220.out 2).trans rfl;have hcz25_3:w23.cell? ⟨gb220,3,none⟩=some (.int .i64 a0_3):=(blk_cell BK220.out 3).trans rfl;have hfz25_0:=blk_frozen BK220.out 0;have hfz25_1:=blk_frozen BK220.out 1;have hfz25_2:=blk_frozen BK220.out 2;have hfz25_3:=blk_frozen BK220.out 3;have hcz26_0:w23.cell? ⟨gb221,0,none⟩=some (.int .i64 a1_0):=(blk_cell BK221.out 0).trans rfl;have hcz26_1:w23.cell? ⟨gb221,1,none⟩=some (.int .i64 a1_1):=(blk_cell BK221.out 1).trans rfl;have hcz26_2:w23.cell? ⟨gb221,2,none⟩=some (.int .i64 a1_2):=(blk_cell BK221.out 2).trans rfl;have hcz26_3:w23.cell? ⟨gb221,3,none⟩=some (.int .i64 a1_3):=(blk_cell BK221.out 3).trans rfl;have hfz26_0:=blk_frozen BK221.out 0;have hfz26_1:=blk_frozen BK221.out 1;have hfz26_2:=blk_frozen BK221.out 2;have hfz26_3:=blk_frozen BK221.out 3))
   go_ret
   exact ⟨by first|rfl|(simp [errW_none,errW_some] <;> rfl)|(simp [*,errW_none,errW_some] <;> rfl),by repeat (first|(with_reducible first|exact HB.out|apply below_alloc|apply pw_below_drewN|apply below_drew1|refine below_set ?_ GE220.out|refine below_set ?_ GE221.out)|exact HB.out)⟩
 ·rw [if_neg c3] at H
  have c3b0:(a0_0 == a1_0)=false:=beq_eq_false_iff_ne.mpr c3
  have c3b1:(a0_0 != a1_0)=true:=bne_iff_ne.mpr c3
  obtain rfl:=Option.some.inj H
  go_enter Try.func43,Try.ntmps43
  go_wp2_with (first|((with_reducible refine gate_dst (N:=2) rfl ?_);refine box_event ?hg (N:=2) ?hd (cs:=#[.int .i64 a0_0,.int .i64 a0_1,.int .i64 a0_2,.int .i64 a0_3]) (t:=33) ?hr ?_;(case hd=>rfl);(case hg=>rfl);(case hr=>first|(go_simp;done)|(go_simp;rfl));intro gb220 hg w27 hbox hb;have n0_:=Aside0.mk (below_step zhb hb);have n1_:=Aside0.mk (hbox);have n2_:=Aside0.mk ((by rw [hg];exact (below_size zhb):w.heap.size≤gb220));have n3_:=Aside0.mk ((by rw [hg];exact (below_size zhb):w.heap.size≤gb220));clear HB;have HB:=n0_;have BK220:=n1_;have GW220:=n2_;have GE220:=n3_;clear n0_ n1_ n2_ n3_;clear hb hbox hg)|((with_reducible refine gate_dst (N:=3) rfl ?_);refine box_event ?hg (N:=3) ?hd (cs:=#[.int .i64 a1_0,.int .i64 a1_1,.int .i64 a1_2,.int .i64 a1_3]) (t:=33) ?hr ?_;(case hd=>rfl);(case hg=>rfl);(case hr=>first|(go_simp;done)|(go_simp;rfl));intro gb221 hg w28 hbox hb;have n0_:=Aside0.mk (blk_below (g:=gb220) (o:=.cells #[.int .i64 a0_0,.int .i64 a0_1,.int .i64 a0_2,.int .i64 a0_3] 33 (0,0)) (by (with_reducible repeat (first|refine blk_drewN ?_ _|refine blk_drew ?_|refine blk_alloc ?_ _));exact BK220.out) hb);have n1_:=Aside0.mk (below_step (by repeat (first|(with_reducible first|exact HB.out|apply below_alloc|apply pw_below_drewN|apply below_drew1|refine below_set ?_ GE220.out)|exact HB.out)) hb);have n2_:=Aside0.mk (hbox);have n3_:=Aside0.mk ((by rw [hg];exact (below_size (by repeat (first|(with_reducible first|exact HB.out|apply below_alloc|apply pw_below_drewN|apply below_drew1|refine below_set ?_ GE220.out)|exact HB.out))):w.heap.size≤gb221));have n4_:=Aside0.mk ((by rw [hg];exact (below_size (by repeat (first|(with_reducible first|exact HB.out|apply below_alloc|apply pw_below_drewN|apply below_drew1|refine below_set ?_ GE220.out)|exact HB.out))):w.heap.size≤gb221));have n5_:=Aside0.mk ((by rw [hg];exact Nat.ne_of_lt (blk_lt (g:=gb220) (o:=.cells #[.int .i64 a0_0,.int .i64 a0_1,.int .i64 a0_2,.int .i64 a0_3] 33 (0,0)) (by (with_reducible repeat (first|refine blk_drewN ?_ _|refine blk_drew ?_|refine blk_alloc ?_ _));exact BK220.out)):gb220≠gb221));have n6_:=Aside0.mk ((by rw [hg];exact Nat.ne_of_gt (blk_lt (g:=gb220) (o:=.cells #[.int .i64 a0_0,.int .i64 a0_1,.int .i64 a0_2,.int .i64 a0_3] 33 (0,0)) (by (with_reducible repeat (first|refine blk_drewN ?_ _|refine blk_drew ?_|refine blk_alloc ?_ _));exact BK220.out)):gb221≠gb220));clear BK220;clear HB;have BK220:=n0_;have HB:=n1_;have BK221:=n2_;have GW221:=n3_;have GE221:=n4_;have NB220_221:=n5_;have NB221_220:=n6_;clear n0_ n1_ n2_ n3_ n4_ n5_ n6_;clear hb hbox hg;have hnb29:=NB220_221.out;have hnc29:=NB221_220.out;have hcz30_0:w28.cell? ⟨gb220,0,none⟩=some (.int .i64 a0_0):=(blk_cell BK220.out 0).trans rfl;have hcz30_1:w28.cell? ⟨gb220,1,none⟩=some (.int .i64 a0_1):=(blk_cell BK220.out 1).trans rfl;have hcz30_2:w28.cell? ⟨gb220,2,none⟩=some (.int .i64 a0_2):=(blk_cell BK220.out 2).trans rfl;have hcz30_3:w28.cell? ⟨gb220,3,none⟩=some (.int .i64 a0_3):=(blk_cell BK220.out 3).trans rfl;have hfz30_0:=blk_frozen BK220.out 0;have hfz30_1:=blk_frozen BK220.out 1;have hfz30_2:=blk_frozen BK220.out 2;have hfz30_3:=blk_frozen BK220.out 3;have hcz31_0:w28.cell? ⟨gb221,0,none⟩=some (.int .i64 a1_0):=(blk_cell BK221.out 0).trans rfl;have hcz31_1:w28.cell? ⟨gb221,1,none⟩=some (.int .i64 a1_1):=(blk_cell BK221.out 1).trans rfl;have hcz31_2:w28.cell? ⟨gb221,2,none⟩=some (.int .i64 a1_2):=(blk_cell BK221.out 2).trans rfl;have hcz31_3:w28.cell? ⟨gb221,3,none⟩=some (.int .i64 a1_3):=(blk_cell BK221.out 3).trans rfl;have hfz31_0:=blk_frozen BK221.out 0;have hfz31_1:=blk_frozen BK221.out 1;have hfz31_2:=blk_frozen BK221.out 2;have hfz31_3:=blk_frozen BK221.out 3))
  go_ret
  exact ⟨by first|rfl|(simp [errW_none,errW_some] <;> rfl)|(simp [*,errW_none,errW_some] <;> rfl),by repeat (first|(with_reducible first|exact HB.out|apply below_alloc|apply pw_below_drewN|apply below_drew1|refine below_set ?_ GE220.out|refine below_set ?_ GE221.out)|exact HB.out)⟩

/-! ### laws_eqTest: function 27 -/
def laws_eqTest.f (a0_0:Int) (a0_1:Bool) (a0_2:Int) (a0_3:Int) (a0_4:Int) (a0_5:Int) (a0_6:Int) (a0_7:Int) (a0_8:Int) (a0_9:Int) (a1_0:Int) (a1_1:Bool) (a1_2:Int) (a1_3:Int) (a1_4:Int) (a1_5:Int) (a1_6:Int) (a1_7:Int) (a1_8:Int) (a1_9:Int):Option (Bool):=if a0_0=a1_0 then (if (a0_1 != a1_1)=true then (some false) else ((laws_eqCell.f a0_2 a0_3 a0_4 a0_5 a1_2 a1_3 a1_4 a1_5).bind fun t224=>(if t224=true then ((laws_eqCell.f a0_6 a0_7 a0_8 a0_9 a1_6 a1_7 a1_8 a1_9).bind fun t225=>(if t225=true then (some true) else (some false))) else (some false)))) else (some false)
set_option maxHeartbeats 8000000 in
set_option maxRecDepth 100000 in
theorem laws_eqTest.calls (a0_0:Int) (a0_1:Bool) (a0_2:Int) (a0_3:Int) (a0_4:Int) (a0_5:Int) (a0_6:Int) (a0_7:Int) (a0_8:Int) (a0_9:Int) (a1_0:Int) (a1_1:Bool) (a1_2:Int) (a1_3:Int) (a1_4:Int) (a1_5:Int) (a1_6:Int) (a1_7:Int) (a1_8:Int) (a1_9:Int) (r:Bool) (w:World) (h:laws_eqTest.f a0_0 a0_1 a0_2 a0_3 a0_4 a0_5 a0_6 a0_7 a0_8 a0_9 a1_0 a1_1 a1_2 a1_3 a1_4 a1_5 a1_6 a1_7 a1_8 a1_9=some r) :
  Calls Try.prog 27 #[.agg #[.int .i64 a0_0,.bool a0_1,.int .i64 a0_2,.int .i64 a0_3,.int .i64 a0_4,.int .i64 a0_5,.int .i64 a0_6,.int .i64 a0_7,.int .i64 a0_8,.int .i64 a0_9],.agg #[.int .i64 a1_0,.bool a1_1,.int .i64 a1_2,.int .i64 a1_3,.int .i64 a1_4,.int .i64 a1_5,.int .i64 a1_6,.int .i64 a1_7,.int .i64 a1_8,.int .i64 a1_9]] w fun e w'=>e=.returned (.bool r)∧Below w.heap.size w w':=by
 have hu35:=Try.underlying35
 have hu33:=Try.underlying33
 have HB:=Aside0.mk (Below.refl w.heap.size w)
 have H:(if a0_0=a1_0 then (if (a0_1 != a1_1)=true then (some false) else ((laws_eqCell.f a0_2 a0_3 a0_4 a0_5 a1_2 a1_3 a1_4 a1_5).bind fun t224=>(if t224=true then ((laws_eqCell.f a0_6 a0_7 a0_8 a0_9 a1_6 a1_7 a1_8 a1_9).bind fun t225=>(if t225=true then (some true) else (some false))) else (some false)))) else (some false))=some r:=h
 clear h
 by_cases c3:a0_0=a1_0
 ·rw [if_pos c3] at H
  have c3b0:(a0_0 == a1_0)=true:=beq_iff_eq.mpr c3
  have c3b1:(a0_0 != a1_0)=false:=bne_eq_false_iff_eq.mpr c3
  clear c3
  by_cases c4:(a0_1 != a1_1)=true
  ·rw [if_pos c4] at H
   have c4b0:(a0_1 != a1_1)=true:=c4
   (try (have c4b1:decide (a0_1=a1_1)=false:=by simpa using c4))
   (try (have c4b2:(a0_1 == a1_1)=false:=by simpa using c4))
   (try (have c4b3 : ¬ (a0_1=a1_1):=by simpa using c4))
   clear c4
   obtain rfl:=Option.some.inj H
   go_enter Try.func27,Try.ntmps27
   go_wp2_with (first|((with_reducible refine gate_dst (N:=2) rfl ?_);refine box_event ?hg (N:=2) ?hd (cs:=#[.int .i64 a0_0,.bool a0_1,.int .i64 a0_2,.int .i64 a0_3,.int .i64 a0_4,.int .i64 a0_5,.int .i64 a0_6,.int .i64 a0_7,.int .i64 a0_8,.int .i64 a0_9]) (t:=35) ?hr ?_;(case hd=>rfl);(case hg=>rfl);(case hr=>first|(go_simp;done)|(go_simp;rfl));intro gb222 hg w5 hbox hb;have n0_:=Aside0.mk (below_step zhb hb);have n1_:=Aside0.mk (hbox);have n2_:=Aside0.mk ((by rw [hg];exact (below_size zhb):w.heap.size≤gb222));have n3_:=Aside0.mk ((by rw [hg];exact (below_size zhb):w.heap.size≤gb222));clear HB;have HB:=n0_;have BK222:=n1_;have GW222:=n2_;have GE222:=n3_;clear n0_ n1_ n2_ n3_;clear hb hbox hg)|((with_reducible refine gate_dst (N:=3) rfl ?_);refine box_event ?hg (N:=3) ?hd (cs:=#[.int .i64 a1_0,.bool a1_1,.int .i64 a1_2,.int .i64 a1_3,.int .i64 a1_4,.int .i64 a1_5,.int .i64 a1_6,.int .i64 a1_7,.int .i64 a1_8,.int .i64 a1_9]) (t:=35) ?hr ?_;(case hd=>rfl);(case hg=>rfl);(case hr=>first|(go_simp;done)|(go_simp;rfl));intro gb223 hg w6 hbox hb;have n0_:=Aside0.mk (blk_below (g:=gb222) (o:=.cells #[.int .i64 a0_0,.bool a0_1,.int .i64 a0_2,.int .i64 a0_3,.int .i64 a0_4,.int .i64 a0_5,.int .i64 a0_6,.int .i64 a0_7,.int .i64 a0_8,.int .i64 a0_9] 35 (0,0)) (by (with_reducible repeat (first|refine blk_drewN ?_ _|refine blk_drew ?_|refine blk_alloc ?_ _));exact BK222.out) hb);have n1_:=Aside0.mk (below_step (by repeat (first|(with_reducible first|exact HB.out|apply below_alloc|apply pw_below_drewN|apply below_drew1|refine below_set ?_ GE222.out)|exact HB.out)) hb);have n2_:=Aside0.mk (hbox);have n3_:=Aside0.mk ((by rw [hg];exact (below_size (by repeat (first|(with_reducible first|exact HB.out|apply below_alloc|apply pw_below_drewN|apply below_drew1|refine below_set ?_ GE222.out)|exact HB.out))):w.heap.size≤gb223));have n4_:=Aside0.mk ((by rw [hg];exact (below_size (by repeat (first|(with_reducible first|exact HB.out|apply below_alloc|apply pw_below_drewN|apply below_drew1|refine below_set ?_ GE222.out)|exact HB.out))):w.heap.size≤gb223));have n5_:=Aside0.mk ((by rw [hg];exact Nat.ne_of_lt (blk_lt (g:=gb222) (o:=.cells #[.int .i64 a0_0,.bool a0_1,.int .i64 a0_2,.int .i64 a0_3,.int .i64 a0_4,.int .i64 a0_5,.int .i64 a0_6,.int .i64 a0_7,.int .i64 a0_8,.int .i64 a0_9] 35 (0,0)) (by (with_reducible repeat (first|refine blk_drewN ?_ _|refine blk_drew ?_|refine blk_alloc ?_ _));exact BK222.out)):gb222≠gb223));have n6_:=Aside0.mk ((by rw [hg];exact Nat.ne_of_gt (blk_lt (g:=gb222) (o:=.cells #[.int .i64 a0_0,.bool a0_1,.int .i64 a0_2,.int .i64 a0_3,.int .i64 a0_4,.int .i64 a0_5,.int .i64 a0_6,.int .i64 a0_7,.int .i64 a0_8,.int .i64 a0_9] 35 (0,0)) (by (with_reducible repeat (first|refine blk_drewN ?_ _|refine blk_drew ?_|refine blk_alloc ?_ _));exact BK222.out)):gb223≠gb222));clear BK222;clear HB;have BK222:=n0_;have HB:=n1_;have BK223:=n2_;have GW223:=n3_;have GE223:=n4_;have NB222_223:=n5_;have NB223_222:=n6_;clear n0_ n1_ n2_ n3_ n4_ n5_ n6_;clear hb hbox hg;have hnb7:=NB222_223.out;have hnc7:=NB223_222.out;have hcz8_0:w6.cell? ⟨gb222,0,none⟩=some (.int .i64 a0_0):=(blk_cell BK222.out 0).trans rfl;have hcz8_1:w6.cell? ⟨gb222,1,none⟩=some (.bool a0_1):=(blk_cell BK222.out 1).trans rfl;have hcz8_2:w6.cell? ⟨gb222,2,none⟩=some (.int .i64 a0_2):=(blk_cell BK222.out 2).trans rfl;have hcz8_3:w6.cell? ⟨gb222,3,none⟩=some (.int .i64 a0_3):=(blk_cell BK222.out 3).trans rfl;have hcz8_4:w6.cell? ⟨gb222,4,none⟩=some (.int .i64 a0_4):=(blk_cell BK222.out 4).trans rfl;have hcz8_5:w6.cell? ⟨gb222,5,none⟩=some (.int .i64 a0_5):=(blk_cell BK222.out 5).trans rfl;have hcz8_6:w6.cell? ⟨gb222,6,none⟩=some (.int .i64 a0_6):=(blk_cell BK222.out 6).trans rfl;have hcz8_7:w6.cell? ⟨gb222,7,none⟩=some (.int .i64 a0_7):=(blk_cell BK222.out 7).trans rfl;have hcz8_8:w6.cell? ⟨gb222,8,none⟩=some (.int .i64 a0_8):=(blk_cell BK222.out 8).trans rfl;have hcz8_9:w6.cell? ⟨gb222,9,none⟩=some (.int .i64 a0_9):=(blk_cell BK222.out 9).trans rfl;have hfz8_0:=blk_frozen BK222.out 0;have hfz8_1:=blk_frozen BK222.out 1;have hfz8_2:=blk_frozen BK222.out 2;have hfz8_3:=blk_frozen BK222.out 3;have hfz8_4:=blk_frozen BK222.out 4;have hfz8_5:=blk_frozen BK222.out 5;have hfz8_6:=blk_frozen BK222.out 6;have hfz8_7:=blk_frozen BK222.out 7;have hfz8_8:=blk_frozen BK222.out 8;have hfz8_9:=blk_frozen BK222.out 9;have hcz9_0:w6.cell? ⟨gb223,0,none⟩=some (.int .i64 a1_0):=(blk_cell BK223.out 0).trans rfl;have hcz9_1:w6.cell? ⟨gb223,1,none⟩=some (.bool a1_1):=(blk_cell BK223.out 1).trans rfl;have hcz9_2:w6.cell? ⟨gb223,2,none⟩=some (.int .i64 a1_2):=(blk_cell BK223.out 2).trans rfl;have hcz9_3:w6.cell? ⟨gb223,3,none⟩=some (.int .i64 a1_3):=(blk_cell BK223.out 3).trans rfl;have hcz9_4:w6.cell? ⟨gb223,4,none⟩=some (.int .i64 a1_4):=(blk_cell BK223.out 4).trans rfl;have hcz9_5:w6.cell? ⟨gb223,5,none⟩=some (.int .i64 a1_5):=(blk_cell BK223.out 5).trans rfl;have hcz9_6:w6.cell? ⟨gb223,6,none⟩=some (.int .i64 a1_6):=(blk_cell BK223.out 6).trans rfl;have hcz9_7:w6.cell? ⟨gb223,7,none⟩=some (.int .i64 a1_7):=(blk_cell BK223.out 7).trans rfl;have hcz9_8:w6.cell? ⟨gb223,8,none⟩=some (.int .i64 a1_8):=(blk_cell BK223.out 8).trans rfl;have hcz9_9:w6.cell? ⟨gb223,9,none⟩=some (.int .i64 a1_9):=(blk_cell BK223.out 9).trans rfl;have hfz9_0:=blk_frozen BK223.out 0;have hfz9_1:=blk_frozen BK223.out 1;have hfz9_2:=blk_frozen BK223.out 2;have hfz9_3:=blk_frozen BK223.out 3;have hfz9_4:=blk_frozen BK223.out 4;have hfz9_5:=blk_frozen BK223.out 5;have hfz9_6:=blk_frozen BK223.out 6;have hfz9_7:=blk_frozen BK223.out 7;have hfz9_8:=blk_frozen BK223.out 8;have hfz9_9:=blk_frozen BK223.out 9))
   go_ret
   exact ⟨by first|rfl|(simp [errW_none,errW_some] <;> rfl)|(simp [*,errW_none,errW_some] <;> rfl),by repeat (first|(with_reducible first|exact HB.out|apply below_alloc|apply pw_below_drewN|apply below_drew1|refine below_set ?_ GE222.out|refine below_set ?_ GE223.out)|exact HB.out)⟩
  ·rw [if_neg c4] at H
   have c4b0:(a0_1 != a1_1)=false:=by simpa using c4
   (try (have c4b1:decide (a0_1=a1_1)=true:=by simpa using c4))
   (try (have c4b2:(a0_1 == a1_1)=true:=by simpa using c4))
   clear c4
   replace H:=Option.bind_eq_some_iff.mp H
   obtain ⟨t224,A100,H⟩:=H
   (try dsimp only at H)
   have A10:=Aside0.mk A100
   clear A100
   by_cases c11:t224=true
   ·subst c11
    have H1:((laws_eqCell.f a0_6 a0_7 a0_8 a0_9 a1_6 a1_7 a1_8 a1_9).bind fun t225=>(if t225=true then (some true) else (some false)))=some r:=by rw [if_pos rfl] at H;exact H
    clear H
    have H:=H1
    clear H1
    replace H:=Option.bind_eq_some_iff.mp H
    obtain ⟨t225,A120,H⟩:=H
    (try dsimp only at H)
    have A12:=Aside0.mk A120
    clear A120
    by_cases c13:t225=true
    ·subst c13
     have H1:(some true)=some r:=by rw [if_pos rfl] at H;exact H
     clear H
     have H:=H1
     clear H1
     obtain rfl:=Option.some.inj H
     go_enter Try.func27,Try.ntmps27
     go_wp2_with (first|((with_reducible refine gate_dst (N:=2) rfl ?_);refine box_event ?hg (N:=2) ?hd (cs:=#[.int .i64 a0_0,.bool a0_1,.int .i64 a0_2,.int .i64 a0_3,.int .i64 a0_4,.int .i64 a0_5,.int .i64 a0_6,.int .i64 a0_7,.int .i64 a0_8,.int .i64 a0_9]) (t:=35) ?hr ?_;(case hd=>rfl);(case hg=>rfl);(case hr=>first|(go_simp;done)|(go_simp;rfl));intro gb222 hg w14 hbox hb;have n0_:=Aside0.mk (below_step zhb hb);have n1_:=Aside0.mk (hbox);have n2_:=Aside0.mk ((by rw [hg];exact (below_size zhb):w.heap.size≤gb222));have n3_:=Aside0.mk ((by rw [hg];exact (below_size zhb):w.heap.size≤gb222));clear HB;have HB:=n0_;have BK222:=n1_;have GW222:=n2_;have GE222:=n3_;clear n0_ n1_ n2_ n3_;clear hb hbox hg)|((with_reducible refine gate_dst (N:=3) rfl ?_);refine box_event ?hg (N:=3) ?hd (cs:=#[.int .i64 a1_0,.bool a1_1,.int .i64 a1_2,.int .i64 a1_3,.int .i64 a1_4,.int .i64 a1_5,.int .i64 a1_6,.int .i64 a1_7,.int .i64 a1_8,.int .i64 a1_9]) (t:=35) ?hr ?_;(case hd=>rfl);(case hg=>rfl);(case hr=>first|(go_simp;done)|(go_simp;rfl));intro gb223 hg w15 hbox hb;have n0_:=Aside0.mk (blk_below (g:=gb222) (o:=.cells #[.int .i64 a0_0,.bool a0_1,.int .i64 a0_2,.int .i64 a0_3,.int .i64 a0_4,.int .i64 a0_5,.int .i64 a0_6,.int .i64 a0_7,.int .i64 a0_8,.int .i64 a0_9] 35 (0,0)) (by (with_reducible repeat (first|refine blk_drewN ?_ _|refine blk_drew ?_|refine blk_alloc ?_ _));exact BK222.out) hb);have n1_:=Aside0.mk (below_step (by repeat (first|(with_reducible first|exact HB.out|apply below_alloc|apply pw_below_drewN|apply below_drew1|refine below_set ?_ GE222.out)|exact HB.out)) hb);have n2_:=Aside0.mk (hbox);have n3_:=Aside0.mk ((by rw [hg];exact (below_size (by repeat (first|(with_reducible first|exact HB.out|apply below_alloc|apply pw_below_drewN|apply below_drew1|refine below_set ?_ GE222.out)|exact HB.out))):w.heap.size≤gb223));have n4_:=Aside0.mk ((by rw [hg];exact (below_size (by repeat (first|(with_reducible first|exact HB.out|apply below_alloc|apply pw_below_drewN|apply below_drew1|refine below_set ?_ GE222.out)|exact HB.out))):w.heap.size≤gb223));have n5_:=Aside0.mk ((by rw [hg];exact Nat.ne_of_lt (blk_lt (g:=gb222) (o:=.cells #[.int .i64 a0_0,.bool a0_1,.int .i64 a0_2,.int .i64 a0_3,.int .i64 a0_4,.int .i64 a0_5,.int .i64 a0_6,.int .i64 a0_7,.int .i64 a0_8,.int .i64 a0_9] 35 (0,0)) (by (with_reducible repeat (first|refine blk_drewN ?_ _|refine blk_drew ?_|refine blk_alloc ?_ _));exact BK222.out)):gb222≠gb223));have n6_:=Aside0.mk ((by rw [hg];exact Nat.ne_of_gt (blk_lt (g:=gb222) (o:=.cells #[.int .i64 a0_0,.bool a0_1,.int .i64 a0_2,.int .i64 a0_3,.int .i64 a0_4,.int .i64 a0_5,.int .i64 a0_6,.int .i64 a0_7,.int .i64 a0_8,.int .i64 a0_9] 35 (0,0)) (by (with_reducible repeat (first|refine blk_drewN ?_ _|refine blk_drew ?_|refine blk_alloc ?_ _));exact BK222.out)):gb223≠gb222));clear BK222;clear HB;have BK222:=n0_;have HB:=n1_;have BK223:=n2_;have GW223:=n3_;have GE223:=n4_;have NB222_223:=n5_;have NB223_222:=n6_;clear n0_ n1_ n2_ n3_ n4_ n5_ n6_;clear hb hbox hg;have hnb16:=NB222_223.out;have hnc16:=NB223_222.out;have hcz17_0:w15.cell? ⟨gb222,0,none⟩=some (.int .i64 a0_0):=(blk_cell BK222.out 0).trans rfl;have hcz17_1:w15.cell? ⟨gb222,1,none⟩=some (.bool a0_1):=(blk_cell BK222.out 1).trans rfl;have hcz17_2:w15.cell? ⟨gb222,2,none⟩=some (.int .i64 a0_2):=(blk_cell BK222.out 2).trans rfl;have hcz17_3:w15.cell? ⟨gb222,3,none⟩=some (.int .i64 a0_3):=(blk_cell BK222.out 3).trans rfl;have hcz17_4:w15.cell? ⟨gb222,4,none⟩=some (.int .i64 a0_4):=(blk_cell BK222.out 4).trans rfl;have hcz17_5:w15.cell? ⟨gb222,5,none⟩=some (.int .i64 a0_5):=(blk_cell BK222.out 5).trans rfl;have hcz17_6:w15.cell? ⟨gb222,6,none⟩=some (.int .i64 a0_6):=(blk_cell BK222.out 6).trans rfl;have hcz17_7:w15.cell? ⟨gb222,7,none⟩=some (.int .i64 a0_7):=(blk_cell BK222.out 7).trans rfl;have hcz17_8:w15.cell? ⟨gb222,8,none⟩=some (.int .i64 a0_8):=(blk_cell BK222.out 8).trans rfl;have hcz17_9:w15.cell? ⟨gb222,9,none⟩=some (.int .i64 a0_9):=(blk_cell BK222.out 9).trans rfl;have hfz17_0:=blk_frozen BK222.out 0;have hfz17_1:=blk_frozen BK222.out 1;have hfz17_2:=blk_frozen BK222.out 2;have hfz17_3:=blk_frozen BK222.out 3;have hfz17_4:=blk_frozen BK222.out 4;have hfz17_5:=blk_frozen BK222.out 5;have hfz17_6:=blk_frozen BK222.out 6;have hfz17_7:=blk_frozen BK222.out 7;have hfz17_8:=blk_frozen BK222.out 8;have hfz17_9:=blk_frozen BK222.out 9;have hcz18_0:w15.cell? ⟨gb223,0,none⟩=some (.int .i64 a1_0):=(blk_cell BK223.out 0).trans rfl;have hcz18_1:w15.cell? ⟨gb223,1,none⟩=some (.bool a1_1):=(blk_cell BK223.out 1).trans rfl;have hcz18_2:w15.cell? ⟨gb223,2,none⟩=some (.int .i64 a1_2):=(blk_cell BK223.out 2).trans rfl;have hcz18_3:w15.cell? ⟨gb223,3,none⟩=some (.int .i64 a1_3):=(blk_cell BK223.out 3).trans rfl;have hcz18_4:w15.cell? ⟨gb223,4,none⟩=some (.int .i64 a1_4):=(blk_cell BK223.out 4).trans rfl;have hcz18_5:w15.cell? ⟨gb223,5,none⟩=some (.int .i64 a1_5):=(blk_cell BK223.out 5).trans rfl;have hcz18_6:w15.cell? ⟨gb223,6,none⟩=some (.int .i64 a1_6):=(blk_cell BK223.out 6).trans rfl;have hcz18_7:w15.cell? ⟨gb223,7,none⟩=some (.int .i64 a1_7):=(blk_cell BK223.out 7).trans rfl;have hcz18_8:w15.cell? ⟨gb223,8,none⟩=some (.int .i64 a1_8):=(blk_cell BK223.out 8).trans rfl;have hcz18_9:w15.cell? ⟨gb223,9,none⟩=some (.int .i64 a1_9):=(blk_cell BK223.out 9).trans rfl;have hfz18_0:=blk_frozen BK223.out 0;have hfz18_1:=blk_frozen BK223.out 1;have hfz18_2:=blk_frozen BK223.out 2;have hfz18_3:=blk_frozen BK223.out 3;have hfz18_4:=blk_frozen BK223.out 4;have hfz18_5:=blk_frozen BK223.out 5;have hfz18_6:=blk_frozen BK223.out 6;have hfz18_7:=blk_frozen BK223.out 7;have hfz18_8:=blk_frozen BK223.out 8;have hfz18_9:=blk_frozen BK223.out 9)|((with_reducible refine gate_callee (f:=43) rfl ?_);refine goesL_ (some 19) rfl rfl Try.func43 (by kernel_rfl) rfl #[.agg #[.int .i64 a0_2,.int .i64 a0_3,.int .i64 a0_4,.int .i64 a0_5],.agg #[.int .i64 a1_2,.int .i64 a1_3,.int .i64 a1_4,.int .i64 a1_5]] rfl zar ?_;(with_reducible refine (laws_eqCell.calls a0_2 a0_3 a0_4 a0_5 a1_2 a1_3 a1_4 a1_5 true _ A10.out).mono ?_);rintro e w19 ⟨rfl,hb⟩;refine ⟨_,rfl,?_⟩;have n0_:=Aside0.mk (blk_below (g:=gb222) (o:=.cells #[.int .i64 a0_0,.bool a0_1,.int .i64 a0_2,.int .i64 a0_3,.int .i64 a0_4,.int .i64 a0_5,.int .i64 a0_6,.int .i64 a0_7,.int .i64 a0_8,.int .i64 a0_9] 35 (0,0)) (by (with_reducible repeat (first|refine blk_drewN ?_ _|refine blk_drew ?_|refine blk_alloc ?_ _));exact BK222.out) hb);have n1_:=Aside0.mk (blk_below (g:=gb223) (o:=.cells #[.int .i64 a1_0,.bool a1_1,.int .i64 a1_2,.int .i64 a1_3,.int .i64 a1_4,.int .i64 a1_5,.int .i64 a1_6,.int .i64 a1_7,.int .i64 a1_8,.int .i64 a1_9] 35 (0,0)) (by (with_reducible repeat (first|refine blk_drewN ?_ _|refine blk_drew ?_|refine blk_alloc ?_ _));exact BK223.out) hb);have n2_:=Aside0.mk (below_step (by repeat (first|(with_reducible first|exact HB.out|apply below_alloc|apply pw_below_drewN|apply below_drew1|refine below_set ?_ GE222.out|refine below_set ?_ GE223.out)|exact HB.out)) hb);clear BK222;clear BK223;clear HB;have BK222:=n0_;have BK223:=n1_;have HB:=n2_;clear n0_ n1_ n2_;(try clear hb);(try clear hb2);(try clear hk);(try clear hi);have hcz20_0:w19.cell? ⟨gb222,0,none⟩=some (.int .i64 a0_0):=(blk_cell BK222.out 0).trans rfl;have hcz20_1:w19.cell? ⟨gb222,1,none⟩=some (.bool a0_1):=(blk_cell BK222.out 1).trans rfl;have hcz20_2:w19.cell? ⟨gb222,2,none⟩=some (.int .i64 a0_2):=(blk_cell BK222.out 2).trans rfl;have hcz20_3:w19.cell? ⟨gb222,3,none⟩=some (.int .i64 a0_3):=(blk_cell BK222.out 3).trans rfl;have hcz20_4:w19.cell? ⟨gb222,4,none⟩=some (.int .i64 a0_4):=(blk_cell BK222.out 4).trans rfl;have hcz20_5:w19.cell? ⟨gb222,5,none⟩=some (.int .i64 a0_5):=(blk_cell BK222.out 5).trans rfl;have hcz20_6:w19.cell? ⟨gb222,6,none⟩=some (.int .i64 a0_6):=(blk_cell BK222.out 6).trans rfl;have hcz20_7:w19.cell? ⟨gb222,7,none⟩=some (.int .i64 a0_7):=(blk_cell BK222.out 7).trans rfl;have hcz20_8:w19.cell? ⟨gb222,8,none⟩=some (.int .i64 a0_8):=(blk_cell BK222.out 8).trans rfl;have hcz20_9:w19.cell? ⟨gb222,9,none⟩=some (.int .i64 a0_9):=(blk_cell BK222.out 9).trans rfl;have hfz20_0:=blk_frozen BK222.out 0;have hfz20_1:=blk_frozen BK222.out 1;have hfz20_2:=blk_frozen BK222.out 2;have hfz20_3:=blk_frozen BK222.out 3;have hfz20_4:=blk_frozen BK222.out 4;have hfz20_5:=blk_frozen BK222.out 5;have hfz20_6:=blk_frozen BK222.out 6;have hfz20_7:=blk_frozen BK222.out 7;have hfz20_8:=blk_frozen BK222.out 8;have hfz20_9:=blk_frozen BK222.out 9;have hcz21_0:w19.cell? ⟨gb223,0,none⟩=some (.int .i64 a1_0):=(blk_cell BK223.out 0).trans rfl;have hcz21_1:w19.cell? ⟨gb223,1,none⟩=some (.bool a1_1):=(blk_cell BK223.out 1).trans rfl;have hcz21_2:w19.cell? ⟨gb223,2,none⟩=some (.int .i64 a1_2):=(blk_cell BK223.out 2).trans rfl;have hcz21_3:w19.cell? ⟨gb223,3,none⟩=some (.int .i64 a1_3):=(blk_cell BK223.out 3).trans rfl;have hcz21_4:w19.cell? ⟨gb223,4,none⟩=some (.int .i64 a1_4):=(blk_cell BK223.out 4).trans rfl;have hcz21_5:w19.cell? ⟨gb223,5,none⟩=some (.int .i64 a1_5):=(blk_cell BK223.out 5).trans rfl;have hcz21_6:w19.cell? ⟨gb223,6,none⟩=some (.int .i64 a1_6):=(blk_cell BK223.out 6).trans rfl;have hcz21_7:w19.cell? ⟨gb223,7,none⟩=some (.int .i64 a1_7):=(blk_cell BK223.out 7).trans rfl;have hcz21_8:w19.cell? ⟨gb223,8,none⟩=some (.int .i64 a1_8):=(blk_cell BK223.out 8).trans rfl;have hcz21_9:w19.cell? ⟨gb223,9,none⟩=some (.int .i64 a1_9):=(blk_cell BK223.out 9).trans rfl;have hfz21_0:=blk_frozen BK223.out 0;have hfz21_1:=blk_frozen BK223.out 1;have hfz21_2:=blk_frozen BK223.out 2;have hfz21_3:=blk_frozen BK223.out 3;have hfz21_4:=blk_frozen BK223.out 4;have hfz21_5:=blk_frozen BK223.out 5;have hfz21_6:=blk_frozen BK223.out 6;have hfz21_7:=blk_frozen BK223.out 7;have hfz21_8:=blk_frozen BK223.out 8;have hfz21_9:=blk_frozen BK223.out 9)|((with_reducible refine gate_callee (f:=43) rfl ?_);refine goesL_ (some 25) rfl rfl Try.func43 (by kernel_rfl) rfl #[.agg #[.int .i64 a0_6,.int .i64 a0_7,.int .i64 a0_8,.int .i64 a0_9],.agg #[.int .i64 a1_6,.int .i64 a1_7,.int .i64 a1_8,.int .i64 a1_9]] rfl zar ?_;(with_reducible refine (laws_eqCell.calls a0_6 a0_7 a0_8 a0_9 a1_6 a1_7 a1_8 a1_9 true _ A12.out).mono ?_);rintro e w22 ⟨rfl,hb⟩;refine ⟨_,rfl,?_⟩;have n0_:=Aside0.mk (blk_below (g:=gb222) (o:=.cells #[.int .i64 a0_0,.bool a0_1,.int .i64 a0_2,.int .i64 a0_3,.int .i64 a0_4,.int .i64 a0_5,.int .i64 a0_6,.int .i64 a0_7,.int .i64 a0_8,.int .i64 a0_9] 35 (0,0)) (by (with_reducible repeat (first|refine blk_drewN ?_ _|refine blk_drew ?_|refine blk_alloc ?_ _));exact BK222.out) hb);have n1_:=Aside0.mk (blk_below (g:=gb223) (o:=.cells #[.int .i64 a1_0,.bool a1_1,.int .i64 a1_2,.int .i64 a1_3,.int .i64 a1_4,.int .i64 a1_5,.int .i64 a1_6,.int .i64 a1_7,.int .i64 a1_8,.int .i64 a1_9] 35 (0,0)) (by (with_reducible repeat (first|refine blk_drewN ?_ _|refine blk_drew ?_|refine blk_alloc ?_ _));exact BK223.out) hb);have n2_:=Aside0.mk (below_step (by repeat (first|(with_reducible first|exact HB.out|apply below_alloc|apply pw_below_drewN|apply below_drew1|refine below_set ?_ GE222.out|refine below_set ?_ GE223.out)|exact HB.out)) hb);clear BK222;clear BK223;clear HB;have BK222:=n0_;have BK223:=n1_;have HB:=n2_;clear n0_ n1_ n2_;(try clear hb);(try clear hb2);(try clear hk);(try clear hi)))
     go_ret
     exact ⟨by first|rfl|(simp [errW_none,errW_some] <;> rfl)|(simp [*,errW_none,errW_some] <;> rfl),by repeat (first|(with_reducible first|exact HB.out|apply below_alloc|apply pw_below_drewN|apply below_drew1|refine below_set ?_ GE222.out|refine below_set ?_ GE223.out)|exact HB.out)⟩
    ·replace c13:=Bool.eq_false_iff.mpr c13
     subst c13
     have H1:(some false)=some r:=by rw [if_neg (show ¬ (false=true) by decide)] at H;exact H
     clear H
     have H:=H1
     clear H1
     obtain rfl:=Option.some.inj H
     go_enter Try.func27,Try.ntmps27
     go_wp2_with (first|((with_reducible refine gate_dst (N:=2) rfl ?_);refine box_event ?hg (N:=2) ?hd (cs:=#[.int .i64 a0_0,.bool a0_1,.int .i64 a0_2,.int .i64 a0_3,.int .i64 a0_4,.int .i64 a0_5,.int .i64 a0_6,.int .i64 a0_7,.int .i64 a0_8,.int .i64 a0_9]) (t:=35) ?hr ?_;(case hd=>rfl);(case hg=>rfl);(case hr=>first|(go_simp;done)|(go_simp;rfl));intro gb222 hg w23 hbox hb;have n0_:=Aside0.mk (below_step zhb hb);have n1_:=Aside0.mk (hbox);have n2_:=Aside0.mk ((by rw [hg];exact (below_size zhb):w.heap.size≤gb222));have n3_:=Aside0.mk ((by rw [hg];exact (below_size zhb):w.heap.size≤gb222));clear HB;have HB:=n0_;have BK222:=n1_;have GW222:=n2_;have GE222:=n3_;clear n0_ n1_ n2_ n3_;clear hb hbox hg)|((with_reducible refine gate_dst (N:=3) rfl ?_);refine box_event ?hg (N:=3) ?hd (cs:=#[.int .i64 a1_0,.bool a1_1,.int .i64 a1_2,.int .i64 a1_3,.int .i64 a1_4,.int .i64 a1_5,.int .i64 a1_6,.int .i64 a1_7,.int .i64 a1_8,.int .i64 a1_9]) (t:=35) ?hr ?_;(case hd=>rfl);(case hg=>rfl);(case hr=>first|(go_simp;done)|(go_simp;rfl));intro gb223 hg w24 hbox hb;have n0_:=Aside0.mk (blk_below (g:=gb222) (o:=.cells #[.int .i64 a0_0,.bool a0_1,.int .i64 a0_2,.int .i64 a0_3,.int .i64 a0_4,.int .i64 a0_5,.int .i64 a0_6,.int .i64 a0_7,.int .i64 a0_8,.int .i64 a0_9] 35 (0,0)) (by (with_reducible repeat (first|refine blk_drewN ?_ _|refine blk_drew ?_|refine blk_alloc ?_ _));exact BK222.out) hb);have n1_:=Aside0.mk (below_step (by repeat (first|(with_reducible first|exact HB.out|apply below_alloc|apply pw_below_drewN|apply below_drew1|refine below_set ?_ GE222.out)|exact HB.out)) hb);have n2_:=Aside0.mk (hbox);have n3_:=Aside0.mk ((by rw [hg];exact (below_size (by repeat (first|(with_reducible first|exact HB.out|apply below_alloc|apply pw_below_drewN|apply below_drew1|refine below_set ?_ GE222.out)|exact HB.out))):w.heap.size≤gb223));have n4_:=Aside0.mk ((by rw [hg];exact (below_size (by repeat (first|(with_reducible first|exact HB.out|apply below_alloc|apply pw_below_drewN|apply below_drew1|refine below_set ?_ GE222.out)|exact HB.out))):w.heap.size≤gb223));have n5_:=Aside0.mk ((by rw [hg];exact Nat.ne_of_lt (blk_lt (g:=gb222) (o:=.cells #[.int .i64 a0_0,.bool a0_1,.int .i64 a0_2,.int .i64 a0_3,.int .i64 a0_4,.int .i64 a0_5,.int .i64 a0_6,.int .i64 a0_7,.int .i64 a0_8,.int .i64 a0_9] 35 (0,0)) (by (with_reducible repeat (first|refine blk_drewN ?_ _|refine blk_drew ?_|refine blk_alloc ?_ _));exact BK222.out)):gb222≠gb223));have n6_:=Aside0.mk ((by rw [hg];exact Nat.ne_of_gt (blk_lt (g:=gb222) (o:=.cells #[.int .i64 a0_0,.bool a0_1,.int .i64 a0_2,.int .i64 a0_3,.int .i64 a0_4,.int .i64 a0_5,.int .i64 a0_6,.int .i64 a0_7,.int .i64 a0_8,.int .i64 a0_9] 35 (0,0)) (by (with_reducible repeat (first|refine blk_drewN ?_ _|refine blk_drew ?_|refine blk_alloc ?_ _));exact BK222.out)):gb223≠gb222));clear BK222;clear HB;have BK222:=n0_;have HB:=n1_;have BK223:=n2_;have GW223:=n3_;have GE223:=n4_;have NB222_223:=n5_;have NB223_222:=n6_;clear n0_ n1_ n2_ n3_ n4_ n5_ n6_;clear hb hbox hg;have hnb25:=NB222_223.out;have hnc25:=NB223_222.out;have hcz26_0:w24.cell? ⟨gb222,0,none⟩=some (.int .i64 a0_0):=(blk_cell BK222.out 0).trans rfl;have hcz26_1:w24.cell? ⟨gb222,1,none⟩=some (.bool a0_1):=(blk_cell BK222.out 1).trans rfl;have hcz26_2:w24.cell? ⟨gb222,2,none⟩=some (.int .i64 a0_2):=(blk_cell BK222.out 2).trans rfl;have hcz26_3:w24.cell? ⟨gb222,3,none⟩=some (.int .i64 a0_3):=(blk_cell BK222.out 3).trans rfl;have hcz26_4:w24.cell? ⟨gb222,4,none⟩=some (.int .i64 a0_4):=(blk_cell BK222.out 4).trans rfl;have hcz26_5:w24.cell? ⟨gb222,5,none⟩=some (.int .i64 a0_5):=(blk_cell BK222.out 5).trans rfl;have hcz26_6:w24.cell? ⟨gb222,6,none⟩=some (.int .i64 a0_6):=(blk_cell BK222.out 6).trans rfl;have hcz26_7:w24.cell? ⟨gb222,7,none⟩=some (.int .i64 a0_7):=(blk_cell BK222.out 7).trans rfl;have hcz26_8:w24.cell? ⟨gb222,8,none⟩=some (.int .i64 a0_8):=(blk_cell BK222.out 8).trans rfl;have hcz26_9:w24.cell? ⟨gb222,9,none⟩=some (.int .i64 a0_9):=(blk_cell BK222.out 9).trans rfl;have hfz26_0:=blk_frozen BK222.out 0;have hfz26_1:=blk_frozen BK222.out 1;have hfz26_2:=blk_frozen BK222.out 2;have hfz26_3:=blk_frozen BK222.out 3;have hfz26_4:=blk_frozen BK222.out 4;have hfz26_5:=blk_frozen BK222.out 5;have hfz26_6:=blk_frozen BK222.out 6;have hfz26_7:=blk_frozen BK222.out 7;have hfz26_8:=blk_frozen BK222.out 8;have hfz26_9:=blk_frozen BK222.out 9;have hcz27_0:w24.cell? ⟨gb223,0,none⟩=some (.int .i64 a1_0):=(blk_cell BK223.out 0).trans rfl;have hcz27_1:w24.cell? ⟨gb223,1,none⟩=some (.bool a1_1):=(blk_cell BK223.out 1).trans rfl;have hcz27_2:w24.cell? ⟨gb223,2,none⟩=some (.int .i64 a1_2):=(blk_cell BK223.out 2).trans rfl;have hcz27_3:w24.cell? ⟨gb223,3,none⟩=some (.int .i64 a1_3):=(blk_cell BK223.out 3).trans rfl;have hcz27_4:w24.cell? ⟨gb223,4,none⟩=some (.int .i64 a1_4):=(blk_cell BK223.out 4).trans rfl;have hcz27_5:w24.cell? ⟨gb223,5,none⟩=some (.int .i64 a1_5):=(blk_cell BK223.out 5).trans rfl;have hcz27_6:w24.cell? ⟨gb223,6,none⟩=some (.int .i64 a1_6):=(blk_cell BK223.out 6).trans rfl;have hcz27_7:w24.cell? ⟨gb223,7,none⟩=some (.int .i64 a1_7):=(blk_cell BK223.out 7).trans rfl;have hcz27_8:w24.cell? ⟨gb223,8,none⟩=some (.int .i64 a1_8):=(blk_cell BK223.out 8).trans rfl;have hcz27_9:w24.cell? ⟨gb223,9,none⟩=some (.int .i64 a1_9):=(blk_cell BK223.out 9).trans rfl;have hfz27_0:=blk_frozen BK223.out 0;have hfz27_1:=blk_frozen BK223.out 1;have hfz27_2:=blk_frozen BK223.out 2;have hfz27_3:=blk_frozen BK223.out 3;have hfz27_4:=blk_frozen BK223.out 4;have hfz27_5:=blk_frozen BK223.out 5;have hfz27_6:=blk_frozen BK223.out 6;have hfz27_7:=blk_frozen BK223.out 7;have hfz27_8:=blk_frozen BK223.out 8;have hfz27_9:=blk_frozen BK223.out 9)|((with_reducible refine gate_callee (f:=43) rfl ?_);refine goesL_ (some 19) rfl rfl Try.func43 (by kernel_rfl) rfl #[.agg #[.int .i64 a0_2,.int .i64 a0_3,.int .i64 a0_4,.int .i64 a0_5],.agg #[.int .i64 a1_2,.int .i64 a1_3,.int .i64 a1_4,.int .i64 a1_5]] rfl zar ?_;(with_reducible refine (laws_eqCell.calls a0_2 a0_3 a0_4 a0_5 a1_2 a1_3 a1_4 a1_5 true _ A10.out).mono ?_);rintro e w28 ⟨rfl,hb⟩;refine ⟨_,rfl,?_⟩;have n0_:=Aside0.mk (blk_below (g:=gb222) (o:=.cells #[.int .i64 a0_0,.bool a0_1,.int .i64 a0_2,.int .i64 a0_3,.int .i64 a0_4,.int .i64 a0_5,.int .i64 a0_6,.int .i64 a0_7,.int .i64 a0_8,.int .i64 a0_9] 35 (0,0)) (by (with_reducible repeat (first|refine blk_drewN ?_ _|refine blk_drew ?_|refine blk_alloc ?_ _));exact BK222.out) hb);have n1_:=Aside0.mk (blk_below (g:=gb223) (o:=.cells #[.int .i64 a1_0,.bool a1_1,.int .i64 a1_2,.int .i64 a1_3,.int .i64 a1_4,.int .i64 a1_5,.int .i64 a1_6,.int .i64 a1_7,.int .i64 a1_8,.int .i64 a1_9] 35 (0,0)) (by (with_reducible repeat (first|refine blk_drewN ?_ _|refine blk_drew ?_|refine blk_alloc ?_ _));exact BK223.out) hb);have n2_:=Aside0.mk (below_step (by repeat (first|(with_reducible first|exact HB.out|apply below_alloc|apply pw_below_drewN|apply below_drew1|refine below_set ?_ GE222.out|refine below_set ?_ GE223.out)|exact HB.out)) hb);clear BK222;clear BK223;clear HB;have BK222:=n0_;have BK223:=n1_;have HB:=n2_;clear n0_ n1_ n2_;(try clear hb);(try clear hb2);(try clear hk);(try clear hi);have hcz29_0:w28.cell? ⟨gb222,0,none⟩=some (.int .i64 a0_0):=(blk_cell BK222.out 0).trans rfl;have hcz29_1:w28.cell? ⟨gb222,1,none⟩=some (.bool a0_1):=(blk_cell BK222.out 1).trans rfl;have hcz29_2:w28.cell? ⟨gb222,2,none⟩=some (.int .i64 a0_2):=(blk_cell BK222.out 2).trans rfl;have hcz29_3:w28.cell? ⟨gb222,3,none⟩=some (.int .i64 a0_3):=(blk_cell BK222.out 3).trans rfl;have hcz29_4:w28.cell? ⟨gb222,4,none⟩=some (.int .i64 a0_4):=(blk_cell BK222.out 4).trans rfl;have hcz29_5:w28.cell? ⟨gb222,5,none⟩=some (.int .i64 a0_5):=(blk_cell BK222.out 5).trans rfl;have hcz29_6:w28.cell? ⟨gb222,6,none⟩=some (.int .i64 a0_6):=(blk_cell BK222.out 6).trans rfl;have hcz29_7:w28.cell? ⟨gb222,7,none⟩=some (.int .i64 a0_7):=(blk_cell BK222.out 7).trans rfl;have hcz29_8:w28.cell? ⟨gb222,8,none⟩=some (.int .i64 a0_8):=(blk_cell BK222.out 8).trans rfl;have hcz29_9:w28.cell? ⟨gb222,9,none⟩=some (.int .i64 a0_9):=(blk_cell BK222.out 9).trans rfl;have hfz29_0:=blk_frozen BK222.out 0;have hfz29_1:=blk_frozen BK222.out 1;have hfz29_2:=blk_frozen BK222.out 2;have hfz29_3:=blk_frozen BK222.out 3;have hfz29_4:=blk_frozen BK222.out 4;have hfz29_5:=blk_frozen BK222.out 5;have hfz29_6:=blk_frozen BK222.out 6;have hfz29_7:=blk_frozen BK222.out 7;have hfz29_8:=blk_frozen BK222.out 8;have hfz29_9:=blk_frozen BK222.out 9;have hcz30_0:w28.cell? ⟨gb223,0,none⟩=some (.int .i64 a1_0):=(blk_cell BK223.out 0).trans rfl;have hcz30_1:w28.cell? ⟨gb223,1,none⟩=some (.bool a1_1):=(blk_cell BK223.out 1).trans rfl;have hcz30_2:w28.cell? ⟨gb223,2,none⟩=some (.int .i64 a1_2):=(blk_cell BK223.out 2).trans rfl;have hcz30_3:w28.cell? ⟨gb223,3,none⟩=some (.int .i64 a1_3):=(blk_cell BK223.out 3).trans rfl;have hcz30_4:w28.cell? ⟨gb223,4,none⟩=some (.int .i64 a1_4):=(blk_cell BK223.out 4).trans rfl;have hcz30_5:w28.cell? ⟨gb223,5,none⟩=some (.int .i64 a1_5):=(blk_cell BK223.out 5).trans rfl;have hcz30_6:w28.cell? ⟨gb223,6,none⟩=some (.int .i64 a1_6):=(blk_cell BK223.out 6).trans rfl;have hcz30_7:w28.cell? ⟨gb223,7,none⟩=some (.int .i64 a1_7):=(blk_cell BK223.out 7).trans rfl;have hcz30_8:w28.cell? ⟨gb223,8,none⟩=some (.int .i64 a1_8):=(blk_cell BK223.out 8).trans rfl;have hcz30_9:w28.cell? ⟨gb223,9,none⟩=some (.int .i64 a1_9):=(blk_cell BK223.out 9).trans rfl;have hfz30_0:=blk_frozen BK223.out 0;have hfz30_1:=blk_frozen BK223.out 1;have hfz30_2:=blk_frozen BK223.out 2;have hfz30_3:=blk_frozen BK223.out 3;have hfz30_4:=blk_frozen BK223.out 4;have hfz30_5:=blk_frozen BK223.out 5;have hfz30_6:=blk_frozen BK223.out 6;have hfz30_7:=blk_frozen BK223.out 7;have hfz30_8:=blk_frozen BK223.out 8;have hfz30_9:=blk_frozen BK223.out 9)|((with_reducible refine gate_callee (f:=43) rfl ?_);refine goesL_ (some 25) rfl rfl Try.func43 (by kernel_rfl) rfl #[.agg #[.int .i64 a0_6,.int .i64 a0_7,.int .i64 a0_8,.int .i64 a0_9],.agg #[.int .i64 a1_6,.int .i64 a1_7,.int .i64 a1_8,.int .i64 a1_9]] rfl zar ?_;(with_reducible refine (laws_eqCell.calls a0_6 a0_7 a0_8 a0_9 a1_6 a1_7 a1_8 a1_9 false _ A12.out).mono ?_);rintro e w31 ⟨rfl,hb⟩;refine ⟨_,rfl,?_⟩;have n0_:=Aside0.mk (blk_below (g:=gb222) (o:=.cells #[.int .i64 a0_0,.bool a0_1,.int .i64 a0_2,.int .i64 a0_3,.int .i64 a0_4,.int .i64 a0_5,.int .i64 a0_6,.int .i64 a0_7,.int .i64 a0_8,.int .i64 a0_9] 35 (0,0)) (by (with_reducible repeat (first|refine blk_drewN ?_ _|refine blk_drew ?_|refine blk_alloc ?_ _));exact BK222.out) hb);have n1_:=Aside0.mk (blk_below (g:=gb223) (o:=.cells #[.int .i64 a1_0,.bool a1_1,.int .i64 a1_2,.int .i64 a1_3,.int .i64 a1_4,.int .i64 a1_5,.int .i64 a1_6,.int .i64 a1_7,.int .i64 a1_8,.int .i64 a1_9] 35 (0,0)) (by (with_reducible repeat (first|refine blk_drewN ?_ _|refine blk_drew ?_|refine blk_alloc ?_ _));exact BK223.out) hb);have n2_:=Aside0.mk (below_step (by repeat (first|(with_reducible first|exact HB.out|apply below_alloc|apply pw_below_drewN|apply below_drew1|refine below_set ?_ GE222.out|refine below_set ?_ GE223.out)|exact HB.out)) hb);clear BK222;clear BK223;clear HB;have BK222:=n0_;have BK223:=n1_;have HB:=n2_;clear n0_ n1_ n2_;(try clear hb);(try clear hb2);(try clear hk);(try clear hi)))
     go_ret
     exact ⟨by first|rfl|(simp [errW_none,errW_some] <;> rfl)|(simp [*,errW_none,errW_some] <;> rfl),by repeat (first|(with_reducible first|exact HB.out|apply below_alloc|apply pw_below_drewN|apply below_drew1|refine below_set ?_ GE222.out|refine below_set ?_ GE223.out)|exact HB.out)⟩
   ·replace c11:=Bool.eq_false_iff.mpr c11
    subst c11
    have H1:(some false)=some r:=by rw [if_neg (show ¬ (false=true) by decide)] at H;exact H
    clear H
    have H:=H1
    clear H1
    obtain rfl:=Option.some.inj H
    go_enter Try.func27,Try.ntmps27
    go_wp2_with (first|((with_reducible refine gate_dst (N:=2) rfl ?_);refine box_event ?hg (N:=2) ?hd (cs:=#[.int .i64 a0_0,.bool a0_1,.int .i64 a0_2,.int .i64 a0_3,.int .i64 a0_4,.int .i64 a0_5,.int .i64 a0_6,.int .i64 a0_7,.int .i64 a0_8,.int .i64 a0_9]) (t:=35) ?hr ?_;(case hd=>rfl);(case hg=>rfl);(case hr=>first|(go_simp;done)|(go_simp;rfl));intro gb222 hg w32 hbox hb;have n0_:=Aside0.mk (below_step zhb hb);have n1_:=Aside0.mk (hbox);have n2_:=Aside0.mk ((by rw [hg];exact (below_size zhb):w.heap.size≤gb222));have n3_:=Aside0.mk ((by rw [hg];exact (below_size zhb):w.heap.size≤gb222));clear HB;have HB:=n0_;have BK222:=n1_;have GW222:=n2_;have GE222:=n3_;clear n0_ n1_ n2_ n3_;clear hb hbox hg)|((with_reducible refine gate_dst (N:=3) rfl ?_);refine box_event ?hg (N:=3) ?hd (cs:=#[.int .i64 a1_0,.bool a1_1,.int .i64 a1_2,.int .i64 a1_3,.int .i64 a1_4,.int .i64 a1_5,.int .i64 a1_6,.int .i64 a1_7,.int .i64 a1_8,.int .i64 a1_9]) (t:=35) ?hr ?_;(case hd=>rfl);(case hg=>rfl);(case hr=>first|(go_simp;done)|(go_simp;rfl));intro gb223 hg w33 hbox hb;have n0_:=Aside0.mk (blk_below (g:=gb222) (o:=.cells #[.int .i64 a0_0,.bool a0_1,.int .i64 a0_2,.int .i64 a0_3,.int .i64 a0_4,.int .i64 a0_5,.int .i64 a0_6,.int .i64 a0_7,.int .i64 a0_8,.int .i64 a0_9] 35 (0,0)) (by (with_reducible repeat (first|refine blk_drewN ?_ _|refine blk_drew ?_|refine blk_alloc ?_ _));exact BK222.out) hb);have n1_:=Aside0.mk (below_step (by repeat (first|(with_reducible first|exact HB.out|apply below_alloc|apply pw_below_drewN|apply below_drew1|refine below_set ?_ GE222.out)|exact HB.out)) hb);have n2_:=Aside0.mk (hbox);have n3_:=Aside0.mk ((by rw [hg];exact (below_size (by repeat (first|(with_reducible first|exact HB.out|apply below_alloc|apply pw_below_drewN|apply below_drew1|refine below_set ?_ GE222.out)|exact HB.out))):w.heap.size≤gb223));have n4_:=Aside0.mk ((by rw [hg];exact (below_size (by repeat (first|(with_reducible first|exact HB.out|apply below_alloc|apply pw_below_drewN|apply below_drew1|refine below_set ?_ GE222.out)|exact HB.out))):w.heap.size≤gb223));have n5_:=Aside0.mk ((by rw [hg];exact Nat.ne_of_lt (blk_lt (g:=gb222) (o:=.cells #[.int .i64 a0_0,.bool a0_1,.int .i64 a0_2,.int .i64 a0_3,.int .i64 a0_4,.int .i64 a0_5,.int .i64 a0_6,.int .i64 a0_7,.int .i64 a0_8,.int .i64 a0_9] 35 (0,0)) (by (with_reducible repeat (first|refine blk_drewN ?_ _|refine blk_drew ?_|refine blk_alloc ?_ _));exact BK222.out)):gb222≠gb223));have n6_:=Aside0.mk ((by rw [hg];exact Nat.ne_of_gt (blk_lt (g:=gb222) (o:=.cells #[.int .i64 a0_0,.bool a0_1,.int .i64 a0_2,.int .i64 a0_3,.int .i64 a0_4,.int .i64 a0_5,.int .i64 a0_6,.int .i64 a0_7,.int .i64 a0_8,.int .i64 a0_9] 35 (0,0)) (by (with_reducible repeat (first|refine blk_drewN ?_ _|refine blk_drew ?_|refine blk_alloc ?_ _));exact BK222.out)):gb223≠gb222));clear BK222;clear HB;have BK222:=n0_;have HB:=n1_;have BK223:=n2_;have GW223:=n3_;have GE223:=n4_;have NB222_223:=n5_;have NB223_222:=n6_;clear n0_ n1_ n2_ n3_ n4_ n5_ n6_;clear hb hbox hg;have hnb34:=NB222_223.out;have hnc34:=NB223_222.out;have hcz35_0:w33.cell? ⟨gb222,0,none⟩=some (.int .i64 a0_0):=(blk_cell BK222.out 0).trans rfl;have hcz35_1:w33.cell? ⟨gb222,1,none⟩=some (.bool a0_1):=(blk_cell BK222.out 1).trans rfl;have hcz35_2:w33.cell? ⟨gb222,2,none⟩=some (.int .i64 a0_2):=(blk_cell BK222.out 2).trans rfl;have hcz35_3:w33.cell? ⟨gb222,3,none⟩=some (.int .i64 a0_3):=(blk_cell BK222.out 3).trans rfl;have hcz35_4:w33.cell? ⟨gb222,4,none⟩=some (.int .i64 a0_4):=(blk_cell BK222.out 4).trans rfl;have hcz35_5:w33.cell? ⟨gb222,5,none⟩=some (.int .i64 a0_5):=(blk_cell BK222.out 5).trans rfl;have hcz35_6:w33.cell? ⟨gb222,6,none⟩=some (.int .i64 a0_6):=(blk_cell BK222.out 6).trans rfl;have hcz35_7:w33.cell? ⟨gb222,7,none⟩=some (.int .i64 a0_7):=(blk_cell BK222.out 7).trans rfl;have hcz35_8:w33.cell? ⟨gb222,8,none⟩=some (.int .i64 a0_8):=(blk_cell BK222.out 8).trans rfl;have hcz35_9:w33.cell? ⟨gb222,9,none⟩=some (.int .i64 a0_9):=(blk_cell BK222.out 9).trans rfl;have hfz35_0:=blk_frozen BK222.out 0;have hfz35_1:=blk_frozen BK222.out 1;have hfz35_2:=blk_frozen BK222.out 2;have hfz35_3:=blk_frozen BK222.out 3;have hfz35_4:=blk_frozen BK222.out 4;have hfz35_5:=blk_frozen BK222.out 5;have hfz35_6:=blk_frozen BK222.out 6;have hfz35_7:=blk_frozen BK222.out 7;have hfz35_8:=blk_frozen BK222.out 8;have hfz35_9:=blk_frozen BK222.out 9;have hcz36_0:w33.cell? ⟨gb223,0,none⟩=some (.int .i64 a1_0):=(blk_cell BK223.out 0).trans rfl;have hcz36_1:w33.cell? ⟨gb223,1,none⟩=some (.bool a1_1):=(blk_cell BK223.out 1).trans rfl;have hcz36_2:w33.cell? ⟨gb223,2,none⟩=some (.int .i64 a1_2):=(blk_cell BK223.out 2).trans rfl;have hcz36_3:w33.cell? ⟨gb223,3,none⟩=some (.int .i64 a1_3):=(blk_cell BK223.out 3).trans rfl;have hcz36_4:w33.cell? ⟨gb223,4,none⟩=some (.int .i64 a1_4):=(blk_cell BK223.out 4).trans rfl;have hcz36_5:w33.cell? ⟨gb223,5,none⟩=some (.int .i64 a1_5):=(blk_cell BK223.out 5).trans rfl;have hcz36_6:w33.cell? ⟨gb223,6,none⟩=some (.int .i64 a1_6):=(blk_cell BK223.out 6).trans rfl;have hcz36_7:w33.cell? ⟨gb223,7,none⟩=some (.int .i64 a1_7):=(blk_cell BK223.out 7).trans rfl;have hcz36_8:w33.cell? ⟨gb223,8,none⟩=some (.int .i64 a1_8):=(blk_cell BK223.out 8).trans rfl;have hcz36_9:w33.cell? ⟨gb223,9,none⟩=some (.int .i64 a1_9):=(blk_cell BK223.out 9).trans rfl;have hfz36_0:=blk_frozen BK223.out 0;have hfz36_1:=blk_frozen BK223.out 1;have hfz36_2:=blk_frozen BK223.out 2;have hfz36_3:=blk_frozen BK223.out 3;have hfz36_4:=blk_frozen BK223.out 4;have hfz36_5:=blk_frozen BK223.out 5;have hfz36_6:=blk_frozen BK223.out 6;have hfz36_7:=blk_frozen BK223.out 7;have hfz36_8:=blk_frozen BK223.out 8;have hfz36_9:=blk_frozen BK223.out 9)|((with_reducible refine gate_callee (f:=43) rfl ?_);refine goesL_ (some 19) rfl rfl Try.func43 (by kernel_rfl) rfl #[.agg #[.int .i64 a0_2,.int .i64 a0_3,.int .i64 a0_4,.int .i64 a0_5],.agg #[.int .i64 a1_2,.int .i64 a1_3,.int .i64 a1_4,.int .i64 a1_5]] rfl zar ?_;(with_reducible refine (laws_eqCell.calls a0_2 a0_3 a0_4 a0_5 a1_2 a1_3 a1_4 a1_5 false _ A10.out).mono ?_);rintro e w37 ⟨rfl,hb⟩;refine ⟨_,rfl,?_⟩;have n0_:=Aside0.mk (blk_below (g:=gb222) (o:=.cells #[.int .i64 a0_0,.bool a0_1,.int .i64 a0_2,.int .i64 a0_3,.int .i64 a0_4,.int .i64 a0_5,.int .i64 a0_6,.int .i64 a0_7,.int .i64 a0_8,.int .i64 a0_9] 35 (0,0)) (by (with_reducible repeat (first|refine blk_drewN ?_ _|refine blk_drew ?_|refine blk_alloc ?_ _));exact BK222.out) hb);have n1_:=Aside0.mk (blk_below (g:=gb223) (o:=.cells #[.int .i64 a1_0,.bool a1_1,.int .i64 a1_2,.int .i64 a1_3,.int .i64 a1_4,.int .i64 a1_5,.int .i64 a1_6,.int .i64 a1_7,.int .i64 a1_8,.int .i64 a1_9] 35 (0,0)) (by (with_reducible repeat (first|refine blk_drewN ?_ _|refine blk_drew ?_|refine blk_alloc ?_ _));exact BK223.out) hb);have n2_:=Aside0.mk (below_step (by repeat (first|(with_reducible first|exact HB.out|apply below_alloc|apply pw_below_drewN|apply below_drew1|refine below_set ?_ GE222.out|refine below_set ?_ GE223.out)|exact HB.out)) hb);clear BK222;clear BK223;clear HB;have BK222:=n0_;have BK223:=n1_;have HB:=n2_;clear n0_ n1_ n2_;(try clear hb);(try clear hb2);(try clear hk);(try clear hi)))
    go_ret
    exact ⟨by first|rfl|(simp [errW_none,errW_some] <;> rfl)|(simp [*,errW_none,errW_some] <;> rfl),by repeat (first|(with_reducible first|exact HB.out|apply below_alloc|apply pw_below_drewN|apply below_drew1|refine below_set ?_ GE222.out|refine below_set ?_ GE223.out)|exact HB.out)⟩
 ·rw [if_neg c3] at H
  have c3b0:(a0_0 == a1_0)=false:=beq_eq_false_iff_ne.mpr c3
  have c3b1:(a0_0 != a1_0)=true:=bne_iff_ne.mpr c3
  obtain rfl:=Option.some.inj H
  go_enter Try.func27,Try.ntmps27
  go_wp2_with (first|((with_reducible refine gate_dst (N:=2) rfl ?_);refine box_event ?hg (N:=2) ?hd (cs:=#[.int .i64 a0_0,.bool a0_1,.int .i64 a0_2,.int .i64 a0_3,.int .i64 a0_4,.int .i64 a0_5,.int .i64 a0_6,.int .i64 a0_7,.int .i64 a0_8,.int .i64 a0_9]) (t:=35) ?hr ?_;(case hd=>rfl);(case hg=>rfl);(case hr=>first|(go_simp;done)|(go_simp;rfl));intro gb222 hg w38 hbox hb;have n0_:=Aside0.mk (below_step zhb hb);have n1_:=Aside0.mk (hbox);have n2_:=Aside0.mk ((by rw [hg];exact (below_size zhb):w.heap.size≤gb222));have n3_:=Aside0.mk ((by rw [hg];exact (below_size zhb):w.heap.size≤gb222));clear HB;have HB:=n0_;have BK222:=n1_;have GW222:=n2_;have GE222:=n3_;clear n0_ n1_ n2_ n3_;clear hb hbox hg)|((with_reducible refine gate_dst (N:=3) rfl ?_);refine box_event ?hg (N:=3) ?hd (cs:=#[.int .i64 a1_0,.bool a1_1,.int .i64 a1_2,.int .i64 a1_3,.int .i64 a1_4,.int .i64 a1_5,.int .i64 a1_6,.int .i64 a1_7,.int .i64 a1_8,.int .i64 a1_9]) (t:=35) ?hr ?_;(case hd=>rfl);(case hg=>rfl);(case hr=>first|(go_simp;done)|(go_simp;rfl));intro gb223 hg w39 hbox hb;have n0_:=Aside0.mk (blk_below (g:=gb222) (o:=.cells #[.int .i64 a0_0,.bool a0_1,.int .i64 a0_2,.int .i64 a0_3,.int .i64 a0_4,.int .i64 a0_5,.int .i64 a0_6,.int .i64 a0_7,.int .i64 a0_8,.int .i64 a0_9] 35 (0,0)) (by (with_reducible repeat (first|refine blk_drewN ?_ _|refine blk_drew ?_|refine blk_alloc ?_ _));exact BK222.out) hb);have n1_:=Aside0.mk (below_step (by repeat (first|(with_reducible first|exact HB.out|apply below_alloc|apply pw_below_drewN|apply below_drew1|refine below_set ?_ GE222.out)|exact HB.out)) hb);have n2_:=Aside0.mk (hbox);have n3_:=Aside0.mk ((by rw [hg];exact (below_size (by repeat (first|(with_reducible first|exact HB.out|apply below_alloc|apply pw_below_drewN|apply below_drew1|refine below_set ?_ GE222.out)|exact HB.out))):w.heap.size≤gb223));have n4_:=Aside0.mk ((by rw [hg];exact (below_size (by repeat (first|(with_reducible first|exact HB.out|apply below_alloc|apply pw_below_drewN|apply below_drew1|refine below_set ?_ GE222.out)|exact HB.out))):w.heap.size≤gb223));have n5_:=Aside0.mk ((by rw [hg];exact Nat.ne_of_lt (blk_lt (g:=gb222) (o:=.cells #[.int .i64 a0_0,.bool a0_1,.int .i64 a0_2,.int .i64 a0_3,.int .i64 a0_4,.int .i64 a0_5,.int .i64 a0_6,.int .i64 a0_7,.int .i64 a0_8,.int .i64 a0_9] 35 (0,0)) (by (with_reducible repeat (first|refine blk_drewN ?_ _|refine blk_drew ?_|refine blk_alloc ?_ _));exact BK222.out)):gb222≠gb223));have n6_:=Aside0.mk ((by rw [hg];exact Nat.ne_of_gt (blk_lt (g:=gb222) (o:=.cells #[.int .i64 a0_0,.bool a0_1,.int .i64 a0_2,.int .i64 a0_3,.int .i64 a0_4,.int .i64 a0_5,.int .i64 a0_6,.int .i64 a0_7,.int .i64 a0_8,.int .i64 a0_9] 35 (0,0)) (by (with_reducible repeat (first|refine blk_drewN ?_ _|refine blk_drew ?_|refine blk_alloc ?_ _));exact BK222.out)):gb223≠gb222));clear BK222;clear HB;have BK222:=n0_;have HB:=n1_;have BK223:=n2_;have GW223:=n3_;have GE223:=n4_;have NB222_223:=n5_;have NB223_222:=n6_;clear n0_ n1_ n2_ n3_ n4_ n5_ n6_;clear hb hbox hg;have hnb40:=NB222_223.out;have hnc40:=NB223_222.out;have hcz41_0:w39.cell? ⟨gb222,0,none⟩=some (.int .i64 a0_0):=(blk_cell BK222.out 0).trans rfl;have hcz41_1:w39.cell? ⟨gb222,1,none⟩=some (.bool a0_1):=(blk_cell BK222.out 1).trans rfl;have hcz41_2:w39.cell? ⟨gb222,2,none⟩=some (.int .i64 a0_2):=(blk_cell BK222.out 2).trans rfl;have hcz41_3:w39.cell? ⟨gb222,3,none⟩=some (.int .i64 a0_3):=(blk_cell BK222.out 3).trans rfl;have hcz41_4:w39.cell? ⟨gb222,4,none⟩=some (.int .i64 a0_4):=(blk_cell BK222.out 4).trans rfl;have hcz41_5:w39.cell? ⟨gb222,5,none⟩=some (.int .i64 a0_5):=(blk_cell BK222.out 5).trans rfl;have hcz41_6:w39.cell? ⟨gb222,6,none⟩=some (.int .i64 a0_6):=(blk_cell BK222.out 6).trans rfl;have hcz41_7:w39.cell? ⟨gb222,7,none⟩=some (.int .i64 a0_7):=(blk_cell BK222.out 7).trans rfl;have hcz41_8:w39.cell? ⟨gb222,8,none⟩=some (.int .i64 a0_8):=(blk_cell BK222.out 8).trans rfl;have hcz41_9:w39.cell? ⟨gb222,9,none⟩=some (.int .i64 a0_9):=(blk_cell BK222.out 9).trans rfl;have hfz41_0:=blk_frozen BK222.out 0;have hfz41_1:=blk_frozen BK222.out 1;have hfz41_2:=blk_frozen BK222.out 2;have hfz41_3:=blk_frozen BK222.out 3;have hfz41_4:=blk_frozen BK222.out 4;have hfz41_5:=blk_frozen BK222.out 5;have hfz41_6:=blk_frozen BK222.out 6;have hfz41_7:=blk_frozen BK222.out 7;have hfz41_8:=blk_frozen BK222.out 8;have hfz41_9:=blk_frozen BK222.out 9;have hcz42_0:w39.cell? ⟨gb223,0,none⟩=some (.int .i64 a1_0):=(blk_cell BK223.out 0).trans rfl;have hcz42_1:w39.cell? ⟨gb223,1,none⟩=some (.bool a1_1):=(blk_cell BK223.out 1).trans rfl;have hcz42_2:w39.cell? ⟨gb223,2,none⟩=some (.int .i64 a1_2):=(blk_cell BK223.out 2).trans rfl;have hcz42_3:w39.cell? ⟨gb223,3,none⟩=some (.int .i64 a1_3):=(blk_cell BK223.out 3).trans rfl;have hcz42_4:w39.cell? ⟨gb223,4,none⟩=some (.int .i64 a1_4):=(blk_cell BK223.out 4).trans rfl;have hcz42_5:w39.cell? ⟨gb223,5,none⟩=some (.int .i64 a1_5):=(blk_cell BK223.out 5).trans rfl;have hcz42_6:w39.cell? ⟨gb223,6,none⟩=some (.int .i64 a1_6):=(blk_cell BK223.out 6).trans rfl;have hcz42_7:w39.cell? ⟨gb223,7,none⟩=some (.int .i64 a1_7):=(blk_cell BK223.out 7).trans rfl;have hcz42_8:w39.cell? ⟨gb223,8,none⟩=some (.int .i64 a1_8):=(blk_cell BK223.out 8).trans rfl;have hcz42_9:w39.cell? ⟨gb223,9,none⟩=some (.int .i64 a1_9):=(blk_cell BK223.out 9).trans rfl;have hfz42_0:=blk_frozen BK223.out 0;have hfz42_1:=blk_frozen BK223.out 1;have hfz42_2:=blk_frozen BK223.out 2;have hfz42_3:=blk_frozen BK223.out 3;have hfz42_4:=blk_frozen BK223.out 4;have hfz42_5:=blk_frozen BK223.out 5;have hfz42_6:=blk_frozen BK223.out 6;have hfz42_7:=blk_frozen BK223.out 7;have hfz42_8:=blk_frozen BK223.out 8;have hfz42_9:=blk_frozen BK223.out 9))
  go_ret
  exact ⟨by first|rfl|(simp [errW_none,errW_some] <;> rfl)|(simp [*,errW_none,errW_some] <;> rfl),by repeat (first|(with_reducible first|exact HB.out|apply below_alloc|apply pw_below_drewN|apply below_drew1|refine below_set ?_ GE222.out|refine below_set ?_ GE223.out)|exact HB.out)⟩

/-! ### laws_eqCellS: function 28 -/
def laws_eqCellS.l0:Nat→List (S33)→List (S33)→Int→Option (Bool)
 | 0,_,_,_=>none
 | k + 1,x0,x1,x5=>if x5 < (x0.length:Int) then (if 0≤x5 then (if x5 < (x1.length:Int) then ((laws_eqCell.f ((rd_T33 x0 x5).f0) ((rd_T33 x0 x5).f1) ((rd_T33 x0 x5).f2) ((rd_T33 x0 x5).f3) ((rd_T33 x1 x5).f0) ((rd_T33 x1 x5).f1) ((rd_T33 x1 x5).f2) ((rd_T33 x1 x5).f3)).bind fun t228=>(if t228=true then (laws_eqCellS.l0 k x0 x1 (wrap64 (x5 + 1))) else (some false))) else (none)) else (none)) else (some true)
def laws_eqCellS.f (k:Nat) (l0:List (S33)) (l1:List (S33)):Option (Bool):=if (l0.length:Int)=(l1.length:Int) then (laws_eqCellS.l0 k l0 l1 0) else (some false)
theorem laws_eqCellS.mono_l : ∀ k,(∀ y0 y1 y2,LeO (laws_eqCellS.l0 k y0 y1 y2) (laws_eqCellS.l0 (k + 1) y0 y1 y2))
 | 0=>fun _ _ _ r h=>by simp [laws_eqCellS.l0] at h
 | k + 1=>by
  have ih0:=laws_eqCellS.mono_l k
  ·intro y0 y1 y2
   unfold laws_eqCellS.l0
   repeat' first
   | (with_reducible exact ih0 _ _ _)
   | (with_reducible exact LeO.refl _)
   | (with_reducible exact LeO.none _)
   | (with_reducible refine LeO.ite ?_ ?_)
   | (with_reducible refine LeO.bind ?_ (fun _=>?_))
   | exact LeO.none _
   | refine LeO.ite ?_ ?_
   | refine LeO.bind ?_ (fun _=>?_)
theorem laws_eqCellS.mono : ∀ a0 a1 k,LeO (laws_eqCellS.f k a0 a1) (laws_eqCellS.f (k + 1) a0 a1):=by
 intro a0 a1 k
 have ih0:=laws_eqCellS.mono_l k
 unfold laws_eqCellS.f
 repeat' first
   | (with_reducible exact ih0 _ _ _)
   | (with_reducible exact LeO.refl _)
   | (with_reducible exact LeO.none _)
   | (with_reducible refine LeO.ite ?_ ?_)
   | (with_reducible refine LeO.bind ?_ (fun _=>?_))
   | exact LeO.none _
   | refine LeO.ite ?_ ?_
   | refine LeO.bind ?_ (fun _=>?_)
def laws_eqCellS.T6:Bool × List (List Nat × List Nat):=(true,[([],[]),([],[]),([0,1],[0,1]),([2],[2]),([],[]),([],[]),([4,5],[4,5]),([6],[6]),([3,7],[3,7]),([8],[8])])
def laws_eqCellS.B6:List Nat:=[0,0,3,7,0,0,48,112,255,511]
theorem laws_eqCellS.tab6:rtab .any (opsOf Try.f28 6)=laws_eqCellS.T6:=by kernel_rfl
theorem laws_eqCellS.bits6:waitsOk laws_eqCellS.T6.2 laws_eqCellS.B6=true:=by kernel_rfl
set_option maxHeartbeats 8000000 in
set_option maxRecDepth 100000 in
theorem laws_eqCellS.calls (k:Nat) (A0:Option Addr) (c0:Nat) (l0:List (S33)) (A1:Option Addr) (c1:Nat) (l1:List (S33)) (r:Bool) (w:World) (hr0:Kd.C k33 w A0 l0.length l0) (hc0:l0.length≤c0) (hr1:Kd.C k33 w A1 l1.length l1) (hc1:l1.length≤c1) (h:laws_eqCellS.f k l0 l1=some r) :
  Calls Try.prog 28 #[.slice A0 l0.length c0,.slice A1 l1.length c1] w fun e w'=>e=.returned (.bool r)∧Below w.heap.size w w':=by
 have hu33:=Try.underlying33
 have HR0:=Aside0.mk hr0
 have HC0:=Aside0.mk hc0
 clear hr0 hc0
 have HR1:=Aside0.mk hr1
 have HC1:=Aside0.mk hc1
 clear hr1 hc1
 have HB:=Aside0.mk (Below.refl w.heap.size w)
 have H:(if (l0.length:Int)=(l1.length:Int) then (laws_eqCellS.l0 k l0 l1 0) else (some false))=some r:=h
 clear h
 by_cases c3:(l0.length:Int)=(l1.length:Int)
 ·rw [if_pos c3] at H
  have c3b0:((l0.length:Int) == (l1.length:Int))=true:=beq_iff_eq.mpr c3
  have c3b1:((l0.length:Int) != (l1.length:Int))=false:=bne_eq_false_iff_eq.mpr c3
  have c3b2:(l0.length == l1.length)=true:=by first|simpa using c3|(simp at c3 ⊢;omega)
  clear c3
  have H':=Aside0.mk H
  clear H
  go_enter Try.func28,Try.ntmps28
  go_wp2
  go_loopg [5] k (fun kq v5 w'=>∃ (x5_1:Int),v5=.int .i64 x5_1∧Aside0 (laws_eqCellS.l0 kq l0 l1 x5_1=some r)∧Aside0 (kq≤k)∧Aside0 (Below w.heap.size w w'))
  case atStart=>exact ⟨(0),(by first|rfl|(simp;done)|(simp [*];done)),H',⟨Nat.le_refl _⟩,⟨zhb⟩⟩
  case round =>
   clear H'
   try clear c1
   try clear c2
   try clear p2
   try clear c3
   try clear c3b0
   try clear c3b1
   try clear c3b2
   obtain ⟨x5_1,rfl,HA,HK1,HB⟩:=hrel
   cases gk with
   | zero=>exact absurd HA.out (by simp [laws_eqCellS.l0])
   | succ k1 =>
    have H:=HA.out
    clear HA
    simp only [laws_eqCellS.l0] at H
    by_cases c4:x5_1 < (l0.length:Int)
    ·rw [if_pos c4] at H
     have c4b0:decide (x5_1 < (l0.length:Int))=true:=decide_eq_true c4
     clear c4
     by_cases c5:0≤x5_1
     ·rw [if_pos c5] at H
      have c5b0:decide (0≤x5_1)=true:=decide_eq_true c5
      clear c5
      by_cases c6:x5_1 < (l1.length:Int)
      ·rw [if_pos c6] at H
       have c6b0:decide (x5_1 < (l1.length:Int))=true:=decide_eq_true c6
       clear c6
       replace H:=Option.bind_eq_some_iff.mp H
       obtain ⟨t228,A70,H⟩:=H
       (try dsimp only at H)
       have A7:=Aside0.mk A70
       clear A70
       by_cases c8:t228=true
       ·subst c8
        have H1:(laws_eqCellS.l0 k1 l0 l1 (wrap64 (x5_1 + 1)))=some r:=by rw [if_pos rfl] at H;exact H
        clear H
        have H:=H1
        clear H1
        have H':=Aside0.mk H
        clear H
        try go_wp2
        have n0_:=Aside0.mk (below_drew1 HB.out)
        clear HB
        have HB:=n0_
        clear n0_
        have p226:0≤(x5_1:Int):=zod
        have q226:x5_1 < (l0.length:Int):=zod
        obtain ⟨ad226,e226,hx226_0,hx226_1,hx226_2,hx226_3⟩:=at_T33 HR0.out x5_1 p226 q226
        have hw226_3:=hx226_3
        have hw226_2:=hx226_2
        have hw226_1:=hx226_1
        have hw226_0:=hx226_0
        cases e226
        replace hx226_0:=(HB.out.cell (World.block_lt_of_cell? w _ hx226_0)).trans hx226_0
        replace hx226_1:=(HB.out.cell (World.block_lt_of_cell? w _ hx226_1)).trans hx226_1
        replace hx226_2:=(HB.out.cell (World.block_lt_of_cell? w _ hx226_2)).trans hx226_2
        replace hx226_3:=(HB.out.cell (World.block_lt_of_cell? w _ hx226_3)).trans hx226_3
        replace p226:=eq_true p226
        replace q226:=eq_true q226
        have p227:0≤(x5_1:Int):=zod
        have q227:x5_1 < (l1.length:Int):=zod
        obtain ⟨ad227,e227,hx227_0,hx227_1,hx227_2,hx227_3⟩:=at_T33 HR1.out x5_1 p227 q227
        have hw227_3:=hx227_3
        have hw227_2:=hx227_2
        have hw227_1:=hx227_1
        have hw227_0:=hx227_0
        cases e227
        replace hx227_0:=(HB.out.cell (World.block_lt_of_cell? w _ hx227_0)).trans hx227_0
        replace hx227_1:=(HB.out.cell (World.block_lt_of_cell? w _ hx227_1)).trans hx227_1
        replace hx227_2:=(HB.out.cell (World.block_lt_of_cell? w _ hx227_2)).trans hx227_2
        replace hx227_3:=(HB.out.cell (World.block_lt_of_cell? w _ hx227_3)).trans hx227_3
        replace p227:=eq_true p227
        replace q227:=eq_true q227
        refine start_ (n:=10) (S:=fun w'=>w'.cell? (ad226.add ((x5_1).toNat * 4))=some (.int .i64 ((rd_T33 l0 x5_1).f0))∧w'.cell? ⟨(ad226.add ((x5_1).toNat * 4)).block,(ad226.add ((x5_1).toNat * 4)).off + 1,none⟩=some (.int .i64 ((rd_T33 l0 x5_1).f1))∧w'.cell? ⟨(ad226.add ((x5_1).toNat * 4)).block,(ad226.add ((x5_1).toNat * 4)).off + 2,none⟩=some (.int .i64 ((rd_T33 l0 x5_1).f2))∧w'.cell? ⟨(ad226.add ((x5_1).toNat * 4)).block,(ad226.add ((x5_1).toNat * 4)).off + 3,none⟩=some (.int .i64 ((rd_T33 l0 x5_1).f3))∧w'.cell? (ad227.add ((x5_1).toNat * 4))=some (.int .i64 ((rd_T33 l1 x5_1).f0))∧w'.cell? ⟨(ad227.add ((x5_1).toNat * 4)).block,(ad227.add ((x5_1).toNat * 4)).off + 1,none⟩=some (.int .i64 ((rd_T33 l1 x5_1).f1))∧w'.cell? ⟨(ad227.add ((x5_1).toNat * 4)).block,(ad227.add ((x5_1).toNat * 4)).off + 2,none⟩=some (.int .i64 ((rd_T33 l1 x5_1).f2))∧w'.cell? ⟨(ad227.add ((x5_1).toNat * 4)).block,(ad227.add ((x5_1).toNat * 4)).off + 3,none⟩=some (.int .i64 ((rd_T33 l1 x5_1).f3))) (ds:=[]) #[X,X,X,X,X,X,X,X,X,X] (by kernel_rfl) rfl rfl ⟨((HB.out.cell (World.block_lt_of_cell? w _ hw226_0)).trans hw226_0),((HB.out.cell (World.block_lt_of_cell? w _ hw226_1)).trans hw226_1),((HB.out.cell (World.block_lt_of_cell? w _ hw226_2)).trans hw226_2),((HB.out.cell (World.block_lt_of_cell? w _ hw226_3)).trans hw226_3),((HB.out.cell (World.block_lt_of_cell? w _ hw227_0)).trans hw227_0),((HB.out.cell (World.block_lt_of_cell? w _ hw227_1)).trans hw227_1),((HB.out.cell (World.block_lt_of_cell? w _ hw227_2)).trans hw227_2),((HB.out.cell (World.block_lt_of_cell? w _ hw227_3)).trans hw227_3)⟩ (fun hHeld=>?_);refine with_tabW laws_eqCellS.tab6 laws_eqCellS.bits6 (fun HT_ HW_=>?_)
        generalize wr.drew=w9 at HB hx226_0 hx226_1 hx226_2 hx226_3 hx227_0 hx227_1 hx227_2 hx227_3 hHeld ⊢
        refine pure_ (i:=0) (N:=some 17) (v:=?_) (a':=?_) #[Y,X,X,X,X,X,X,X,X,X] rfl rfl zan (fun _ _ _ h=>h) (Or.inl ⟨by rfl,?_⟩) ?_ ?_
        rotate_left
        ·intro w'
         go_simp
         with_reducible rfl
        rotate_left
        ·simp only [Act.put,zp1,zp2,zp3,i64_w,i32_w]
         rfl
        refine pure_ (i:=1) (N:=some 18) (v:=?_) (a':=?_) #[Y,Y,X,X,X,X,X,X,X,X] rfl rfl zan (fun _ _ _ h=>h) (Or.inl ⟨by rfl,?_⟩) ?_ ?_
        rotate_left
        ·intro w'
         go_simp
         with_reducible rfl
        rotate_left
        ·simp only [Act.put,zp1,zp2,zp3,i64_w,i32_w]
         rfl
        refine pure_ (i:=2) (N:=some 19) (v:=?_) (a':=?_) #[Y,Y,Y,X,X,X,X,X,X,X] rfl rfl zan (fun _ _ _ h=>h) (Or.inl ⟨by rfl,?_⟩) ?_ ?_
        rotate_left
        ·intro w'
         go_simp
         with_reducible rfl
        rotate_left
        ·simp only [Act.put,zp1,zp2,zp3,i64_w,i32_w]
         rfl
        refine pure_ (i:=4) (N:=some 21) (v:=?_) (a':=?_) #[Y,Y,Y,X,Y,X,X,X,X,X] rfl rfl zan (fun _ _ _ h=>h) (Or.inl ⟨by rfl,?_⟩) ?_ ?_
        rotate_left
        ·intro w'
         go_simp
         with_reducible rfl
        rotate_left
        ·simp only [Act.put,zp1,zp2,zp3,i64_w,i32_w]
         rfl
        refine pure_ (i:=5) (N:=some 22) (v:=?_) (a':=?_) #[Y,Y,Y,X,Y,Y,X,X,X,X] rfl rfl zan (fun _ _ _ h=>h) (Or.inl ⟨by rfl,?_⟩) ?_ ?_
        rotate_left
        ·intro w'
         go_simp
         with_reducible rfl
        rotate_left
        ·simp only [Act.put,zp1,zp2,zp3,i64_w,i32_w]
         rfl
        refine pure_ (i:=6) (N:=some 23) (v:=?_) (a':=?_) #[Y,Y,Y,X,Y,Y,Y,X,X,X] rfl rfl zan (fun _ _ _ h=>h) (Or.inl ⟨by rfl,?_⟩) ?_ ?_
        rotate_left
        ·intro w'
         go_simp
         with_reducible rfl
        rotate_left
        ·simp only [Act.put,zp1,zp2,zp3,i64_w,i32_w]
         rfl
        refine take_ (i:=3) (N:=some 20) (v:=?_) (a':=?_) #[Y,Y,Y,Y,Y,Y,Y,X,X,X] rfl rfl ztw (fun _ _ _ h=>h) (Or.inl ⟨by rfl,?_⟩) hHeld ?_ ?_
        rotate_left
        ·rintro w' ⟨s0,s1,s2,s3,s4,s5,s6,s7⟩
         go_simp
         with_reducible rfl
        rotate_left
        ·simp only [Act.put,zp1,zp2,zp3,i64_w,i32_w]
         rfl
        refine take_ (i:=7) (N:=some 24) (v:=?_) (a':=?_) #[Y,Y,Y,Y,Y,Y,Y,Y,X,X] rfl rfl ztw (fun _ _ _ h=>h) (Or.inl ⟨by rfl,?_⟩) hHeld ?_ ?_
        rotate_left
        ·rintro w' ⟨s0,s1,s2,s3,s4,s5,s6,s7⟩
         go_simp
         with_reducible rfl
        rotate_left
        ·simp only [Act.put,zp1,zp2,zp3,i64_w,i32_w]
         rfl
        refine one_ (i:=8) (N:=some 25) #[Y,Y,Y,Y,Y,Y,Y,Y,Y,X] rfl rfl (one_of HT_.out (by kernel_rfl)) (by decide) (fun K hK=>?_)
        refine goes_ Try.func43 (by kernel_rfl) rfl #[.agg #[.int .i64 ((rd_T33 l0 x5_1).f0),.int .i64 ((rd_T33 l0 x5_1).f1),.int .i64 ((rd_T33 l0 x5_1).f2),.int .i64 ((rd_T33 l0 x5_1).f3)],.agg #[.int .i64 ((rd_T33 l1 x5_1).f0),.int .i64 ((rd_T33 l1 x5_1).f1),.int .i64 ((rd_T33 l1 x5_1).f2),.int .i64 ((rd_T33 l1 x5_1).f3)]] (by rfl) rfl rfl zar ?_
        with_reducible refine (laws_eqCell.calls ((rd_T33 l0 x5_1).f0) ((rd_T33 l0 x5_1).f1) ((rd_T33 l0 x5_1).f2) ((rd_T33 l0 x5_1).f3) ((rd_T33 l1 x5_1).f0) ((rd_T33 l1 x5_1).f1) ((rd_T33 l1 x5_1).f2) ((rd_T33 l1 x5_1).f3) true _ A7.out).mono ?_
        rintro e w10 ⟨rfl,hb⟩
        refine ⟨_,rfl,?_⟩
        have n0_:=Aside0.mk (below_step zhb hb)
        clear HB
        have HB:=n0_
        clear n0_
        (try clear hb)
        (try clear hb2)
        (try clear hk)
        (try clear hi)
        refine hK.out _ _ ⟨((HB.out.cell (World.block_lt_of_cell? w _ hw226_0)).trans hw226_0),((HB.out.cell (World.block_lt_of_cell? w _ hw226_1)).trans hw226_1),((HB.out.cell (World.block_lt_of_cell? w _ hw226_2)).trans hw226_2),((HB.out.cell (World.block_lt_of_cell? w _ hw226_3)).trans hw226_3),((HB.out.cell (World.block_lt_of_cell? w _ hw227_0)).trans hw227_0),((HB.out.cell (World.block_lt_of_cell? w _ hw227_1)).trans hw227_1),((HB.out.cell (World.block_lt_of_cell? w _ hw227_2)).trans hw227_2),((HB.out.cell (World.block_lt_of_cell? w _ hw227_3)).trans hw227_3)⟩ (fun hHeld=>?_)
        clear hK K
        refine norm_ (a':=?_) ?_ ?_
        rotate_left
        ·show Act.put _ (some 25) _=_
         simp only [Act.put,zp1,zp2,zp3,i64_w,i32_w]
         rfl
        refine pure_ (i:=9) (N:=some 26) (v:=?_) (a':=?_) #[Y,Y,Y,Y,Y,Y,Y,Y,Y,Y] rfl rfl zan (fun _ _ _ h=>h) (Or.inl ⟨by rfl,?_⟩) ?_ ?_
        rotate_left
        ·intro w'
         go_simp
         with_reducible rfl
        rotate_left
        ·simp only [Act.put,zp1,zp2,zp3,i64_w,i32_w]
         rfl
        refine done_ (done_of HT_.out (by kernel_rfl)) ?_
        try go_wp2
        go_roundg k1
        case measure=>have:=HK1.out;omega
        case rel=>exact ⟨(wrap64 (x5_1 + 1)),(by first|rfl|(simp;done)|(simp [*];done)),H',⟨by have:=HK1.out;omega⟩,⟨zhb⟩⟩
       ·replace c8:=Bool.eq_false_iff.mpr c8
        subst c8
        have H1:(some false)=some r:=by rw [if_neg (show ¬ (false=true) by decide)] at H;exact H
        clear H
        have H:=H1
        clear H1
        obtain rfl:=Option.some.inj H
        try go_wp2
        have n0_:=Aside0.mk (below_drew1 HB.out)
        clear HB
        have HB:=n0_
        clear n0_
        have p226:0≤(x5_1:Int):=zod
        have q226:x5_1 < (l0.length:Int):=zod
        obtain ⟨ad226,e226,hx226_0,hx226_1,hx226_2,hx226_3⟩:=at_T33 HR0.out x5_1 p226 q226
        have hw226_3:=hx226_3
        have hw226_2:=hx226_2
        have hw226_1:=hx226_1
        have hw226_0:=hx226_0
        cases e226
        replace hx226_0:=(HB.out.cell (World.block_lt_of_cell? w _ hx226_0)).trans hx226_0
        replace hx226_1:=(HB.out.cell (World.block_lt_of_cell? w _ hx226_1)).trans hx226_1
        replace hx226_2:=(HB.out.cell (World.block_lt_of_cell? w _ hx226_2)).trans hx226_2
        replace hx226_3:=(HB.out.cell (World.block_lt_of_cell? w _ hx226_3)).trans hx226_3
        replace p226:=eq_true p226
        replace q226:=eq_true q226
        have p227:0≤(x5_1:Int):=zod
        have q227:x5_1 < (l1.length:Int):=zod
        obtain ⟨ad227,e227,hx227_0,hx227_1,hx227_2,hx227_3⟩:=at_T33 HR1.out x5_1 p227 q227
        have hw227_3:=hx227_3
        have hw227_2:=hx227_2
        have hw227_1:=hx227_1
        have hw227_0:=hx227_0
        cases e227
        replace hx227_0:=(HB.out.cell (World.block_lt_of_cell? w _ hx227_0)).trans hx227_0
        replace hx227_1:=(HB.out.cell (World.block_lt_of_cell? w _ hx227_1)).trans hx227_1
        replace hx227_2:=(HB.out.cell (World.block_lt_of_cell? w _ hx227_2)).trans hx227_2
        replace hx227_3:=(HB.out.cell (World.block_lt_of_cell? w _ hx227_3)).trans hx227_3
        replace p227:=eq_true p227
        replace q227:=eq_true q227
        refine start_ (n:=10) (S:=fun w'=>w'.cell? (ad226.add ((x5_1).toNat * 4))=some (.int .i64 ((rd_T33 l0 x5_1).f0))∧w'.cell? ⟨(ad226.add ((x5_1).toNat * 4)).block,(ad226.add ((x5_1).toNat * 4)).off + 1,none⟩=some (.int .i64 ((rd_T33 l0 x5_1).f1))∧w'.cell? ⟨(ad226.add ((x5_1).toNat * 4)).block,(ad226.add ((x5_1).toNat * 4)).off + 2,none⟩=some (.int .i64 ((rd_T33 l0 x5_1).f2))∧w'.cell? ⟨(ad226.add ((x5_1).toNat * 4)).block,(ad226.add ((x5_1).toNat * 4)).off + 3,none⟩=some (.int .i64 ((rd_T33 l0 x5_1).f3))∧w'.cell? (ad227.add ((x5_1).toNat * 4))=some (.int .i64 ((rd_T33 l1 x5_1).f0))∧w'.cell? ⟨(ad227.add ((x5_1).toNat * 4)).block,(ad227.add ((x5_1).toNat * 4)).off + 1,none⟩=some (.int .i64 ((rd_T33 l1 x5_1).f1))∧w'.cell? ⟨(ad227.add ((x5_1).toNat * 4)).block,(ad227.add ((x5_1).toNat * 4)).off + 2,none⟩=some (.int .i64 ((rd_T33 l1 x5_1).f2))∧w'.cell? ⟨(ad227.add ((x5_1).toNat * 4)).block,(ad227.add ((x5_1).toNat * 4)).off + 3,none⟩=some (.int .i64 ((rd_T33 l1 x5_1).f3))) (ds:=[]) #[X,X,X,X,X,X,X,X,X,X] (by kernel_rfl) rfl rfl ⟨((HB.out.cell (World.block_lt_of_cell? w _ hw226_0)).trans hw226_0),((HB.out.cell (World.block_lt_of_cell? w _ hw226_1)).trans hw226_1),((HB.out.cell (World.block_lt_of_cell? w _ hw226_2)).trans hw226_2),((HB.out.cell (World.block_lt_of_cell? w _ hw226_3)).trans hw226_3),((HB.out.cell (World.block_lt_of_cell? w _ hw227_0)).trans hw227_0),((HB.out.cell (World.block_lt_of_cell? w _ hw227_1)).trans hw227_1),((HB.out.cell (World.block_lt_of_cell? w _ hw227_2)).trans hw227_2),((HB.out.cell (World.block_lt_of_cell? w _ hw227_3)).trans hw227_3)⟩ (fun hHeld=>?_);refine with_tabW laws_eqCellS.tab6 laws_eqCellS.bits6 (fun HT_ HW_=>?_)
        generalize wr.drew=w11 at HB hx226_0 hx226_1 hx226_2 hx226_3 hx227_0 hx227_1 hx227_2 hx227_3 hHeld ⊢
        refine pure_ (i:=0) (N:=some 17) (v:=?_) (a':=?_) #[Y,X,X,X,X,X,X,X,X,X] rfl rfl zan (fun _ _ _ h=>h) (Or.inl ⟨by rfl,?_⟩) ?_ ?_
        rotate_left
        ·intro w'
         go_simp
         with_reducible rfl
        rotate_left
        ·simp only [Act.put,zp1,zp2,zp3,i64_w,i32_w]
         rfl
        refine pure_ (i:=1) (N:=some 18) (v:=?_) (a':=?_) #[Y,Y,X,X,X,X,X,X,X,X] rfl rfl zan (fun _ _ _ h=>h) (Or.inl ⟨by rfl,?_⟩) ?_ ?_
        rotate_left
        ·intro w'
         go_simp
         with_reducible rfl
        rotate_left
        ·simp only [Act.put,zp1,zp2,zp3,i64_w,i32_w]
         rfl
        refine pure_ (i:=2) (N:=some 19) (v:=?_) (a':=?_) #[Y,Y,Y,X,X,X,X,X,X,X] rfl rfl zan (fun _ _ _ h=>h) (Or.inl ⟨by rfl,?_⟩) ?_ ?_
        rotate_left
        ·intro w'
         go_simp
         with_reducible rfl
        rotate_left
        ·simp only [Act.put,zp1,zp2,zp3,i64_w,i32_w]
         rfl
        refine pure_ (i:=4) (N:=some 21) (v:=?_) (a':=?_) #[Y,Y,Y,X,Y,X,X,X,X,X] rfl rfl zan (fun _ _ _ h=>h) (Or.inl ⟨by rfl,?_⟩) ?_ ?_
        rotate_left
        ·intro w'
         go_simp
         with_reducible rfl
        rotate_left
        ·simp only [Act.put,zp1,zp2,zp3,i64_w,i32_w]
         rfl
        refine pure_ (i:=5) (N:=some 22) (v:=?_) (a':=?_) #[Y,Y,Y,X,Y,Y,X,X,X,X] rfl rfl zan (fun _ _ _ h=>h) (Or.inl ⟨by rfl,?_⟩) ?_ ?_
        rotate_left
        ·intro w'
         go_simp
         with_reducible rfl
        rotate_left
        ·simp only [Act.put,zp1,zp2,zp3,i64_w,i32_w]
         rfl
        refine pure_ (i:=6) (N:=some 23) (v:=?_) (a':=?_) #[Y,Y,Y,X,Y,Y,Y,X,X,X] rfl rfl zan (fun _ _ _ h=>h) (Or.inl ⟨by rfl,?_⟩) ?_ ?_
        rotate_left
        ·intro w'
         go_simp
         with_reducible rfl
        rotate_left
        ·simp only [Act.put,zp1,zp2,zp3,i64_w,i32_w]
         rfl
        refine take_ (i:=3) (N:=some 20) (v:=?_) (a':=?_) #[Y,Y,Y,Y,Y,Y,Y,X,X,X] rfl rfl ztw (fun _ _ _ h=>h) (Or.inl ⟨by rfl,?_⟩) hHeld ?_ ?_
        rotate_left
        ·rintro w' ⟨s0,s1,s2,s3,s4,s5,s6,s7⟩
         go_simp
         with_reducible rfl
        rotate_left
        ·simp only [Act.put,zp1,zp2,zp3,i64_w,i32_w]
         rfl
        refine take_ (i:=7) (N:=some 24) (v:=?_) (a':=?_) #[Y,Y,Y,Y,Y,Y,Y,Y,X,X] rfl rfl ztw (fun _ _ _ h=>h) (Or.inl ⟨by rfl,?_⟩) hHeld ?_ ?_
        rotate_left
        ·rintro w' ⟨s0,s1,s2,s3,s4,s5,s6,s7⟩
         go_simp
         with_reducible rfl
        rotate_left
        ·simp only [Act.put,zp1,zp2,zp3,i64_w,i32_w]
         rfl
        refine one_ (i:=8) (N:=some 25) #[Y,Y,Y,Y,Y,Y,Y,Y,Y,X] rfl rfl (one_of HT_.out (by kernel_rfl)) (by decide) (fun K hK=>?_)
        refine goes_ Try.func43 (by kernel_rfl) rfl #[.agg #[.int .i64 ((rd_T33 l0 x5_1).f0),.int .i64 ((rd_T33 l0 x5_1).f1),.int .i64 ((rd_T33 l0 x5_1).f2),.int .i64 ((rd_T33 l0 x5_1).f3)],.agg #[.int .i64 ((rd_T33 l1 x5_1).f0),.int .i64 ((rd_T33 l1 x5_1).f1),.int .i64 ((rd_T33 l1 x5_1).f2),.int .i64 ((rd_T33 l1 x5_1).f3)]] (by rfl) rfl rfl zar ?_
        with_reducible refine (laws_eqCell.calls ((rd_T33 l0 x5_1).f0) ((rd_T33 l0 x5_1).f1) ((rd_T33 l0 x5_1).f2) ((rd_T33 l0 x5_1).f3) ((rd_T33 l1 x5_1).f0) ((rd_T33 l1 x5_1).f1) ((rd_T33 l1 x5_1).f2) ((rd_T33 l1 x5_1).f3) false _ A7.out).mono ?_
        rintro e w12 ⟨rfl,hb⟩
        refine ⟨_,rfl,?_⟩
        have n0_:=Aside0.mk (below_step zhb hb)
        clear HB
        have HB:=n0_
        clear n0_
        (try clear hb)
        (try clear hb2)
        (try clear hk)
        (try clear hi)
        refine hK.out _ _ ⟨((HB.out.cell (World.block_lt_of_cell? w _ hw226_0)).trans hw226_0),((HB.out.cell (World.block_lt_of_cell? w _ hw226_1)).trans hw226_1),((HB.out.cell (World.block_lt_of_cell? w _ hw226_2)).trans hw226_2),((HB.out.cell (World.block_lt_of_cell? w _ hw226_3)).trans hw226_3),((HB.out.cell (World.block_lt_of_cell? w _ hw227_0)).trans hw227_0),((HB.out.cell (World.block_lt_of_cell? w _ hw227_1)).trans hw227_1),((HB.out.cell (World.block_lt_of_cell? w _ hw227_2)).trans hw227_2),((HB.out.cell (World.block_lt_of_cell? w _ hw227_3)).trans hw227_3)⟩ (fun hHeld=>?_)
        clear hK K
        refine norm_ (a':=?_) ?_ ?_
        rotate_left
        ·show Act.put _ (some 25) _=_
         simp only [Act.put,zp1,zp2,zp3,i64_w,i32_w]
         rfl
        refine pure_ (i:=9) (N:=some 26) (v:=?_) (a':=?_) #[Y,Y,Y,Y,Y,Y,Y,Y,Y,Y] rfl rfl zan (fun _ _ _ h=>h) (Or.inl ⟨by rfl,?_⟩) ?_ ?_
        rotate_left
        ·intro w'
         go_simp
         with_reducible rfl
        rotate_left
        ·simp only [Act.put,zp1,zp2,zp3,i64_w,i32_w]
         rfl
        refine done_ (done_of HT_.out (by kernel_rfl)) ?_
        try go_wp2
        go_ret
        exact ⟨by first|rfl|(simp [errW_none,errW_some] <;> rfl)|(simp [*,errW_none,errW_some] <;> rfl),zhb⟩
      ·rw [if_neg c6] at H
       exact absurd H (by simp)
     ·rw [if_neg c5] at H
      exact absurd H (by simp)
    ·rw [if_neg c4] at H
     have c4b0:decide (x5_1 < (l0.length:Int))=false:=decide_eq_false c4
     clear c4
     obtain rfl:=Option.some.inj H
     go_wp2
     go_ret
     exact ⟨by first|rfl|(simp [errW_none,errW_some] <;> rfl)|(simp [*,errW_none,errW_some] <;> rfl),zhb⟩
 ·rw [if_neg c3] at H
  have c3b0:((l0.length:Int) == (l1.length:Int))=false:=beq_eq_false_iff_ne.mpr c3
  have c3b1:((l0.length:Int) != (l1.length:Int))=true:=bne_iff_ne.mpr c3
  have c3b2:(l0.length == l1.length)=false:=by first|simpa using c3|(simp at c3 ⊢;omega)
  obtain rfl:=Option.some.inj H
  go_enter Try.func28,Try.ntmps28
  go_wp2
  go_ret
  exact ⟨by first|rfl|(simp [errW_none,errW_some] <;> rfl)|(simp [*,errW_none,errW_some] <;> rfl),zhb⟩



inductive Ok30:S30→Prop
 | mk (x:S30) (h0:(Lit.int .i64 x.f0).wf=true) (h1:(Lit.int .i64 x.f1).wf=true) (h2:(((Lit.int .i64 x.f2.f0).wf=true)∧((True)∧(((((Lit.int .i64 x.f2.f2.f0).wf=true)∧(((Lit.int .i64 x.f2.f2.f1).wf=true)∧(((Lit.int .i64 x.f2.f2.f2).wf=true)∧((Lit.int .i64 x.f2.f2.f3).wf=true)))))∧((((Lit.int .i64 x.f2.f3.f0).wf=true)∧(((Lit.int .i64 x.f2.f3.f1).wf=true)∧(((Lit.int .i64 x.f2.f3.f2).wf=true)∧((Lit.int .i64 x.f2.f3.f3).wf=true))))))))) (h3:(x.f3.length≤maxLen∧∀ y0 ∈ x.f3,(((Lit.int .i64 y0.f0).wf=true)∧(((Lit.int .i64 y0.f1).wf=true)∧(((Lit.int .i64 y0.f2).wf=true)∧((Lit.int .i64 y0.f3).wf=true)))))) (h4:(Lit.int .i64 x.f4).wf=true) (h5:(Lit.int .i64 x.f5).wf=true) (h6:(x.f6.length≤maxLen∧∀ y0 ∈ x.f6,(Lit.int .i64 y0).wf=true)) (h7:(Lit.int .i64 x.f7).wf=true) (h8:(Lit.int .i64 x.f8).wf=true) (h9:x.f9.length≤maxLen) (g9 : ∀ y0 ∈ x.f9,Ok30 y0):Ok30 x
theorem Ok30.out {x:S30} (h:Ok30 x):(((Lit.int .i64 x.f0).wf=true)∧(((Lit.int .i64 x.f1).wf=true)∧(((((Lit.int .i64 x.f2.f0).wf=true)∧((True)∧(((((Lit.int .i64 x.f2.f2.f0).wf=true)∧(((Lit.int .i64 x.f2.f2.f1).wf=true)∧(((Lit.int .i64 x.f2.f2.f2).wf=true)∧((Lit.int .i64 x.f2.f2.f3).wf=true)))))∧((((Lit.int .i64 x.f2.f3.f0).wf=true)∧(((Lit.int .i64 x.f2.f3.f1).wf=true)∧(((Lit.int .i64 x.f2.f3.f2).wf=true)∧((Lit.int .i64 x.f2.f3.f3).wf=true)))))))))∧(((x.f3.length≤maxLen∧∀ y0 ∈ x.f3,(((Lit.int .i64 y0.f0).wf=true)∧(((Lit.int .i64 y0.f1).wf=true)∧(((Lit.int .i64 y0.f2).wf=true)∧((Lit.int .i64 y0.f3).wf=true))))))∧(((Lit.int .i64 x.f4).wf=true)∧(((Lit.int .i64 x.f5).wf=true)∧(((x.f6.length≤maxLen∧∀ y0 ∈ x.f6,(Lit.int .i64 y0).wf=true))∧(((Lit.int .i64 x.f7).wf=true)∧(((Lit.int .i64 x.f8).wf=true)∧((x.f9.length≤maxLen∧∀ y0 ∈ x.f9,(Ok30 y0)))))))))))):=by
 cases h with
 | mk _ h0 h1 h2 h3 h4 h5 h6 h7 h8 h9 g9=>exact ⟨h0,h1,h2,h3,h4,h5,h6,h7,h8,⟨h9,g9⟩⟩

end Go.Proofs.Ytlpgnkndjmfcjaa.PFnExactPlanSame
