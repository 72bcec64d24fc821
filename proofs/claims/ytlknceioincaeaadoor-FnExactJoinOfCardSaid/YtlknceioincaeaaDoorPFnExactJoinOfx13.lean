-- Written by wip/tools/pp.py, a program of this session over the kit's printer: not the kit's own print
import Derived.Test.YtlknceioincaeaaDoorPFnExactJoinOfx0
namespace Go.Proofs.YtlknceioincaeaaDoor.PFnExactJoinOf
open Go.RowKit Go.Proofs.YtlknceioincaeaaDoorW.PrintWords Go.Proofs.YtlknceioincaeaaDoorW.PrintLast Go.Proofs.YtlknceioincaeaaDoorW.PrintMore
attribute [local go_sem] max2_int min2_int max_two min_two max_three min_three max_four min_four   -- for this text's walks alone
set_option linter.unusedVariables false
set_option linter.unusedSimpArgs false

/-! ### laws_heldIntS: function 41 -/
def laws_heldIntS.l0:Nat→List Int→Int→Int→Option (Int)
 | 0,_,_,_=>none
 | k + 1,x0,x1,x5=>if x5 < (x0.length:Int) then (if 0≤x5 then (if (rd x0 x5)=x1 then (laws_heldIntS.l0 k x0 (wrap64 (x1 + 1)) (wrap64 (x5 + 1))) else (some (-1))) else (none)) else (some x1)
def laws_heldIntS.f (k:Nat) (l0:List Int) (a1:Int):Option (Int):=laws_heldIntS.l0 k l0 a1 0
theorem laws_heldIntS.mono_l : ∀ k,(∀ y0 y1 y2,LeO (laws_heldIntS.l0 k y0 y1 y2) (laws_heldIntS.l0 (k + 1) y0 y1 y2))
 | 0=>fun _ _ _ r h=>by simp [laws_heldIntS.l0] at h
 | k + 1=>by
  have ih0:=laws_heldIntS.mono_l k
  ·intro y0 y1 y2
   unfold laws_heldIntS.l0
   repeat' first
   | (with_reducible exact ih0 _ _ _)
   | (with_reducible exact LeO.refl _)
   | (with_reducible exact LeO.none _)
   | (with_reducible refine LeO.ite ?_ ?_)
   | (with_reducible refine LeO.bind ?_ (fun _=>?_))
   | exact LeO.none _
   | refine LeO.ite ?_ ?_
   | refine LeO.bind ?_ (fun _=>?_)
theorem laws_heldIntS.mono : ∀ a0 a1 k,LeO (laws_heldIntS.f k a0 a1) (laws_heldIntS.f (k + 1) a0 a1):=by
 intro a0 a1 k
 have ih0:=laws_heldIntS.mono_l k
 unfold laws_heldIntS.f
 repeat' first
   | (with_reducible exact ih0 _ _ _)
   | (with_reducible exact LeO.refl _)
   | (with_reducible exact LeO.none _)
   | (with_reducible refine LeO.ite ?_ ?_)
   | (with_reducible refine LeO.bind ?_ (fun _=>?_))
   | exact LeO.none _
   | refine LeO.ite ?_ ?_
   | refine LeO.bind ?_ (fun _=>?_)
set_option maxHeartbeats 8000000 in
set_option maxRecDepth 100000 in
theorem laws_heldIntS.calls (k:Nat) (A0:Option Addr) (c0:Nat) (l0:List Int) (a1:Int) (r:Int) (w:World) (hr0:Kd.C (Kd.int .i64) w A0 l0.length l0) (hc0:l0.length≤c0) (h:laws_heldIntS.f k l0 a1=some r) :
  Calls Tryd.prog 41 #[.slice A0 l0.length c0,.int .i64 a1] w fun e w'=>e=.returned (.int .i64 r)∧Drawn0 w w':=by
 have HR0:=Aside0.mk hr0
 have HC0:=Aside0.mk hc0
 clear hr0 hc0
 have H:(laws_heldIntS.l0 k l0 a1 0)=some r:=h
 clear h
 have H':=Aside0.mk H
 clear H
 go_enter Tryd.func41,Tryd.ntmps41
 go_wp2
 go_loopg [1,5] k (fun kq v1 v5 w'=>∃ (x1_1:Int) (x5_1:Int),v1=.int .i64 x1_1∧v5=.int .i64 x5_1∧Aside0 (laws_heldIntS.l0 kq l0 x1_1 x5_1=some r)∧Aside0 (kq≤k)∧Drawn0 w w')
 case atStart=>exact ⟨(a1),(0),(by first|rfl|(simp;done)|(simp [*];done)),(by first|rfl|(simp;done)|(simp [*];done)),H',⟨Nat.le_refl _⟩,zdw⟩
 case round =>
  clear H'
  try clear p2
  obtain ⟨x1_1,x5_1,rfl,rfl,HA,HK1,⟨m1,rfl⟩⟩:=hrel
  cases gk with
  | zero=>exact absurd HA.out (by simp [laws_heldIntS.l0])
  | succ k1 =>
   have H:=HA.out
   clear HA
   simp only [laws_heldIntS.l0] at H
   by_cases c3:x5_1 < (l0.length:Int)
   ·rw [if_pos c3] at H
    have c3b0:decide (x5_1 < (l0.length:Int))=true:=decide_eq_true c3
    clear c3
    by_cases c4:0≤x5_1
    ·rw [if_pos c4] at H
     have c4b0:decide (0≤x5_1)=true:=decide_eq_true c4
     clear c4
     by_cases c5:(rd l0 x5_1)=x1_1
     ·rw [if_pos c5] at H
      have c5b0:((rd l0 x5_1) == x1_1)=true:=beq_iff_eq.mpr c5
      have c5b1:((rd l0 x5_1) != x1_1)=false:=bne_eq_false_iff_eq.mpr c5
      clear c5
      have H':=Aside0.mk H
      clear H
      have p254:0≤(x5_1:Int):=zod
      have q254:x5_1 < (l0.length:Int):=zod
      obtain ⟨ad254,e254,hx254_0⟩:=Kd.at_int HR0.out x5_1 p254 q254
      cases e254
      replace p254:=eq_true p254
      replace q254:=eq_true q254
      go_wp2
      go_roundg k1
      case measure=>have:=HK1.out;omega
      case rel=>exact ⟨(wrap64 (x1_1 + 1)),(wrap64 (x5_1 + 1)),(by first|rfl|(simp;done)|(simp [*];done)),(by first|rfl|(simp;done)|(simp [*];done)),H',⟨by have:=HK1.out;omega⟩,zdw⟩
     ·rw [if_neg c5] at H
      have c5b0:((rd l0 x5_1) == x1_1)=false:=beq_eq_false_iff_ne.mpr c5
      have c5b1:((rd l0 x5_1) != x1_1)=true:=bne_iff_ne.mpr c5
      obtain rfl:=Option.some.inj H
      have p254:0≤(x5_1:Int):=zod
      have q254:x5_1 < (l0.length:Int):=zod
      obtain ⟨ad254,e254,hx254_0⟩:=Kd.at_int HR0.out x5_1 p254 q254
      cases e254
      replace p254:=eq_true p254
      replace q254:=eq_true q254
      go_wp2
      go_ret
      exact ⟨by first|rfl|(simp;done)|(simp [*];done),zdw⟩
    ·rw [if_neg c4] at H
     exact absurd H (by simp)
   ·rw [if_neg c3] at H
    have c3b0:decide (x5_1 < (l0.length:Int))=false:=decide_eq_false c3
    clear c3
    obtain rfl:=Option.some.inj H
    go_wp2
    go_ret
    exact ⟨by first|rfl|(simp;done)|(simp [*];done),zdw⟩

/-! ### laws_heldItemS: function 16 -/
def laws_heldItemS.l0:Nat→List (S31)→Int→Int→Option (Int)
 | 0,_,_,_=>none
 | k + 1,x0,x1,x5=>if x5 < (x0.length:Int) then (if 0≤x5 then ((laws_heldIntS.f k ((rd_T31 x0 x5).f0) x1).bind fun t256=>(if t256 < 0 then (some (-1)) else (if ((rd_T31 x0 x5).f1)=t256 then (laws_heldItemS.l0 k x0 (wrap64 (t256 + 1)) (wrap64 (x5 + 1))) else (some (-1))))) else (none)) else (some x1)
def laws_heldItemS.f (k:Nat) (l0:List (S31)) (a1:Int):Option (Int):=laws_heldItemS.l0 k l0 a1 0
theorem laws_heldItemS.mono_l : ∀ k,(∀ y0 y1 y2,LeO (laws_heldItemS.l0 k y0 y1 y2) (laws_heldItemS.l0 (k + 1) y0 y1 y2))
 | 0=>fun _ _ _ r h=>by simp [laws_heldItemS.l0] at h
 | k + 1=>by
  have ih0:=laws_heldItemS.mono_l k
  ·intro y0 y1 y2
   unfold laws_heldItemS.l0
   repeat' first
   | (with_reducible exact ih0 _ _ _)
   | (with_reducible exact laws_heldIntS.mono _ _ _)
   | (with_reducible exact LeO.refl _)
   | (with_reducible exact LeO.none _)
   | (with_reducible refine LeO.ite ?_ ?_)
   | (with_reducible refine LeO.bind ?_ (fun _=>?_))
   | exact LeO.none _
   | refine LeO.ite ?_ ?_
   | refine LeO.bind ?_ (fun _=>?_)
theorem laws_heldItemS.mono : ∀ a0 a1 k,LeO (laws_heldItemS.f k a0 a1) (laws_heldItemS.f (k + 1) a0 a1):=by
 intro a0 a1 k
 have ih0:=laws_heldItemS.mono_l k
 unfold laws_heldItemS.f
 repeat' first
   | (with_reducible exact ih0 _ _ _)
   | (with_reducible exact laws_heldIntS.mono _ _ _)
   | (with_reducible exact LeO.refl _)
   | (with_reducible exact LeO.none _)
   | (with_reducible refine LeO.ite ?_ ?_)
   | (with_reducible refine LeO.bind ?_ (fun _=>?_))
   | exact LeO.none _
   | refine LeO.ite ?_ ?_
   | refine LeO.bind ?_ (fun _=>?_)
set_option maxHeartbeats 8000000 in
set_option maxRecDepth 100000 in
theorem laws_heldItemS.calls (k:Nat) (A0:Option Addr) (c0:Nat) (l0:List (S31)) (a1:Int) (r:Int) (w:World) (hr0:Kd.C k31 w A0 l0.length l0) (hc0:l0.length≤c0) (h:laws_heldItemS.f k l0 a1=some r) :
  Calls Tryd.prog 16 #[.slice A0 l0.length c0,.int .i64 a1] w fun e w'=>e=.returned (.int .i64 r)∧Drawn0 w w':=by
 have HR0:=Aside0.mk hr0
 have HC0:=Aside0.mk hc0
 clear hr0 hc0
 have H:(laws_heldItemS.l0 k l0 a1 0)=some r:=h
 clear h
 have H':=Aside0.mk H
 clear H
 go_enter Tryd.func16,Tryd.ntmps16
 go_wp2
 go_loopg [1,5] k (fun kq v1 v5 w'=>∃ (x1_1:Int) (x5_1:Int),v1=.int .i64 x1_1∧v5=.int .i64 x5_1∧Aside0 (laws_heldItemS.l0 kq l0 x1_1 x5_1=some r)∧Aside0 (kq≤k)∧Drawn0 w w')
 case atStart=>exact ⟨(a1),(0),(by first|rfl|(simp;done)|(simp [*];done)),(by first|rfl|(simp;done)|(simp [*];done)),H',⟨Nat.le_refl _⟩,zdw⟩
 case round =>
  clear H'
  try clear c1
  try clear p2
  obtain ⟨x1_1,x5_1,rfl,rfl,HA,HK1,⟨m1,rfl⟩⟩:=hrel
  cases gk with
  | zero=>exact absurd HA.out (by simp [laws_heldItemS.l0])
  | succ k1 =>
   have H:=HA.out
   clear HA
   simp only [laws_heldItemS.l0] at H
   by_cases c3:x5_1 < (l0.length:Int)
   ·rw [if_pos c3] at H
    have c3b0:decide (x5_1 < (l0.length:Int))=true:=decide_eq_true c3
    clear c3
    by_cases c4:0≤x5_1
    ·rw [if_pos c4] at H
     have c4b0:decide (0≤x5_1)=true:=decide_eq_true c4
     clear c4
     replace H:=Option.bind_eq_some_iff.mp H
     obtain ⟨t256,A50,H⟩:=H
     (try dsimp only at H)
     have A5:=Aside0.mk A50
     clear A50
     by_cases c6:t256 < 0
     ·rw [if_pos c6] at H
      have c6b0:decide (t256 < 0)=true:=decide_eq_true c6
      clear c6
      obtain rfl:=Option.some.inj H
      have p255:0≤(x5_1:Int):=zod
      have q255:x5_1 < (l0.length:Int):=zod
      obtain ⟨ad255,A255_0,c255_0,e255,hx255_0,hx255_1,hl255_0,hi255_0⟩:=at_T31 HR0.out x5_1 p255 q255
      cases e255
      have HR255_0:=Aside0.mk hi255_0
      have HC255_0:=Aside0.mk hl255_0
      clear hi255_0 hl255_0
      replace p255:=eq_true p255
      replace q255:=eq_true q255
      go_wp2_with (first|((with_reducible refine gate_callee (f:=41) rfl ?_);refine goesL_ (some 18) rfl rfl Tryd.func41 (by kernel_rfl) rfl #[.slice A255_0 ((rd_T31 l0 x5_1).f0).length c255_0,.int .i64 x1_1] rfl zar ?_;(with_reducible refine (laws_heldIntS.calls k1 _ _ ((rd_T31 l0 x5_1).f0) x1_1 t256 _ ?side1 ?side2 A5.out).mono ?_);(case side1=>exact zC HR255_0.out);(case side2=>exact HC255_0.out);rintro e w' ⟨rfl,⟨nd,rfl⟩⟩;refine ⟨_,rfl,?_⟩))
      go_ret
      exact ⟨by first|rfl|(simp;done)|(simp [*];done),zdw⟩
     ·rw [if_neg c6] at H
      have c6b0:decide (t256 < 0)=false:=decide_eq_false c6
      clear c6
      by_cases c7:((rd_T31 l0 x5_1).f1)=t256
      ·rw [if_pos c7] at H
       have c7b0:(((rd_T31 l0 x5_1).f1) == t256)=true:=beq_iff_eq.mpr c7
       have c7b1:(((rd_T31 l0 x5_1).f1) != t256)=false:=bne_eq_false_iff_eq.mpr c7
       clear c7
       have H':=Aside0.mk H
       clear H
       have p255:0≤(x5_1:Int):=zod
       have q255:x5_1 < (l0.length:Int):=zod
       obtain ⟨ad255,A255_0,c255_0,e255,hx255_0,hx255_1,hl255_0,hi255_0⟩:=at_T31 HR0.out x5_1 p255 q255
       cases e255
       have HR255_0:=Aside0.mk hi255_0
       have HC255_0:=Aside0.mk hl255_0
       clear hi255_0 hl255_0
       replace p255:=eq_true p255
       replace q255:=eq_true q255
       go_wp2_with (first|((with_reducible refine gate_callee (f:=41) rfl ?_);refine goesL_ (some 18) rfl rfl Tryd.func41 (by kernel_rfl) rfl #[.slice A255_0 ((rd_T31 l0 x5_1).f0).length c255_0,.int .i64 x1_1] rfl zar ?_;(with_reducible refine (laws_heldIntS.calls k1 _ _ ((rd_T31 l0 x5_1).f0) x1_1 t256 _ ?side1 ?side2 A5.out).mono ?_);(case side1=>exact zC HR255_0.out);(case side2=>exact HC255_0.out);rintro e w' ⟨rfl,⟨nd,rfl⟩⟩;refine ⟨_,rfl,?_⟩;have p257:0≤(x5_1:Int):=zod;have q257:x5_1 < (l0.length:Int):=zod;obtain ⟨ad257,A257_0,c257_0,e257,hx257_0,hx257_1,hl257_0,hi257_0⟩:=at_T31 HR0.out x5_1 p257 q257;obtain rfl:ad255=ad257:=(by injection e257);have HR257_0:=Aside0.mk hi257_0;have HC257_0:=Aside0.mk hl257_0;clear hi257_0 hl257_0;replace p257:=eq_true p257;replace q257:=eq_true q257;have ea_:=Option.some.inj (hx255_0.symm.trans hx257_0);injection ea_ with ea_ en_ ec_;subst ea_;subst ec_;clear en_))
       go_roundg k1
       case measure=>have:=HK1.out;omega
       case rel=>exact ⟨(wrap64 (t256 + 1)),(wrap64 (x5_1 + 1)),(by first|rfl|(simp;done)|(simp [*];done)),(by first|rfl|(simp;done)|(simp [*];done)),H',⟨by have:=HK1.out;omega⟩,zdw⟩
      ·rw [if_neg c7] at H
       have c7b0:(((rd_T31 l0 x5_1).f1) == t256)=false:=beq_eq_false_iff_ne.mpr c7
       have c7b1:(((rd_T31 l0 x5_1).f1) != t256)=true:=bne_iff_ne.mpr c7
       obtain rfl:=Option.some.inj H
       have p255:0≤(x5_1:Int):=zod
       have q255:x5_1 < (l0.length:Int):=zod
       obtain ⟨ad255,A255_0,c255_0,e255,hx255_0,hx255_1,hl255_0,hi255_0⟩:=at_T31 HR0.out x5_1 p255 q255
       cases e255
       have HR255_0:=Aside0.mk hi255_0
       have HC255_0:=Aside0.mk hl255_0
       clear hi255_0 hl255_0
       replace p255:=eq_true p255
       replace q255:=eq_true q255
       go_wp2_with (first|((with_reducible refine gate_callee (f:=41) rfl ?_);refine goesL_ (some 18) rfl rfl Tryd.func41 (by kernel_rfl) rfl #[.slice A255_0 ((rd_T31 l0 x5_1).f0).length c255_0,.int .i64 x1_1] rfl zar ?_;(with_reducible refine (laws_heldIntS.calls k1 _ _ ((rd_T31 l0 x5_1).f0) x1_1 t256 _ ?side1 ?side2 A5.out).mono ?_);(case side1=>exact zC HR255_0.out);(case side2=>exact HC255_0.out);rintro e w' ⟨rfl,⟨nd,rfl⟩⟩;refine ⟨_,rfl,?_⟩;have p257:0≤(x5_1:Int):=zod;have q257:x5_1 < (l0.length:Int):=zod;obtain ⟨ad257,A257_0,c257_0,e257,hx257_0,hx257_1,hl257_0,hi257_0⟩:=at_T31 HR0.out x5_1 p257 q257;obtain rfl:ad255=ad257:=(by injection e257);have HR257_0:=Aside0.mk hi257_0;have HC257_0:=Aside0.mk hl257_0;clear hi257_0 hl257_0;replace p257:=eq_true p257;replace q257:=eq_true q257;have ea_:=Option.some.inj (hx255_0.symm.trans hx257_0);injection ea_ with ea_ en_ ec_;subst ea_;subst ec_;clear en_))
       go_ret
       exact ⟨by first|rfl|(simp;done)|(simp [*];done),zdw⟩
    ·rw [if_neg c4] at H
     exact absurd H (by simp)
   ·rw [if_neg c3] at H
    have c3b0:decide (x5_1 < (l0.length:Int))=false:=decide_eq_false c3
    clear c3
    obtain rfl:=Option.some.inj H
    go_wp2
    go_ret
    exact ⟨by first|rfl|(simp;done)|(simp [*];done),zdw⟩

end Go.Proofs.YtlknceioincaeaaDoor.PFnExactJoinOf
