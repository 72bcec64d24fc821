-- Written by wip/tools/pp.py, a program of this session over the kit's printer: not the kit's own print
import Derived.Test.YtgcplipimcbhlaaGreatDoorPFnZTextx0
import Derived.Test.YtgcplipimcbhlaaGreatDoorPFnZTextx3
import Derived.Test.YtgcplipimcbhlaaGreatDoorPFnZTextx5
import Derived.Test.YtgcplipimcbhlaaGreatDoorPFnZTextx7
import Derived.Test.YtgcplipimcbhlaaGreatDoorPFnZTextx8
import Derived.Test.YtgcplipimcbhlaaGreatDoorPFnZTextx9
import Derived.Test.YtgcplipimcbhlaaGreatDoorPFnZTextx10
import Derived.Test.YtgcplipimcbhlaaGreatDoorPFnZTextx11
import Derived.Test.YtgcplipimcbhlaaGreatDoorPFnZTextx12
import Derived.Test.YtgcplipimcbhlaaGreatDoorPFnZTextx14
import Derived.Test.YtgcplipimcbhlaaGreatDoorPFnZTextx15
namespace Go.Proofs.YtgcplipimcbhlaaGreatDoor.PFnZText
open Go.RowKit Go.Proofs.YtgcplipimcbhlaaGreatDoorW.PrintWords Go.Proofs.YtgcplipimcbhlaaGreatDoorW.PrintLast Go.Proofs.YtgcplipimcbhlaaGreatDoorW.PrintMore
attribute [local go_sem] max2_int min2_int max_two min_two max_three min_three max_four min_four   -- for this text's walks alone
set_option linter.unusedVariables false
set_option linter.unusedSimpArgs false

/-! ### laws_FnZText: function 4 -/
def laws_FnZText.f (k:Nat) (l0:List Int) (l1:List Int):Option (Bool):=if (l0.length:Int) > 1048576 then (some true) else (if (l1.length:Int) > 1048576 then (some true) else ((spec_DrawZText.f k l0).bind fun t377=>((impl_ZText.f k t377).bind fun t380=>((impl_ZRead.f k t380).bind fun bt381=>((spec_ZText.f k t377).bind fun t385=>(if t380.toList=t385.toList then ((spec_ZOk.f k t377).bind fun t386=>(if t386=true then (if (t380.size:Int)≤9000 then (if bt381.2=true then ((impl_ZSame.f k bt381.1 t377).bind fun t387=>(if t387=true then ((spec_DrawZRead.f k l1).bind fun t388=>((impl_ZRead.f k t388).bind fun bt389=>((spec_ZRead.f k t388).bind fun bt393=>((spec_DrawZSame.f k l0).bind fun bt397=>(if (bt389.2 == bt393.2)=true then (if bt389.2=true then ((impl_ZText.f k bt389.1).bind fun t403=>(if t403.toList=t388.toList then ((impl_ZOk.f k bt389.1).bind fun t404=>(if t404=true then ((impl_ZSame.f k bt397.1 bt397.2).bind fun t405=>((spec_ZSame.f k bt397.1 bt397.2).bind fun t406=>(if (t405 == t406)=true then ((impl_ZSame.f k bt397.1 bt397.1).bind fun t407=>(some t407)) else (some false)))) else (some false))) else (some false))) else ((impl_ZSame.f k bt397.1 bt397.2).bind fun t408=>((spec_ZSame.f k bt397.1 bt397.2).bind fun t409=>(if (t408 == t409)=true then ((impl_ZSame.f k bt397.1 bt397.1).bind fun t410=>(some t410)) else (some false))))) else (some false)))))) else (some false))) else (some false)) else ((spec_DrawZRead.f k l1).bind fun t411=>((impl_ZRead.f k t411).bind fun bt412=>((spec_ZRead.f k t411).bind fun bt416=>((spec_DrawZSame.f k l0).bind fun bt420=>(if (bt412.2 == bt416.2)=true then (if bt412.2=true then ((impl_ZText.f k bt412.1).bind fun t426=>(if t426.toList=t411.toList then ((impl_ZOk.f k bt412.1).bind fun t427=>(if t427=true then ((impl_ZSame.f k bt420.1 bt420.2).bind fun t428=>((spec_ZSame.f k bt420.1 bt420.2).bind fun t429=>(if (t428 == t429)=true then ((impl_ZSame.f k bt420.1 bt420.1).bind fun t430=>(some t430)) else (some false)))) else (some false))) else (some false))) else ((impl_ZSame.f k bt420.1 bt420.2).bind fun t431=>((spec_ZSame.f k bt420.1 bt420.2).bind fun t432=>(if (t431 == t432)=true then ((impl_ZSame.f k bt420.1 bt420.1).bind fun t433=>(some t433)) else (some false))))) else (some false))))))) else ((spec_DrawZRead.f k l1).bind fun t434=>((impl_ZRead.f k t434).bind fun bt435=>((spec_ZRead.f k t434).bind fun bt439=>((spec_DrawZSame.f k l0).bind fun bt443=>(if (bt435.2 == bt439.2)=true then (if bt435.2=true then ((impl_ZText.f k bt435.1).bind fun t449=>(if t449.toList=t434.toList then ((impl_ZOk.f k bt435.1).bind fun t450=>(if t450=true then ((impl_ZSame.f k bt443.1 bt443.2).bind fun t451=>((spec_ZSame.f k bt443.1 bt443.2).bind fun t452=>(if (t451 == t452)=true then ((impl_ZSame.f k bt443.1 bt443.1).bind fun t453=>(some t453)) else (some false)))) else (some false))) else (some false))) else ((impl_ZSame.f k bt443.1 bt443.2).bind fun t454=>((spec_ZSame.f k bt443.1 bt443.2).bind fun t455=>(if (t454 == t455)=true then ((impl_ZSame.f k bt443.1 bt443.1).bind fun t456=>(some t456)) else (some false))))) else (some false)))))))) else (some false)))))))
theorem laws_FnZText.mono : ∀ a0 a1 k,LeO (laws_FnZText.f k a0 a1) (laws_FnZText.f (k + 1) a0 a1):=by
 intro a0 a1 k
 unfold laws_FnZText.f
 repeat' first
   | (with_reducible exact impl_ZOk.mono _ _)
   | (with_reducible exact impl_ZRead.mono _ _)
   | (with_reducible exact impl_ZSame.mono _ _ _)
   | (with_reducible exact impl_ZText.mono _ _)
   | (with_reducible exact spec_DrawZRead.mono _ _)
   | (with_reducible exact spec_DrawZSame.mono _ _)
   | (with_reducible exact spec_DrawZText.mono _ _)
   | (with_reducible exact spec_ZOk.mono _ _)
   | (with_reducible exact spec_ZRead.mono _ _)
   | (with_reducible exact spec_ZSame.mono _ _ _)
   | (with_reducible exact spec_ZText.mono _ _)
   | (with_reducible exact LeO.refl _)
   | (with_reducible exact LeO.none _)
   | (with_reducible refine LeO.ite ?_ ?_)
   | (with_reducible refine LeO.bind ?_ (fun _=>?_))
   | exact LeO.none _
   | refine LeO.ite ?_ ?_
   | refine LeO.bind ?_ (fun _=>?_)
set_option maxHeartbeats 8000000 in
set_option maxRecDepth 100000 in
theorem laws_FnZText.calls (k:Nat) (A0:Option Addr) (c0:Nat) (l0:List Int) (A1:Option Addr) (c1:Nat) (l1:List Int) (r:Bool) (w:World) (hr0:Kd.C (Kd.int .u8) w A0 l0.length l0) (hc0:l0.length≤c0) (hr1:Kd.C (Kd.int .u8) w A1 l1.length l1) (hc1:l1.length≤c1) (h:laws_FnZText.f k l0 l1=some r) (hr_:r=true) (hT:TxtW w:=by exact TxtW.on HT0.out zhb) :
  Calls Tryz.prog 4 #[.slice A0 l0.length c0,.slice A1 l1.length c1] w fun e w'=>e=.returned (.bool r)∧Below w.heap.size w w':=by
 have HT0:=Aside0.mk hT
 clear hT
 have HR_:=Aside0.mk hr_
 clear hr_
 have HR0:=Aside0.mk hr0
 have HC0:=Aside0.mk hc0
 clear hr0 hc0
 have HR1:=Aside0.mk hr1
 have HC1:=Aside0.mk hc1
 clear hr1 hc1
 have HB:=Aside0.mk (Below.refl w.heap.size w)
 have H:(if (l0.length:Int) > 1048576 then (some true) else (if (l1.length:Int) > 1048576 then (some true) else ((spec_DrawZText.f k l0).bind fun t377=>((impl_ZText.f k t377).bind fun t380=>((impl_ZRead.f k t380).bind fun bt381=>((spec_ZText.f k t377).bind fun t385=>(if t380.toList=t385.toList then ((spec_ZOk.f k t377).bind fun t386=>(if t386=true then (if (t380.size:Int)≤9000 then (if bt381.2=true then ((impl_ZSame.f k bt381.1 t377).bind fun t387=>(if t387=true then ((spec_DrawZRead.f k l1).bind fun t388=>((impl_ZRead.f k t388).bind fun bt389=>((spec_ZRead.f k t388).bind fun bt393=>((spec_DrawZSame.f k l0).bind fun bt397=>(if (bt389.2 == bt393.2)=true then (if bt389.2=true then ((impl_ZText.f k bt389.1).bind fun t403=>(if t403.toList=t388.toList then ((impl_ZOk.f k bt389.1).bind fun t404=>(if t404=true then ((impl_ZSame.f k bt397.1 bt397.2).bind fun t405=>((spec_ZSame.f k bt397.1 bt397.2).bind fun t406=>(if (t405 == t406)=true then ((impl_ZSame.f k bt397.1 bt397.1).bind fun t407=>(some t407)) else (some false)))) else (some false))) else (some false))) else ((impl_ZSame.f k bt397.1 bt397.2).bind fun t408=>((spec_ZSame.f k bt397.1 bt397.2).bind fun t409=>(if (t408 == t409)=true then ((impl_ZSame.f k bt397.1 bt397.1).bind fun t410=>(some t410)) else (some false))))) else (some false)))))) else (some false))) else (some false)) else ((spec_DrawZRead.f k l1).bind fun t411=>((impl_ZRead.f k t411).bind fun bt412=>((spec_ZRead.f k t411).bind fun bt416=>((spec_DrawZSame.f k l0).bind fun bt420=>(if (bt412.2 == bt416.2)=true then (if bt412.2=true then ((impl_ZText.f k bt412.1).bind fun t426=>(if t426.toList=t411.toList then ((impl_ZOk.f k bt412.1).bind fun t427=>(if t427=true then ((impl_ZSame.f k bt420.1 bt420.2).bind fun t428=>((spec_ZSame.f k bt420.1 bt420.2).bind fun t429=>(if (t428 == t429)=true then ((impl_ZSame.f k bt420.1 bt420.1).bind fun t430=>(some t430)) else (some false)))) else (some false))) else (some false))) else ((impl_ZSame.f k bt420.1 bt420.2).bind fun t431=>((spec_ZSame.f k bt420.1 bt420.2).bind fun t432=>(if (t431 == t432)=true then ((impl_ZSame.f k bt420.1 bt420.1).bind fun t433=>(some t433)) else (some false))))) else (some false))))))) else ((spec_DrawZRead.f k l1).bind fun t434=>((impl_ZRead.f k t434).bind fun bt435=>((spec_ZRead.f k t434).bind fun bt439=>((spec_DrawZSame.f k l0).bind fun bt443=>(if (bt435.2 == bt439.2)=true then (if bt435.2=true then ((impl_ZText.f k bt435.1).bind fun t449=>(if t449.toList=t434.toList then ((impl_ZOk.f k bt435.1).bind fun t450=>(if t450=true then ((impl_ZSame.f k bt443.1 bt443.2).bind fun t451=>((spec_ZSame.f k bt443.1 bt443.2).bind fun t452=>(if (t451 == t452)=true then ((impl_ZSame.f k bt443.1 bt443.1).bind fun t453=>(some t453)) else (some false)))) else (some false))) else (some false))) else ((impl_ZSame.f k bt443.1 bt443.2).bind fun t454=>((spec_ZSame.f k bt443.1 bt443.2).bind fun t455=>(if (t454 == t455)=true then ((impl_ZSame.f k bt443.1 bt443.1).bind fun t456=>(some t456)) else (some false))))) else (some false)))))))) else (some false))))))))=some r:=h
 clear h
 by_cases c3:(l0.length:Int) > 1048576
 ·rw [if_pos c3] at H
  have c3b0:decide (1048576 < (l0.length:Int))=true:=decide_eq_true c3
  have c3b1:decide (1048576 < l0.length)=true:=decide_eq_true (by omega)
  clear c3
  obtain rfl:=Option.some.inj H
  go_enter Tryz.func4,Tryz.ntmps4
  go_wp2
  go_ret
  exact ⟨by first|rfl|(rw [HR_.out];first|done|rfl)|(simp [errW_none,errW_some] <;> rfl)|(simp [*,errW_none,errW_some] <;> rfl),zhb⟩
 ·rw [if_neg c3] at H
  have c3b0:decide (1048576 < (l0.length:Int))=false:=decide_eq_false c3
  have c3b1:decide (1048576 < l0.length)=false:=decide_eq_false (by omega)
  clear c3
  by_cases c4:(l1.length:Int) > 1048576
  ·rw [if_pos c4] at H
   have c4b0:decide (1048576 < (l1.length:Int))=true:=decide_eq_true c4
   have c4b1:decide (1048576 < l1.length)=true:=decide_eq_true (by omega)
   clear c4
   obtain rfl:=Option.some.inj H
   go_enter Tryz.func4,Tryz.ntmps4
   go_wp2
   go_ret
   exact ⟨by first|rfl|(rw [HR_.out];first|done|rfl)|(simp [errW_none,errW_some] <;> rfl)|(simp [*,errW_none,errW_some] <;> rfl),zhb⟩
  ·rw [if_neg c4] at H
   have c4b0:decide (1048576 < (l1.length:Int))=false:=decide_eq_false c4
   have c4b1:decide (1048576 < l1.length)=false:=decide_eq_false (by omega)
   clear c4
   replace H:=Option.bind_eq_some_iff.mp H
   obtain ⟨t377,A50,H⟩:=H
   (try dsimp only at H)
   have A5:=Aside0.mk A50
   clear A50
   replace H:=Option.bind_eq_some_iff.mp H
   obtain ⟨t380,A60,H⟩:=H
   (try dsimp only at H)
   have A6:=Aside0.mk A60
   clear A60
   replace H:=Option.bind_eq_some_iff.mp H
   obtain ⟨⟨t381,t382⟩,A70,H⟩:=H
   (try dsimp only at H)
   have A7:=Aside0.mk A70
   clear A70
   replace H:=Option.bind_eq_some_iff.mp H
   obtain ⟨t385,A80,H⟩:=H
   (try dsimp only at H)
   have A8:=Aside0.mk A80
   clear A80
   by_cases c9:t380.toList=t385.toList
   ·rw [if_pos c9] at H
    have c9b0:(t380.toList == t385.toList)=true:=beq_iff_eq.mpr c9
    have c9b1:(t380.toList != t385.toList)=false:=bne_eq_false_iff_eq.mpr c9
    clear c9
    replace H:=Option.bind_eq_some_iff.mp H
    obtain ⟨t386,A100,H⟩:=H
    (try dsimp only at H)
    have A10:=Aside0.mk A100
    clear A100
    by_cases c11:t386=true
    ·subst c11
     have H1:(if (t380.size:Int)≤9000 then (if t382=true then ((impl_ZSame.f k t381 t377).bind fun t387=>(if t387=true then ((spec_DrawZRead.f k l1).bind fun t388=>((impl_ZRead.f k t388).bind fun bt389=>((spec_ZRead.f k t388).bind fun bt393=>((spec_DrawZSame.f k l0).bind fun bt397=>(if (bt389.2 == bt393.2)=true then (if bt389.2=true then ((impl_ZText.f k bt389.1).bind fun t403=>(if t403.toList=t388.toList then ((impl_ZOk.f k bt389.1).bind fun t404=>(if t404=true then ((impl_ZSame.f k bt397.1 bt397.2).bind fun t405=>((spec_ZSame.f k bt397.1 bt397.2).bind fun t406=>(if (t405 == t406)=true then ((impl_ZSame.f k bt397.1 bt397.1).bind fun t407=>(some t407)) else (some false)))) else (some false))) else (some false))) else ((impl_ZSame.f k bt397.1 bt397.2).bind fun t408=>((spec_ZSame.f k bt397.1 bt397.2).bind fun t409=>(if (t408 == t409)=true then ((impl_ZSame.f k bt397.1 bt397.1).bind fun t410=>(some t410)) else (some false))))) else (some false)))))) else (some false))) else (some false)) else ((spec_DrawZRead.f k l1).bind fun t411=>((impl_ZRead.f k t411).bind fun bt412=>((spec_ZRead.f k t411).bind fun bt416=>((spec_DrawZSame.f k l0).bind fun bt420=>(if (bt412.2 == bt416.2)=true then (if bt412.2=true then ((impl_ZText.f k bt412.1).bind fun t426=>(if t426.toList=t411.toList then ((impl_ZOk.f k bt412.1).bind fun t427=>(if t427=true then ((impl_ZSame.f k bt420.1 bt420.2).bind fun t428=>((spec_ZSame.f k bt420.1 bt420.2).bind fun t429=>(if (t428 == t429)=true then ((impl_ZSame.f k bt420.1 bt420.1).bind fun t430=>(some t430)) else (some false)))) else (some false))) else (some false))) else ((impl_ZSame.f k bt420.1 bt420.2).bind fun t431=>((spec_ZSame.f k bt420.1 bt420.2).bind fun t432=>(if (t431 == t432)=true then ((impl_ZSame.f k bt420.1 bt420.1).bind fun t433=>(some t433)) else (some false))))) else (some false)))))))=some r:=by rw [if_pos rfl] at H;exact H
     clear H
     have H:=H1
     clear H1
     by_cases c12:(t380.size:Int)≤9000
     ·rw [if_pos c12] at H
      have c12b0:decide ((t380.size:Int)≤9000)=true:=decide_eq_true c12
      have c12b1:decide (t380.size≤9000)=true:=decide_eq_true (by omega)
      clear c12
      by_cases c13:t382=true
      ·subst c13
       have H1:((impl_ZSame.f k t381 t377).bind fun t387=>(if t387=true then ((spec_DrawZRead.f k l1).bind fun t388=>((impl_ZRead.f k t388).bind fun bt389=>((spec_ZRead.f k t388).bind fun bt393=>((spec_DrawZSame.f k l0).bind fun bt397=>(if (bt389.2 == bt393.2)=true then (if bt389.2=true then ((impl_ZText.f k bt389.1).bind fun t403=>(if t403.toList=t388.toList then ((impl_ZOk.f k bt389.1).bind fun t404=>(if t404=true then ((impl_ZSame.f k bt397.1 bt397.2).bind fun t405=>((spec_ZSame.f k bt397.1 bt397.2).bind fun t406=>(if (t405 == t406)=true then ((impl_ZSame.f k bt397.1 bt397.1).bind fun t407=>(some t407)) else (some false)))) else (some false))) else (some false))) else ((impl_ZSame.f k bt397.1 bt397.2).bind fun t408=>((spec_ZSame.f k bt397.1 bt397.2).bind fun t409=>(if (t408 == t409)=true then ((impl_ZSame.f k bt397.1 bt397.1).bind fun t410=>(some t410)) else (some false))))) else (some false)))))) else (some false)))=some r:=by rw [if_pos rfl] at H;exact H
       clear H
       have H:=H1
       clear H1
       replace H:=Option.bind_eq_some_iff.mp H
       obtain ⟨t387,A140,H⟩:=H
       (try dsimp only at H)
       have A14:=Aside0.mk A140
       clear A140
       by_cases c15:t387=true
       ·subst c15
        have H1:((spec_DrawZRead.f k l1).bind fun t388=>((impl_ZRead.f k t388).bind fun bt389=>((spec_ZRead.f k t388).bind fun bt393=>((spec_DrawZSame.f k l0).bind fun bt397=>(if (bt389.2 == bt393.2)=true then (if bt389.2=true then ((impl_ZText.f k bt389.1).bind fun t403=>(if t403.toList=t388.toList then ((impl_ZOk.f k bt389.1).bind fun t404=>(if t404=true then ((impl_ZSame.f k bt397.1 bt397.2).bind fun t405=>((spec_ZSame.f k bt397.1 bt397.2).bind fun t406=>(if (t405 == t406)=true then ((impl_ZSame.f k bt397.1 bt397.1).bind fun t407=>(some t407)) else (some false)))) else (some false))) else (some false))) else ((impl_ZSame.f k bt397.1 bt397.2).bind fun t408=>((spec_ZSame.f k bt397.1 bt397.2).bind fun t409=>(if (t408 == t409)=true then ((impl_ZSame.f k bt397.1 bt397.1).bind fun t410=>(some t410)) else (some false))))) else (some false))))))=some r:=by rw [if_pos rfl] at H;exact H
        clear H
        have H:=H1
        clear H1
        replace H:=Option.bind_eq_some_iff.mp H
        obtain ⟨t388,A160,H⟩:=H
        (try dsimp only at H)
        have A16:=Aside0.mk A160
        clear A160
        replace H:=Option.bind_eq_some_iff.mp H
        obtain ⟨⟨t389,t390⟩,A170,H⟩:=H
        (try dsimp only at H)
        have A17:=Aside0.mk A170
        clear A170
        replace H:=Option.bind_eq_some_iff.mp H
        obtain ⟨⟨t393,t394⟩,A180,H⟩:=H
        (try dsimp only at H)
        have A18:=Aside0.mk A180
        clear A180
        replace H:=Option.bind_eq_some_iff.mp H
        obtain ⟨⟨t397,t400⟩,A190,H⟩:=H
        (try dsimp only at H)
        have A19:=Aside0.mk A190
        clear A190
        by_cases c20:(t390 == t394)=true
        ·rw [if_pos c20] at H
         have c20b0:(t390 == t394)=true:=c20
         (try (have c20b1:decide (t390=t394)=true:=by simpa using c20))
         (try (have c20b2:(t390 == t394)=true:=by simpa using c20))
         clear c20
         by_cases c21:t390=true
         ·subst c21
          have H1:((impl_ZText.f k t389).bind fun t403=>(if t403.toList=t388.toList then ((impl_ZOk.f k t389).bind fun t404=>(if t404=true then ((impl_ZSame.f k t397 t400).bind fun t405=>((spec_ZSame.f k t397 t400).bind fun t406=>(if (t405 == t406)=true then ((impl_ZSame.f k t397 t397).bind fun t407=>(some t407)) else (some false)))) else (some false))) else (some false)))=some r:=by rw [if_pos rfl] at H;exact H
          clear H
          have H:=H1
          clear H1
          replace H:=Option.bind_eq_some_iff.mp H
          obtain ⟨t403,A220,H⟩:=H
          (try dsimp only at H)
          have A22:=Aside0.mk A220
          clear A220
          by_cases c23:t403.toList=t388.toList
          ·rw [if_pos c23] at H
           have c23b0:(t403.toList == t388.toList)=true:=beq_iff_eq.mpr c23
           have c23b1:(t403.toList != t388.toList)=false:=bne_eq_false_iff_eq.mpr c23
           clear c23
           replace H:=Option.bind_eq_some_iff.mp H
           obtain ⟨t404,A240,H⟩:=H
           (try dsimp only at H)
           have A24:=Aside0.mk A240
           clear A240
           by_cases c25:t404=true
           ·subst c25
            have H1:((impl_ZSame.f k t397 t400).bind fun t405=>((spec_ZSame.f k t397 t400).bind fun t406=>(if (t405 == t406)=true then ((impl_ZSame.f k t397 t397).bind fun t407=>(some t407)) else (some false))))=some r:=by rw [if_pos rfl] at H;exact H
            clear H
            have H:=H1
            clear H1
            replace H:=Option.bind_eq_some_iff.mp H
            obtain ⟨t405,A260,H⟩:=H
            (try dsimp only at H)
            have A26:=Aside0.mk A260
            clear A260
            replace H:=Option.bind_eq_some_iff.mp H
            obtain ⟨t406,A270,H⟩:=H
            (try dsimp only at H)
            have A27:=Aside0.mk A270
            clear A270
            by_cases c28:(t405 == t406)=true
            ·rw [if_pos c28] at H
             have c28b0:(t405 == t406)=true:=c28
             (try (have c28b1:decide (t405=t406)=true:=by simpa using c28))
             (try (have c28b2:(t405 == t406)=true:=by simpa using c28))
             clear c28
             replace H:=Option.bind_eq_some_iff.mp H
             obtain ⟨t407,A290,H⟩:=H
             (try dsimp only at H)
             have A29:=Aside0.mk A290
             clear A290
             obtain rfl:=Option.some.inj H
             go_enter Tryz.func4,Tryz.ntmps4
             go_wp2_with (first|((with_reducible refine gate_callee (f:=5) rfl ?_);refine goesL_ (some 25) rfl rfl Tryz.func5 (by kernel_rfl) rfl #[.slice A0 l0.length c0] rfl zar ?_;(with_reducible refine (spec_DrawZText.calls k _ _ l0 t377 _ ?side1 ?side2 A5.out).mono ?_);(case side1=>exact zC HR0.out);(case side2=>exact HC0.out);rintro e w30 ⟨v378,rfl,ho0,hb⟩;refine ⟨_,rfl,?_⟩;have n0_:=Aside0.mk (Kd.N_lower (Kd.N_mono (ok':=fun k_=>True) ho0 (fun k_ hk_=>trivial)) (below_size zhb));have n1_:=Aside0.mk (below_step zhb hb);clear HB;have HO379:=n0_;have HB:=n1_;clear n0_ n1_;(try clear hb);(try clear hb2);(try clear hk);(try clear hi);(try clear ho0);obtain ⟨Ao31,co31,eo31⟩:=Kd.N_slice HO379.out;subst eo31)|((with_reducible refine gate_callee (f:=9) rfl ?_);refine goesL_ (some 27) rfl rfl Tryz.func9 (by kernel_rfl) rfl #[.slice Ao31 t377.length co31] rfl zar ?_;(with_reducible refine (impl_ZText.calls k _ _ t377 t380 _ ?side1 ?side2 A6.out).mono ?_);(case side1=>exact zC (Kd.N_reads' HO379.out).2.2);(case side2=>exact (Kd.N_reads' HO379.out).2.1);rintro e w32 ⟨rfl,hb⟩;refine ⟨_,rfl,?_⟩;have n0_:=Aside0.mk (Kd.N_below (zN HO379.out) hb);have n1_:=Aside0.mk (below_step zhb hb);clear HO379;clear HB;have HO379:=n0_;have HB:=n1_;clear n0_ n1_;(try clear hb);(try clear hb2);(try clear hk);(try clear hi))|((with_reducible refine gate_callee (f:=8) rfl ?_);refine goesL_ (some 30) rfl rfl Tryz.func8 (by kernel_rfl) rfl #[.string t380] rfl zar ?_;(with_reducible refine (impl_ZRead.calls k t380 t381 true _ A7.out).mono ?_);rintro e w33 ⟨v383,rfl,ho0,hb⟩;refine ⟨_,rfl,?_⟩;have n0_:=Aside0.mk (Kd.N_elder' (zN HO379.out) (Kd.S_base ho0) hb);have n1_:=Aside0.mk (Kd.N_lower (Kd.N_mono (ok':=fun k_=>some k_≠(.slice Ao31 t377.length co31:Value).ownBlock) (Kd.S_N (Kd.S_bound ho0)) (fun k_ hk_=>(Kd.fresh' (Kd.N_lt (zN HO379.out)) k_ hk_.2.1))) (below_size zhb));have n2_:=Aside0.mk (below_step zhb hb);clear HO379;clear HB;have HO379:=n0_;have HO384:=n1_;have HB:=n2_;clear n0_ n1_ n2_;(try clear hb);(try clear hb2);(try clear hk);(try clear hi);(try clear ho0))|((with_reducible refine gate_callee (f:=13) rfl ?_);refine goesL_ (some 35) rfl rfl Tryz.func13 (by kernel_rfl) rfl #[.slice Ao31 t377.length co31] rfl zar ?_;(with_reducible refine (spec_ZText.calls k _ _ t377 t385 _ ?side1 ?side2 A8.out).mono ?_);(case side1=>exact zC (Kd.N_reads' HO379.out).2.2);(case side2=>exact (Kd.N_reads' HO379.out).2.1);rintro e w34 ⟨rfl,hb⟩;refine ⟨_,rfl,?_⟩;have n0_:=Aside0.mk (Kd.N_below (zN HO379.out) hb);have n1_:=Aside0.mk (Kd.N_below (zN HO384.out) hb);have n2_:=Aside0.mk (below_step zhb hb);clear HO379;clear HO384;clear HB;have HO379:=n0_;have HO384:=n1_;have HB:=n2_;clear n0_ n1_ n2_;(try clear hb);(try clear hb2);(try clear hk);(try clear hi))|(go_at_call 7;(with_reducible refine (spec_ZOk.calls k _ _ t377 true _ ?side1 ?side2 A10.out).mono ?_);(case side1=>exact zC (Kd.N_reads' HO379.out).2.2);(case side2=>exact (Kd.N_reads' HO379.out).2.1);rintro e w35 ⟨rfl,hb⟩;have n0_:=Aside0.mk (Kd.N_below (zN HO379.out) hb);have n1_:=Aside0.mk (Kd.N_below (zN HO384.out) hb);have n2_:=Aside0.mk (below_step zhb hb);clear HO379;clear HO384;clear HB;have HO379:=n0_;have HO384:=n1_;have HB:=n2_;clear n0_ n1_ n2_;(try clear hb);(try clear hb2);(try clear hk);(try clear hi);obtain ⟨Ao36,co36,eo36⟩:=Kd.N_slice HO384.out;subst eo36)|(go_at_call 12;(with_reducible refine (impl_ZSame.calls k _ _ t381 _ _ t377 true _ ?side1 ?side2 ?side3 ?side4 A14.out).mono ?_);(case side1=>exact zC (Kd.N_reads' HO384.out).2.2);(case side2=>exact (Kd.N_reads' HO384.out).2.1);(case side3=>exact zC (Kd.N_reads' HO379.out).2.2);(case side4=>exact (Kd.N_reads' HO379.out).2.1);rintro e w37 ⟨rfl,hb⟩;have n0_:=Aside0.mk (Kd.N_below (zN HO379.out) hb);have n1_:=Aside0.mk (Kd.N_below (zN HO384.out) hb);have n2_:=Aside0.mk (below_step zhb hb);clear HO379;clear HO384;clear HB;have HO379:=n0_;have HO384:=n1_;have HB:=n2_;clear n0_ n1_ n2_;(try clear hb);(try clear hb2);(try clear hk);(try clear hi))|((with_reducible refine gate_callee (f:=14) rfl ?_);refine goesL_ (some 57) rfl rfl Tryz.func14 (by kernel_rfl) rfl #[.slice A1 l1.length c1] rfl zar ?_;(with_reducible refine (spec_DrawZRead.calls k _ _ l1 t388 _ ?side1 ?side2 A16.out).mono ?_);(case side1=>exact zC (Kd.C_below HR1.out HB.out));(case side2=>exact HC1.out);rintro e w38 ⟨rfl,hb⟩;refine ⟨_,rfl,?_⟩;have n0_:=Aside0.mk (Kd.N_below (zN HO379.out) hb);have n1_:=Aside0.mk (Kd.N_below (zN HO384.out) hb);have n2_:=Aside0.mk (below_step zhb hb);clear HO379;clear HO384;clear HB;have HO379:=n0_;have HO384:=n1_;have HB:=n2_;clear n0_ n1_ n2_;(try clear hb);(try clear hb2);(try clear hk);(try clear hi))|((with_reducible refine gate_callee (f:=8) rfl ?_);refine goesL_ (some 60) rfl rfl Tryz.func8 (by kernel_rfl) rfl #[.string t388] rfl zar ?_;(with_reducible refine (impl_ZRead.calls k t388 t389 true _ A17.out).mono ?_);rintro e w39 ⟨v391,rfl,ho0,hb⟩;refine ⟨_,rfl,?_⟩;have n0_:=Aside0.mk (Kd.N_elder' (zN HO379.out) (Kd.S_base ho0) hb);have n1_:=Aside0.mk (Kd.N_elder' (zN HO384.out) (Kd.S_base ho0) hb);have n2_:=Aside0.mk (Kd.N_lower (Kd.N_mono (ok':=fun k_=>some k_≠(.slice Ao31 t377.length co31:Value).ownBlock∧some k_≠(.slice Ao36 t381.length co36:Value).ownBlock) (Kd.S_N (Kd.S_bound ho0)) (fun k_ hk_=>⟨(Kd.fresh' (Kd.N_lt (zN HO379.out)) k_ hk_.2.1),(Kd.fresh' (Kd.N_lt (zN HO384.out)) k_ hk_.2.1)⟩)) (below_size zhb));have n3_:=Aside0.mk (below_step zhb hb);clear HO379;clear HO384;clear HB;have HO379:=n0_;have HO384:=n1_;have HO392:=n2_;have HB:=n3_;clear n0_ n1_ n2_ n3_;(try clear hb);(try clear hb2);(try clear hk);(try clear hi);(try clear ho0))|((with_reducible refine gate_callee (f:=15) rfl ?_);refine goesL_ (some 65) rfl rfl Tryz.func15 (by kernel_rfl) rfl #[.string t388] rfl zar ?_;(with_reducible refine (spec_ZRead.calls k t388 t393 t394 _ A18.out).mono ?_);rintro e w40 ⟨v395,rfl,ho0,hb⟩;refine ⟨_,rfl,?_⟩;have n0_:=Aside0.mk (Kd.N_elder' (zN HO379.out) (Kd.S_base ho0) hb);have n1_:=Aside0.mk (Kd.N_elder' (zN HO384.out) (Kd.S_base ho0) hb);have n2_:=Aside0.mk (Kd.N_elder' (zN HO392.out) (Kd.S_base ho0) hb);have n3_:=Aside0.mk (Kd.N_lower (Kd.N_mono (ok':=fun k_=>some k_≠(.slice Ao31 t377.length co31:Value).ownBlock∧some k_≠(.slice Ao36 t381.length co36:Value).ownBlock∧some k_≠(v391:Value).ownBlock) (Kd.S_N (Kd.S_bound ho0)) (fun k_ hk_=>⟨(Kd.fresh' (Kd.N_lt (zN HO379.out)) k_ hk_.2.1),(Kd.fresh' (Kd.N_lt (zN HO384.out)) k_ hk_.2.1),(Kd.fresh' (Kd.N_lt (zN HO392.out)) k_ hk_.2.1)⟩)) (below_size zhb));have n4_:=Aside0.mk (below_step zhb hb);clear HO379;clear HO384;clear HO392;clear HB;have HO379:=n0_;have HO384:=n1_;have HO392:=n2_;have HO396:=n3_;have HB:=n4_;clear n0_ n1_ n2_ n3_ n4_;(try clear hb);(try clear hb2);(try clear hk);(try clear hi);(try clear ho0))|((with_reducible refine gate_callee (f:=16) rfl ?_);refine goesL_ (some 70) rfl rfl Tryz.func16 (by kernel_rfl) rfl #[.slice A0 l0.length c0] rfl zar ?_;(with_reducible refine (spec_DrawZSame.calls k _ _ l0 t397 t400 _ ?side1 ?side2 A19.out).mono ?_);(case side1=>exact zC (Kd.C_below HR0.out HB.out));(case side2=>exact HC0.out);rintro e w41 ⟨v398,v401,rfl,ho0,ho1,hb⟩;refine ⟨_,rfl,?_⟩;have n0_:=Aside0.mk (Kd.N_mono (Kd.N_told (Kd.N_told (Kd.N_old (zN HO379.out) hb) (Kd.N_base ho0)) (Kd.N_base ho1)) (fun _ h_=>h_.1));have n1_:=Aside0.mk (Kd.N_mono (Kd.N_told (Kd.N_told (Kd.N_old (zN HO384.out) hb) (Kd.N_base ho0)) (Kd.N_base ho1)) (fun _ h_=>h_.1));have n2_:=Aside0.mk (Kd.N_mono (Kd.N_told (Kd.N_told (Kd.N_old (zN HO392.out) hb) (Kd.N_base ho0)) (Kd.N_base ho1)) (fun _ h_=>h_.1));have n3_:=Aside0.mk (Kd.N_mono (Kd.N_told (Kd.N_told (Kd.N_old (zN HO396.out) hb) (Kd.N_base ho0)) (Kd.N_base ho1)) (fun _ h_=>h_.1));have n4_:=Aside0.mk (Kd.N_lower (Kd.N_mono (ok':=fun k_=>some k_≠(v401:Value).ownBlock∧some k_≠(.slice Ao31 t377.length co31:Value).ownBlock∧some k_≠(.slice Ao36 t381.length co36:Value).ownBlock∧some k_≠(v391:Value).ownBlock∧some k_≠(v395:Value).ownBlock) ho0 (fun k_ hk_=>⟨hk_.2,(Kd.fresh' (Kd.N_lt (zN HO379.out)) k_ hk_.1),(Kd.fresh' (Kd.N_lt (zN HO384.out)) k_ hk_.1),(Kd.fresh' (Kd.N_lt (zN HO392.out)) k_ hk_.1),(Kd.fresh' (Kd.N_lt (zN HO396.out)) k_ hk_.1)⟩)) (below_size zhb));have n5_:=Aside0.mk (Kd.N_lower (Kd.N_mono (ok':=fun k_=>some k_≠(v398:Value).ownBlock∧some k_≠(.slice Ao31 t377.length co31:Value).ownBlock∧some k_≠(.slice Ao36 t381.length co36:Value).ownBlock∧some k_≠(v391:Value).ownBlock∧some k_≠(v395:Value).ownBlock) ho1 (fun k_ hk_=>⟨hk_.2,(Kd.fresh' (Kd.N_lt (zN HO379.out)) k_ hk_.1),(Kd.fresh' (Kd.N_lt (zN HO384.out)) k_ hk_.1),(Kd.fresh' (Kd.N_lt (zN HO392.out)) k_ hk_.1),(Kd.fresh' (Kd.N_lt (zN HO396.out)) k_ hk_.1)⟩)) (below_size zhb));have n6_:=Aside0.mk (below_step zhb hb);clear HO379;clear HO384;clear HO392;clear HO396;clear HB;have HO379:=n0_;have HO384:=n1_;have HO392:=n2_;have HO396:=n3_;have HO399:=n4_;have HO402:=n5_;have HB:=n6_;clear n0_ n1_ n2_ n3_ n4_ n5_ n6_;(try clear hb);(try clear hb2);(try clear hk);(try clear hi);(try clear ho0);(try clear ho1);obtain ⟨Ao42,co42,eo42⟩:=Kd.N_slice HO392.out;subst eo42)|(go_at_call 9;(with_reducible refine (impl_ZText.calls k _ _ t389 t403 _ ?side1 ?side2 A22.out).mono ?_);(case side1=>exact zC (Kd.N_reads' HO392.out).2.2);(case side2=>exact (Kd.N_reads' HO392.out).2.1);rintro e w43 ⟨rfl,hb⟩;have n0_:=Aside0.mk (Kd.N_below (zN HO379.out) hb);have n1_:=Aside0.mk (Kd.N_below (zN HO384.out) hb);have n2_:=Aside0.mk (Kd.N_below (zN HO392.out) hb);have n3_:=Aside0.mk (Kd.N_below (zN HO396.out) hb);have n4_:=Aside0.mk (Kd.N_below (zN HO399.out) hb);have n5_:=Aside0.mk (Kd.N_below (zN HO402.out) hb);have n6_:=Aside0.mk (below_step zhb hb);clear HO379;clear HO384;clear HO392;clear HO396;clear HO399;clear HO402;clear HB;have HO379:=n0_;have HO384:=n1_;have HO392:=n2_;have HO396:=n3_;have HO399:=n4_;have HO402:=n5_;have HB:=n6_;clear n0_ n1_ n2_ n3_ n4_ n5_ n6_;(try clear hb);(try clear hb2);(try clear hk);(try clear hi))|(go_at_call 6;(with_reducible refine (impl_ZOk.calls k _ _ t389 true _ ?side1 ?side2 A24.out).mono ?_);(case side1=>exact zC (Kd.N_reads' HO392.out).2.2);(case side2=>exact (Kd.N_reads' HO392.out).2.1);rintro e w44 ⟨rfl,hb⟩;have n0_:=Aside0.mk (Kd.N_below (zN HO379.out) hb);have n1_:=Aside0.mk (Kd.N_below (zN HO384.out) hb);have n2_:=Aside0.mk (Kd.N_below (zN HO392.out) hb);have n3_:=Aside0.mk (Kd.N_below (zN HO396.out) hb);have n4_:=Aside0.mk (Kd.N_below (zN HO399.out) hb);have n5_:=Aside0.mk (Kd.N_below (zN HO402.out) hb);have n6_:=Aside0.mk (below_step zhb hb);clear HO379;clear HO384;clear HO392;clear HO396;clear HO399;clear HO402;clear HB;have HO379:=n0_;have HO384:=n1_;have HO392:=n2_;have HO396:=n3_;have HO399:=n4_;have HO402:=n5_;have HB:=n6_;clear n0_ n1_ n2_ n3_ n4_ n5_ n6_;(try clear hb);(try clear hb2);(try clear hk);(try clear hi);obtain ⟨Ao45,co45,eo45⟩:=Kd.N_slice HO399.out;subst eo45;obtain ⟨Ao46,co46,eo46⟩:=Kd.N_slice HO402.out;subst eo46)|(go_at_call 12;(with_reducible refine (impl_ZSame.calls k _ _ t397 _ _ t400 t405 _ ?side1 ?side2 ?side3 ?side4 A26.out).mono ?_);(case side1=>exact zC (Kd.N_reads' HO399.out).2.2);(case side2=>exact (Kd.N_reads' HO399.out).2.1);(case side3=>exact zC (Kd.N_reads' HO402.out).2.2);(case side4=>exact (Kd.N_reads' HO402.out).2.1);rintro e w47 ⟨rfl,hb⟩;have n0_:=Aside0.mk (Kd.N_below (zN HO379.out) hb);have n1_:=Aside0.mk (Kd.N_below (zN HO384.out) hb);have n2_:=Aside0.mk (Kd.N_below (zN HO392.out) hb);have n3_:=Aside0.mk (Kd.N_below (zN HO396.out) hb);have n4_:=Aside0.mk (Kd.N_below (zN HO399.out) hb);have n5_:=Aside0.mk (Kd.N_below (zN HO402.out) hb);have n6_:=Aside0.mk (below_step zhb hb);clear HO379;clear HO384;clear HO392;clear HO396;clear HO399;clear HO402;clear HB;have HO379:=n0_;have HO384:=n1_;have HO392:=n2_;have HO396:=n3_;have HO399:=n4_;have HO402:=n5_;have HB:=n6_;clear n0_ n1_ n2_ n3_ n4_ n5_ n6_;(try clear hb);(try clear hb2);(try clear hk);(try clear hi))|(go_at_call 17;(with_reducible refine (spec_ZSame.calls k _ _ t397 _ _ t400 t406 _ ?side1 ?side2 ?side3 ?side4 A27.out).mono ?_);(case side1=>exact zC (Kd.N_reads' HO399.out).2.2);(case side2=>exact (Kd.N_reads' HO399.out).2.1);(case side3=>exact zC (Kd.N_reads' HO402.out).2.2);(case side4=>exact (Kd.N_reads' HO402.out).2.1);rintro e w' ⟨rfl,⟨nd,rfl⟩⟩)|(go_at_call 12;(with_reducible refine (impl_ZSame.calls k _ _ t397 _ _ t397 t407 _ ?side1 ?side2 ?side3 ?side4 A29.out).mono ?_);(case side1=>exact zC (Kd.N_reads' HO399.out).2.2);(case side2=>exact (Kd.N_reads' HO399.out).2.1);(case side3=>exact zC (Kd.N_reads' HO399.out).2.2);(case side4=>exact (Kd.N_reads' HO399.out).2.1);rintro e w48 ⟨rfl,hb⟩;have n0_:=Aside0.mk (Kd.N_below (zN HO379.out) hb);have n1_:=Aside0.mk (Kd.N_below (zN HO384.out) hb);have n2_:=Aside0.mk (Kd.N_below (zN HO392.out) hb);have n3_:=Aside0.mk (Kd.N_below (zN HO396.out) hb);have n4_:=Aside0.mk (Kd.N_below (zN HO399.out) hb);have n5_:=Aside0.mk (Kd.N_below (zN HO402.out) hb);have n6_:=Aside0.mk (below_step zhb hb);clear HO379;clear HO384;clear HO392;clear HO396;clear HO399;clear HO402;clear HB;have HO379:=n0_;have HO384:=n1_;have HO392:=n2_;have HO396:=n3_;have HO399:=n4_;have HO402:=n5_;have HB:=n6_;clear n0_ n1_ n2_ n3_ n4_ n5_ n6_;(try clear hb);(try clear hb2);(try clear hk);(try clear hi)))
             go_ret
             exact ⟨by first|rfl|(rw [HR_.out];first|done|rfl)|(simp [errW_none,errW_some] <;> rfl)|(simp [*,errW_none,errW_some] <;> rfl),zhb⟩
            ·rw [if_neg c28] at H
             have c28b0:(t405 == t406)=false:=by simpa using c28
             (try (have c28b1:decide (t405=t406)=false:=by simpa using c28))
             (try (have c28b2:(t405 == t406)=false:=by simpa using c28))
             (try (have c28b3 : ¬ (t405=t406):=by simpa using c28))
             clear c28
             exact absurd ((Option.some.inj H).trans HR_.out) (by decide)
           ·replace c25:=Bool.eq_false_iff.mpr c25
            subst c25
            have H1:(some false)=some r:=by rw [if_neg (show ¬ (false=true) by decide)] at H;exact H
            clear H
            have H:=H1
            clear H1
            exact absurd ((Option.some.inj H).trans HR_.out) (by decide)
          ·rw [if_neg c23] at H
           have c23b0:(t403.toList == t388.toList)=false:=beq_eq_false_iff_ne.mpr c23
           have c23b1:(t403.toList != t388.toList)=true:=bne_iff_ne.mpr c23
           exact absurd ((Option.some.inj H).trans HR_.out) (by decide)
         ·replace c21:=Bool.eq_false_iff.mpr c21
          subst c21
          have H1:((impl_ZSame.f k t397 t400).bind fun t408=>((spec_ZSame.f k t397 t400).bind fun t409=>(if (t408 == t409)=true then ((impl_ZSame.f k t397 t397).bind fun t410=>(some t410)) else (some false))))=some r:=by rw [if_neg (show ¬ (false=true) by decide)] at H;exact H
          clear H
          have H:=H1
          clear H1
          replace H:=Option.bind_eq_some_iff.mp H
          obtain ⟨t408,A490,H⟩:=H
          (try dsimp only at H)
          have A49:=Aside0.mk A490
          clear A490
          replace H:=Option.bind_eq_some_iff.mp H
          obtain ⟨t409,A500,H⟩:=H
          (try dsimp only at H)
          have A50:=Aside0.mk A500
          clear A500
          by_cases c51:(t408 == t409)=true
          ·rw [if_pos c51] at H
           have c51b0:(t408 == t409)=true:=c51
           (try (have c51b1:decide (t408=t409)=true:=by simpa using c51))
           (try (have c51b2:(t408 == t409)=true:=by simpa using c51))
           clear c51
           replace H:=Option.bind_eq_some_iff.mp H
           obtain ⟨t410,A520,H⟩:=H
           (try dsimp only at H)
           have A52:=Aside0.mk A520
           clear A520
           obtain rfl:=Option.some.inj H
           go_enter Tryz.func4,Tryz.ntmps4
           go_wp2_with (first|((with_reducible refine gate_callee (f:=5) rfl ?_);refine goesL_ (some 25) rfl rfl Tryz.func5 (by kernel_rfl) rfl #[.slice A0 l0.length c0] rfl zar ?_;(with_reducible refine (spec_DrawZText.calls k _ _ l0 t377 _ ?side1 ?side2 A5.out).mono ?_);(case side1=>exact zC HR0.out);(case side2=>exact HC0.out);rintro e w53 ⟨v378,rfl,ho0,hb⟩;refine ⟨_,rfl,?_⟩;have n0_:=Aside0.mk (Kd.N_lower (Kd.N_mono (ok':=fun k_=>True) ho0 (fun k_ hk_=>trivial)) (below_size zhb));have n1_:=Aside0.mk (below_step zhb hb);clear HB;have HO379:=n0_;have HB:=n1_;clear n0_ n1_;(try clear hb);(try clear hb2);(try clear hk);(try clear hi);(try clear ho0);obtain ⟨Ao54,co54,eo54⟩:=Kd.N_slice HO379.out;subst eo54)|((with_reducible refine gate_callee (f:=9) rfl ?_);refine goesL_ (some 27) rfl rfl Tryz.func9 (by kernel_rfl) rfl #[.slice Ao54 t377.length co54] rfl zar ?_;(with_reducible refine (impl_ZText.calls k _ _ t377 t380 _ ?side1 ?side2 A6.out).mono ?_);(case side1=>exact zC (Kd.N_reads' HO379.out).2.2);(case side2=>exact (Kd.N_reads' HO379.out).2.1);rintro e w55 ⟨rfl,hb⟩;refine ⟨_,rfl,?_⟩;have n0_:=Aside0.mk (Kd.N_below (zN HO379.out) hb);have n1_:=Aside0.mk (below_step zhb hb);clear HO379;clear HB;have HO379:=n0_;have HB:=n1_;clear n0_ n1_;(try clear hb);(try clear hb2);(try clear hk);(try clear hi))|((with_reducible refine gate_callee (f:=8) rfl ?_);refine goesL_ (some 30) rfl rfl Tryz.func8 (by kernel_rfl) rfl #[.string t380] rfl zar ?_;(with_reducible refine (impl_ZRead.calls k t380 t381 true _ A7.out).mono ?_);rintro e w56 ⟨v383,rfl,ho0,hb⟩;refine ⟨_,rfl,?_⟩;have n0_:=Aside0.mk (Kd.N_elder' (zN HO379.out) (Kd.S_base ho0) hb);have n1_:=Aside0.mk (Kd.N_lower (Kd.N_mono (ok':=fun k_=>some k_≠(.slice Ao54 t377.length co54:Value).ownBlock) (Kd.S_N (Kd.S_bound ho0)) (fun k_ hk_=>(Kd.fresh' (Kd.N_lt (zN HO379.out)) k_ hk_.2.1))) (below_size zhb));have n2_:=Aside0.mk (below_step zhb hb);clear HO379;clear HB;have HO379:=n0_;have HO384:=n1_;have HB:=n2_;clear n0_ n1_ n2_;(try clear hb);(try clear hb2);(try clear hk);(try clear hi);(try clear ho0))|((with_reducible refine gate_callee (f:=13) rfl ?_);refine goesL_ (some 35) rfl rfl Tryz.func13 (by kernel_rfl) rfl #[.slice Ao54 t377.length co54] rfl zar ?_;(with_reducible refine (spec_ZText.calls k _ _ t377 t385 _ ?side1 ?side2 A8.out).mono ?_);(case side1=>exact zC (Kd.N_reads' HO379.out).2.2);(case side2=>exact (Kd.N_reads' HO379.out).2.1);rintro e w57 ⟨rfl,hb⟩;refine ⟨_,rfl,?_⟩;have n0_:=Aside0.mk (Kd.N_below (zN HO379.out) hb);have n1_:=Aside0.mk (Kd.N_below (zN HO384.out) hb);have n2_:=Aside0.mk (below_step zhb hb);clear HO379;clear HO384;clear HB;have HO379:=n0_;have HO384:=n1_;have HB:=n2_;clear n0_ n1_ n2_;(try clear hb);(try clear hb2);(try clear hk);(try clear hi))|(go_at_call 7;(with_reducible refine (spec_ZOk.calls k _ _ t377 true _ ?side1 ?side2 A10.out).mono ?_);(case side1=>exact zC (Kd.N_reads' HO379.out).2.2);(case side2=>exact (Kd.N_reads' HO379.out).2.1);rintro e w58 ⟨rfl,hb⟩;have n0_:=Aside0.mk (Kd.N_below (zN HO379.out) hb);have n1_:=Aside0.mk (Kd.N_below (zN HO384.out) hb);have n2_:=Aside0.mk (below_step zhb hb);clear HO379;clear HO384;clear HB;have HO379:=n0_;have HO384:=n1_;have HB:=n2_;clear n0_ n1_ n2_;(try clear hb);(try clear hb2);(try clear hk);(try clear hi);obtain ⟨Ao59,co59,eo59⟩:=Kd.N_slice HO384.out;subst eo59)|(go_at_call 12;(with_reducible refine (impl_ZSame.calls k _ _ t381 _ _ t377 true _ ?side1 ?side2 ?side3 ?side4 A14.out).mono ?_);(case side1=>exact zC (Kd.N_reads' HO384.out).2.2);(case side2=>exact (Kd.N_reads' HO384.out).2.1);(case side3=>exact zC (Kd.N_reads' HO379.out).2.2);(case side4=>exact (Kd.N_reads' HO379.out).2.1);rintro e w60 ⟨rfl,hb⟩;have n0_:=Aside0.mk (Kd.N_below (zN HO379.out) hb);have n1_:=Aside0.mk (Kd.N_below (zN HO384.out) hb);have n2_:=Aside0.mk (below_step zhb hb);clear HO379;clear HO384;clear HB;have HO379:=n0_;have HO384:=n1_;have HB:=n2_;clear n0_ n1_ n2_;(try clear hb);(try clear hb2);(try clear hk);(try clear hi))|((with_reducible refine gate_callee (f:=14) rfl ?_);refine goesL_ (some 57) rfl rfl Tryz.func14 (by kernel_rfl) rfl #[.slice A1 l1.length c1] rfl zar ?_;(with_reducible refine (spec_DrawZRead.calls k _ _ l1 t388 _ ?side1 ?side2 A16.out).mono ?_);(case side1=>exact zC (Kd.C_below HR1.out HB.out));(case side2=>exact HC1.out);rintro e w61 ⟨rfl,hb⟩;refine ⟨_,rfl,?_⟩;have n0_:=Aside0.mk (Kd.N_below (zN HO379.out) hb);have n1_:=Aside0.mk (Kd.N_below (zN HO384.out) hb);have n2_:=Aside0.mk (below_step zhb hb);clear HO379;clear HO384;clear HB;have HO379:=n0_;have HO384:=n1_;have HB:=n2_;clear n0_ n1_ n2_;(try clear hb);(try clear hb2);(try clear hk);(try clear hi))|((with_reducible refine gate_callee (f:=8) rfl ?_);refine goesL_ (some 60) rfl rfl Tryz.func8 (by kernel_rfl) rfl #[.string t388] rfl zar ?_;(with_reducible refine (impl_ZRead.calls k t388 t389 false _ A17.out).mono ?_);rintro e w62 ⟨v391,rfl,ho0,hb⟩;refine ⟨_,rfl,?_⟩;have n0_:=Aside0.mk (Kd.N_elder' (zN HO379.out) (Kd.S_base ho0) hb);have n1_:=Aside0.mk (Kd.N_elder' (zN HO384.out) (Kd.S_base ho0) hb);have n2_:=Aside0.mk (Kd.N_lower (Kd.N_mono (ok':=fun k_=>some k_≠(.slice Ao54 t377.length co54:Value).ownBlock∧some k_≠(.slice Ao59 t381.length co59:Value).ownBlock) (Kd.S_N (Kd.S_bound ho0)) (fun k_ hk_=>⟨(Kd.fresh' (Kd.N_lt (zN HO379.out)) k_ hk_.2.1),(Kd.fresh' (Kd.N_lt (zN HO384.out)) k_ hk_.2.1)⟩)) (below_size zhb));have n3_:=Aside0.mk (below_step zhb hb);clear HO379;clear HO384;clear HB;have HO379:=n0_;have HO384:=n1_;have HO392:=n2_;have HB:=n3_;clear n0_ n1_ n2_ n3_;(try clear hb);(try clear hb2);(try clear hk);(try clear hi);(try clear ho0))|((with_reducible refine gate_callee (f:=15) rfl ?_);refine goesL_ (some 65) rfl rfl Tryz.func15 (by kernel_rfl) rfl #[.string t388] rfl zar ?_;(with_reducible refine (spec_ZRead.calls k t388 t393 t394 _ A18.out).mono ?_);rintro e w63 ⟨v395,rfl,ho0,hb⟩;refine ⟨_,rfl,?_⟩;have n0_:=Aside0.mk (Kd.N_elder' (zN HO379.out) (Kd.S_base ho0) hb);have n1_:=Aside0.mk (Kd.N_elder' (zN HO384.out) (Kd.S_base ho0) hb);have n2_:=Aside0.mk (Kd.N_elder' (zN HO392.out) (Kd.S_base ho0) hb);have n3_:=Aside0.mk (Kd.N_lower (Kd.N_mono (ok':=fun k_=>some k_≠(.slice Ao54 t377.length co54:Value).ownBlock∧some k_≠(.slice Ao59 t381.length co59:Value).ownBlock∧some k_≠(v391:Value).ownBlock) (Kd.S_N (Kd.S_bound ho0)) (fun k_ hk_=>⟨(Kd.fresh' (Kd.N_lt (zN HO379.out)) k_ hk_.2.1),(Kd.fresh' (Kd.N_lt (zN HO384.out)) k_ hk_.2.1),(Kd.fresh' (Kd.N_lt (zN HO392.out)) k_ hk_.2.1)⟩)) (below_size zhb));have n4_:=Aside0.mk (below_step zhb hb);clear HO379;clear HO384;clear HO392;clear HB;have HO379:=n0_;have HO384:=n1_;have HO392:=n2_;have HO396:=n3_;have HB:=n4_;clear n0_ n1_ n2_ n3_ n4_;(try clear hb);(try clear hb2);(try clear hk);(try clear hi);(try clear ho0))|((with_reducible refine gate_callee (f:=16) rfl ?_);refine goesL_ (some 70) rfl rfl Tryz.func16 (by kernel_rfl) rfl #[.slice A0 l0.length c0] rfl zar ?_;(with_reducible refine (spec_DrawZSame.calls k _ _ l0 t397 t400 _ ?side1 ?side2 A19.out).mono ?_);(case side1=>exact zC (Kd.C_below HR0.out HB.out));(case side2=>exact HC0.out);rintro e w64 ⟨v398,v401,rfl,ho0,ho1,hb⟩;refine ⟨_,rfl,?_⟩;have n0_:=Aside0.mk (Kd.N_mono (Kd.N_told (Kd.N_told (Kd.N_old (zN HO379.out) hb) (Kd.N_base ho0)) (Kd.N_base ho1)) (fun _ h_=>h_.1));have n1_:=Aside0.mk (Kd.N_mono (Kd.N_told (Kd.N_told (Kd.N_old (zN HO384.out) hb) (Kd.N_base ho0)) (Kd.N_base ho1)) (fun _ h_=>h_.1));have n2_:=Aside0.mk (Kd.N_mono (Kd.N_told (Kd.N_told (Kd.N_old (zN HO392.out) hb) (Kd.N_base ho0)) (Kd.N_base ho1)) (fun _ h_=>h_.1));have n3_:=Aside0.mk (Kd.N_mono (Kd.N_told (Kd.N_told (Kd.N_old (zN HO396.out) hb) (Kd.N_base ho0)) (Kd.N_base ho1)) (fun _ h_=>h_.1));have n4_:=Aside0.mk (Kd.N_lower (Kd.N_mono (ok':=fun k_=>some k_≠(v401:Value).ownBlock∧some k_≠(.slice Ao54 t377.length co54:Value).ownBlock∧some k_≠(.slice Ao59 t381.length co59:Value).ownBlock∧some k_≠(v391:Value).ownBlock∧some k_≠(v395:Value).ownBlock) ho0 (fun k_ hk_=>⟨hk_.2,(Kd.fresh' (Kd.N_lt (zN HO379.out)) k_ hk_.1),(Kd.fresh' (Kd.N_lt (zN HO384.out)) k_ hk_.1),(Kd.fresh' (Kd.N_lt (zN HO392.out)) k_ hk_.1),(Kd.fresh' (Kd.N_lt (zN HO396.out)) k_ hk_.1)⟩)) (below_size zhb));have n5_:=Aside0.mk (Kd.N_lower (Kd.N_mono (ok':=fun k_=>some k_≠(v398:Value).ownBlock∧some k_≠(.slice Ao54 t377.length co54:Value).ownBlock∧some k_≠(.slice Ao59 t381.length co59:Value).ownBlock∧some k_≠(v391:Value).ownBlock∧some k_≠(v395:Value).ownBlock) ho1 (fun k_ hk_=>⟨hk_.2,(Kd.fresh' (Kd.N_lt (zN HO379.out)) k_ hk_.1),(Kd.fresh' (Kd.N_lt (zN HO384.out)) k_ hk_.1),(Kd.fresh' (Kd.N_lt (zN HO392.out)) k_ hk_.1),(Kd.fresh' (Kd.N_lt (zN HO396.out)) k_ hk_.1)⟩)) (below_size zhb));have n6_:=Aside0.mk (below_step zhb hb);clear HO379;clear HO384;clear HO392;clear HO396;clear HB;have HO379:=n0_;have HO384:=n1_;have HO392:=n2_;have HO396:=n3_;have HO399:=n4_;have HO402:=n5_;have HB:=n6_;clear n0_ n1_ n2_ n3_ n4_ n5_ n6_;(try clear hb);(try clear hb2);(try clear hk);(try clear hi);(try clear ho0);(try clear ho1);obtain ⟨Ao65,co65,eo65⟩:=Kd.N_slice HO399.out;subst eo65;obtain ⟨Ao66,co66,eo66⟩:=Kd.N_slice HO402.out;subst eo66)|(go_at_call 12;(with_reducible refine (impl_ZSame.calls k _ _ t397 _ _ t400 t408 _ ?side1 ?side2 ?side3 ?side4 A49.out).mono ?_);(case side1=>exact zC (Kd.N_reads' HO399.out).2.2);(case side2=>exact (Kd.N_reads' HO399.out).2.1);(case side3=>exact zC (Kd.N_reads' HO402.out).2.2);(case side4=>exact (Kd.N_reads' HO402.out).2.1);rintro e w67 ⟨rfl,hb⟩;have n0_:=Aside0.mk (Kd.N_below (zN HO379.out) hb);have n1_:=Aside0.mk (Kd.N_below (zN HO384.out) hb);have n2_:=Aside0.mk (Kd.N_below (zN HO392.out) hb);have n3_:=Aside0.mk (Kd.N_below (zN HO396.out) hb);have n4_:=Aside0.mk (Kd.N_below (zN HO399.out) hb);have n5_:=Aside0.mk (Kd.N_below (zN HO402.out) hb);have n6_:=Aside0.mk (below_step zhb hb);clear HO379;clear HO384;clear HO392;clear HO396;clear HO399;clear HO402;clear HB;have HO379:=n0_;have HO384:=n1_;have HO392:=n2_;have HO396:=n3_;have HO399:=n4_;have HO402:=n5_;have HB:=n6_;clear n0_ n1_ n2_ n3_ n4_ n5_ n6_;(try clear hb);(try clear hb2);(try clear hk);(try clear hi))|(go_at_call 17;(with_reducible refine (spec_ZSame.calls k _ _ t397 _ _ t400 t409 _ ?side1 ?side2 ?side3 ?side4 A50.out).mono ?_);(case side1=>exact zC (Kd.N_reads' HO399.out).2.2);(case side2=>exact (Kd.N_reads' HO399.out).2.1);(case side3=>exact zC (Kd.N_reads' HO402.out).2.2);(case side4=>exact (Kd.N_reads' HO402.out).2.1);rintro e w' ⟨rfl,⟨nd,rfl⟩⟩)|(go_at_call 12;(with_reducible refine (impl_ZSame.calls k _ _ t397 _ _ t397 t410 _ ?side1 ?side2 ?side3 ?side4 A52.out).mono ?_);(case side1=>exact zC (Kd.N_reads' HO399.out).2.2);(case side2=>exact (Kd.N_reads' HO399.out).2.1);(case side3=>exact zC (Kd.N_reads' HO399.out).2.2);(case side4=>exact (Kd.N_reads' HO399.out).2.1);rintro e w68 ⟨rfl,hb⟩;have n0_:=Aside0.mk (Kd.N_below (zN HO379.out) hb);have n1_:=Aside0.mk (Kd.N_below (zN HO384.out) hb);have n2_:=Aside0.mk (Kd.N_below (zN HO392.out) hb);have n3_:=Aside0.mk (Kd.N_below (zN HO396.out) hb);have n4_:=Aside0.mk (Kd.N_below (zN HO399.out) hb);have n5_:=Aside0.mk (Kd.N_below (zN HO402.out) hb);have n6_:=Aside0.mk (below_step zhb hb);clear HO379;clear HO384;clear HO392;clear HO396;clear HO399;clear HO402;clear HB;have HO379:=n0_;have HO384:=n1_;have HO392:=n2_;have HO396:=n3_;have HO399:=n4_;have HO402:=n5_;have HB:=n6_;clear n0_ n1_ n2_ n3_ n4_ n5_ n6_;(try clear hb);(try clear hb2);(try clear hk);(try clear hi)))
           go_ret
           exact ⟨by first|rfl|(rw [HR_.out];first|done|rfl)|(simp [errW_none,errW_some] <;> rfl)|(simp [*,errW_none,errW_some] <;> rfl),zhb⟩
          ·rw [if_neg c51] at H
           have c51b0:(t408 == t409)=false:=by simpa using c51
           (try (have c51b1:decide (t408=t409)=false:=by simpa using c51))
           (try (have c51b2:(t408 == t409)=false:=by simpa using c51))
           (try (have c51b3 : ¬ (t408=t409):=by simpa using c51))
           clear c51
           exact absurd ((Option.some.inj H).trans HR_.out) (by decide)
        ·rw [if_neg c20] at H
         have c20b0:(t390 == t394)=false:=by simpa using c20
         (try (have c20b1:decide (t390=t394)=false:=by simpa using c20))
         (try (have c20b2:(t390 == t394)=false:=by simpa using c20))
         (try (have c20b3 : ¬ (t390=t394):=by simpa using c20))
         clear c20
         exact absurd ((Option.some.inj H).trans HR_.out) (by decide)
       ·replace c15:=Bool.eq_false_iff.mpr c15
        subst c15
        have H1:(some false)=some r:=by rw [if_neg (show ¬ (false=true) by decide)] at H;exact H
        clear H
        have H:=H1
        clear H1
        exact absurd ((Option.some.inj H).trans HR_.out) (by decide)
      ·replace c13:=Bool.eq_false_iff.mpr c13
       subst c13
       have H1:(some false)=some r:=by rw [if_neg (show ¬ (false=true) by decide)] at H;exact H
       clear H
       have H:=H1
       clear H1
       exact absurd ((Option.some.inj H).trans HR_.out) (by decide)
     ·rw [if_neg c12] at H
      have c12b0:decide ((t380.size:Int)≤9000)=false:=decide_eq_false c12
      have c12b1:decide (t380.size≤9000)=false:=decide_eq_false (by omega)
      clear c12
      replace H:=Option.bind_eq_some_iff.mp H
      obtain ⟨t411,A690,H⟩:=H
      (try dsimp only at H)
      have A69:=Aside0.mk A690
      clear A690
      replace H:=Option.bind_eq_some_iff.mp H
      obtain ⟨⟨t412,t413⟩,A700,H⟩:=H
      (try dsimp only at H)
      have A70:=Aside0.mk A700
      clear A700
      replace H:=Option.bind_eq_some_iff.mp H
      obtain ⟨⟨t416,t417⟩,A710,H⟩:=H
      (try dsimp only at H)
      have A71:=Aside0.mk A710
      clear A710
      replace H:=Option.bind_eq_some_iff.mp H
      obtain ⟨⟨t420,t423⟩,A720,H⟩:=H
      (try dsimp only at H)
      have A72:=Aside0.mk A720
      clear A720
      by_cases c73:(t413 == t417)=true
      ·rw [if_pos c73] at H
       have c73b0:(t413 == t417)=true:=c73
       (try (have c73b1:decide (t413=t417)=true:=by simpa using c73))
       (try (have c73b2:(t413 == t417)=true:=by simpa using c73))
       clear c73
       by_cases c74:t413=true
       ·subst c74
        have H1:((impl_ZText.f k t412).bind fun t426=>(if t426.toList=t411.toList then ((impl_ZOk.f k t412).bind fun t427=>(if t427=true then ((impl_ZSame.f k t420 t423).bind fun t428=>((spec_ZSame.f k t420 t423).bind fun t429=>(if (t428 == t429)=true then ((impl_ZSame.f k t420 t420).bind fun t430=>(some t430)) else (some false)))) else (some false))) else (some false)))=some r:=by rw [if_pos rfl] at H;exact H
        clear H
        have H:=H1
        clear H1
        replace H:=Option.bind_eq_some_iff.mp H
        obtain ⟨t426,A750,H⟩:=H
        (try dsimp only at H)
        have A75:=Aside0.mk A750
        clear A750
        by_cases c76:t426.toList=t411.toList
        ·rw [if_pos c76] at H
         have c76b0:(t426.toList == t411.toList)=true:=beq_iff_eq.mpr c76
         have c76b1:(t426.toList != t411.toList)=false:=bne_eq_false_iff_eq.mpr c76
         clear c76
         replace H:=Option.bind_eq_some_iff.mp H
         obtain ⟨t427,A770,H⟩:=H
         (try dsimp only at H)
         have A77:=Aside0.mk A770
         clear A770
         by_cases c78:t427=true
         ·subst c78
          have H1:((impl_ZSame.f k t420 t423).bind fun t428=>((spec_ZSame.f k t420 t423).bind fun t429=>(if (t428 == t429)=true then ((impl_ZSame.f k t420 t420).bind fun t430=>(some t430)) else (some false))))=some r:=by rw [if_pos rfl] at H;exact H
          clear H
          have H:=H1
          clear H1
          replace H:=Option.bind_eq_some_iff.mp H
          obtain ⟨t428,A790,H⟩:=H
          (try dsimp only at H)
          have A79:=Aside0.mk A790
          clear A790
          replace H:=Option.bind_eq_some_iff.mp H
          obtain ⟨t429,A800,H⟩:=H
          (try dsimp only at H)
          have A80:=Aside0.mk A800
          clear A800
          by_cases c81:(t428 == t429)=true
          ·rw [if_pos c81] at H
           have c81b0:(t428 == t429)=true:=c81
           (try (have c81b1:decide (t428=t429)=true:=by simpa using c81))
           (try (have c81b2:(t428 == t429)=true:=by simpa using c81))
           clear c81
           replace H:=Option.bind_eq_some_iff.mp H
           obtain ⟨t430,A820,H⟩:=H
           (try dsimp only at H)
           have A82:=Aside0.mk A820
           clear A820
           obtain rfl:=Option.some.inj H
           go_enter Tryz.func4,Tryz.ntmps4
           go_wp2_with (first|((with_reducible refine gate_callee (f:=5) rfl ?_);refine goesL_ (some 25) rfl rfl Tryz.func5 (by kernel_rfl) rfl #[.slice A0 l0.length c0] rfl zar ?_;(with_reducible refine (spec_DrawZText.calls k _ _ l0 t377 _ ?side1 ?side2 A5.out).mono ?_);(case side1=>exact zC HR0.out);(case side2=>exact HC0.out);rintro e w83 ⟨v378,rfl,ho0,hb⟩;refine ⟨_,rfl,?_⟩;have n0_:=Aside0.mk (Kd.N_lower (Kd.N_mono (ok':=fun k_=>True) ho0 (fun k_ hk_=>trivial)) (below_size zhb));have n1_:=Aside0.mk (below_step zhb hb);clear HB;have HO379:=n0_;have HB:=n1_;clear n0_ n1_;(try clear hb);(try clear hb2);(try clear hk);(try clear hi);(try clear ho0);obtain ⟨Ao84,co84,eo84⟩:=Kd.N_slice HO379.out;subst eo84)|((with_reducible refine gate_callee (f:=9) rfl ?_);refine goesL_ (some 27) rfl rfl Tryz.func9 (by kernel_rfl) rfl #[.slice Ao84 t377.length co84] rfl zar ?_;(with_reducible refine (impl_ZText.calls k _ _ t377 t380 _ ?side1 ?side2 A6.out).mono ?_);(case side1=>exact zC (Kd.N_reads' HO379.out).2.2);(case side2=>exact (Kd.N_reads' HO379.out).2.1);rintro e w85 ⟨rfl,hb⟩;refine ⟨_,rfl,?_⟩;have n0_:=Aside0.mk (Kd.N_below (zN HO379.out) hb);have n1_:=Aside0.mk (below_step zhb hb);clear HO379;clear HB;have HO379:=n0_;have HB:=n1_;clear n0_ n1_;(try clear hb);(try clear hb2);(try clear hk);(try clear hi))|((with_reducible refine gate_callee (f:=8) rfl ?_);refine goesL_ (some 30) rfl rfl Tryz.func8 (by kernel_rfl) rfl #[.string t380] rfl zar ?_;(with_reducible refine (impl_ZRead.calls k t380 t381 t382 _ A7.out).mono ?_);rintro e w86 ⟨v383,rfl,ho0,hb⟩;refine ⟨_,rfl,?_⟩;have n0_:=Aside0.mk (Kd.N_elder' (zN HO379.out) (Kd.S_base ho0) hb);have n1_:=Aside0.mk (Kd.N_lower (Kd.N_mono (ok':=fun k_=>some k_≠(.slice Ao84 t377.length co84:Value).ownBlock) (Kd.S_N (Kd.S_bound ho0)) (fun k_ hk_=>(Kd.fresh' (Kd.N_lt (zN HO379.out)) k_ hk_.2.1))) (below_size zhb));have n2_:=Aside0.mk (below_step zhb hb);clear HO379;clear HB;have HO379:=n0_;have HO384:=n1_;have HB:=n2_;clear n0_ n1_ n2_;(try clear hb);(try clear hb2);(try clear hk);(try clear hi);(try clear ho0))|((with_reducible refine gate_callee (f:=13) rfl ?_);refine goesL_ (some 35) rfl rfl Tryz.func13 (by kernel_rfl) rfl #[.slice Ao84 t377.length co84] rfl zar ?_;(with_reducible refine (spec_ZText.calls k _ _ t377 t385 _ ?side1 ?side2 A8.out).mono ?_);(case side1=>exact zC (Kd.N_reads' HO379.out).2.2);(case side2=>exact (Kd.N_reads' HO379.out).2.1);rintro e w87 ⟨rfl,hb⟩;refine ⟨_,rfl,?_⟩;have n0_:=Aside0.mk (Kd.N_below (zN HO379.out) hb);have n1_:=Aside0.mk (Kd.N_below (zN HO384.out) hb);have n2_:=Aside0.mk (below_step zhb hb);clear HO379;clear HO384;clear HB;have HO379:=n0_;have HO384:=n1_;have HB:=n2_;clear n0_ n1_ n2_;(try clear hb);(try clear hb2);(try clear hk);(try clear hi))|(go_at_call 7;(with_reducible refine (spec_ZOk.calls k _ _ t377 true _ ?side1 ?side2 A10.out).mono ?_);(case side1=>exact zC (Kd.N_reads' HO379.out).2.2);(case side2=>exact (Kd.N_reads' HO379.out).2.1);rintro e w88 ⟨rfl,hb⟩;have n0_:=Aside0.mk (Kd.N_below (zN HO379.out) hb);have n1_:=Aside0.mk (Kd.N_below (zN HO384.out) hb);have n2_:=Aside0.mk (below_step zhb hb);clear HO379;clear HO384;clear HB;have HO379:=n0_;have HO384:=n1_;have HB:=n2_;clear n0_ n1_ n2_;(try clear hb);(try clear hb2);(try clear hk);(try clear hi))|((with_reducible refine gate_callee (f:=14) rfl ?_);refine goesL_ (some 57) rfl rfl Tryz.func14 (by kernel_rfl) rfl #[.slice A1 l1.length c1] rfl zar ?_;(with_reducible refine (spec_DrawZRead.calls k _ _ l1 t411 _ ?side1 ?side2 A69.out).mono ?_);(case side1=>exact zC (Kd.C_below HR1.out HB.out));(case side2=>exact HC1.out);rintro e w89 ⟨rfl,hb⟩;refine ⟨_,rfl,?_⟩;have n0_:=Aside0.mk (Kd.N_below (zN HO379.out) hb);have n1_:=Aside0.mk (Kd.N_below (zN HO384.out) hb);have n2_:=Aside0.mk (below_step zhb hb);clear HO379;clear HO384;clear HB;have HO379:=n0_;have HO384:=n1_;have HB:=n2_;clear n0_ n1_ n2_;(try clear hb);(try clear hb2);(try clear hk);(try clear hi))|((with_reducible refine gate_callee (f:=8) rfl ?_);refine goesL_ (some 60) rfl rfl Tryz.func8 (by kernel_rfl) rfl #[.string t411] rfl zar ?_;(with_reducible refine (impl_ZRead.calls k t411 t412 true _ A70.out).mono ?_);rintro e w90 ⟨v414,rfl,ho0,hb⟩;refine ⟨_,rfl,?_⟩;have n0_:=Aside0.mk (Kd.N_elder' (zN HO379.out) (Kd.S_base ho0) hb);have n1_:=Aside0.mk (Kd.N_elder' (zN HO384.out) (Kd.S_base ho0) hb);have n2_:=Aside0.mk (Kd.N_lower (Kd.N_mono (ok':=fun k_=>some k_≠(.slice Ao84 t377.length co84:Value).ownBlock∧some k_≠(v383:Value).ownBlock) (Kd.S_N (Kd.S_bound ho0)) (fun k_ hk_=>⟨(Kd.fresh' (Kd.N_lt (zN HO379.out)) k_ hk_.2.1),(Kd.fresh' (Kd.N_lt (zN HO384.out)) k_ hk_.2.1)⟩)) (below_size zhb));have n3_:=Aside0.mk (below_step zhb hb);clear HO379;clear HO384;clear HB;have HO379:=n0_;have HO384:=n1_;have HO415:=n2_;have HB:=n3_;clear n0_ n1_ n2_ n3_;(try clear hb);(try clear hb2);(try clear hk);(try clear hi);(try clear ho0))|((with_reducible refine gate_callee (f:=15) rfl ?_);refine goesL_ (some 65) rfl rfl Tryz.func15 (by kernel_rfl) rfl #[.string t411] rfl zar ?_;(with_reducible refine (spec_ZRead.calls k t411 t416 t417 _ A71.out).mono ?_);rintro e w91 ⟨v418,rfl,ho0,hb⟩;refine ⟨_,rfl,?_⟩;have n0_:=Aside0.mk (Kd.N_elder' (zN HO379.out) (Kd.S_base ho0) hb);have n1_:=Aside0.mk (Kd.N_elder' (zN HO384.out) (Kd.S_base ho0) hb);have n2_:=Aside0.mk (Kd.N_elder' (zN HO415.out) (Kd.S_base ho0) hb);have n3_:=Aside0.mk (Kd.N_lower (Kd.N_mono (ok':=fun k_=>some k_≠(.slice Ao84 t377.length co84:Value).ownBlock∧some k_≠(v383:Value).ownBlock∧some k_≠(v414:Value).ownBlock) (Kd.S_N (Kd.S_bound ho0)) (fun k_ hk_=>⟨(Kd.fresh' (Kd.N_lt (zN HO379.out)) k_ hk_.2.1),(Kd.fresh' (Kd.N_lt (zN HO384.out)) k_ hk_.2.1),(Kd.fresh' (Kd.N_lt (zN HO415.out)) k_ hk_.2.1)⟩)) (below_size zhb));have n4_:=Aside0.mk (below_step zhb hb);clear HO379;clear HO384;clear HO415;clear HB;have HO379:=n0_;have HO384:=n1_;have HO415:=n2_;have HO419:=n3_;have HB:=n4_;clear n0_ n1_ n2_ n3_ n4_;(try clear hb);(try clear hb2);(try clear hk);(try clear hi);(try clear ho0))|((with_reducible refine gate_callee (f:=16) rfl ?_);refine goesL_ (some 70) rfl rfl Tryz.func16 (by kernel_rfl) rfl #[.slice A0 l0.length c0] rfl zar ?_;(with_reducible refine (spec_DrawZSame.calls k _ _ l0 t420 t423 _ ?side1 ?side2 A72.out).mono ?_);(case side1=>exact zC (Kd.C_below HR0.out HB.out));(case side2=>exact HC0.out);rintro e w92 ⟨v421,v424,rfl,ho0,ho1,hb⟩;refine ⟨_,rfl,?_⟩;have n0_:=Aside0.mk (Kd.N_mono (Kd.N_told (Kd.N_told (Kd.N_old (zN HO379.out) hb) (Kd.N_base ho0)) (Kd.N_base ho1)) (fun _ h_=>h_.1));have n1_:=Aside0.mk (Kd.N_mono (Kd.N_told (Kd.N_told (Kd.N_old (zN HO384.out) hb) (Kd.N_base ho0)) (Kd.N_base ho1)) (fun _ h_=>h_.1));have n2_:=Aside0.mk (Kd.N_mono (Kd.N_told (Kd.N_told (Kd.N_old (zN HO415.out) hb) (Kd.N_base ho0)) (Kd.N_base ho1)) (fun _ h_=>h_.1));have n3_:=Aside0.mk (Kd.N_mono (Kd.N_told (Kd.N_told (Kd.N_old (zN HO419.out) hb) (Kd.N_base ho0)) (Kd.N_base ho1)) (fun _ h_=>h_.1));have n4_:=Aside0.mk (Kd.N_lower (Kd.N_mono (ok':=fun k_=>some k_≠(v424:Value).ownBlock∧some k_≠(.slice Ao84 t377.length co84:Value).ownBlock∧some k_≠(v383:Value).ownBlock∧some k_≠(v414:Value).ownBlock∧some k_≠(v418:Value).ownBlock) ho0 (fun k_ hk_=>⟨hk_.2,(Kd.fresh' (Kd.N_lt (zN HO379.out)) k_ hk_.1),(Kd.fresh' (Kd.N_lt (zN HO384.out)) k_ hk_.1),(Kd.fresh' (Kd.N_lt (zN HO415.out)) k_ hk_.1),(Kd.fresh' (Kd.N_lt (zN HO419.out)) k_ hk_.1)⟩)) (below_size zhb));have n5_:=Aside0.mk (Kd.N_lower (Kd.N_mono (ok':=fun k_=>some k_≠(v421:Value).ownBlock∧some k_≠(.slice Ao84 t377.length co84:Value).ownBlock∧some k_≠(v383:Value).ownBlock∧some k_≠(v414:Value).ownBlock∧some k_≠(v418:Value).ownBlock) ho1 (fun k_ hk_=>⟨hk_.2,(Kd.fresh' (Kd.N_lt (zN HO379.out)) k_ hk_.1),(Kd.fresh' (Kd.N_lt (zN HO384.out)) k_ hk_.1),(Kd.fresh' (Kd.N_lt (zN HO415.out)) k_ hk_.1),(Kd.fresh' (Kd.N_lt (zN HO419.out)) k_ hk_.1)⟩)) (below_size zhb));have n6_:=Aside0.mk (below_step zhb hb);clear HO379;clear HO384;clear HO415;clear HO419;clear HB;have HO379:=n0_;have HO384:=n1_;have HO415:=n2_;have HO419:=n3_;have HO422:=n4_;have HO425:=n5_;have HB:=n6_;clear n0_ n1_ n2_ n3_ n4_ n5_ n6_;(try clear hb);(try clear hb2);(try clear hk);(try clear hi);(try clear ho0);(try clear ho1);obtain ⟨Ao93,co93,eo93⟩:=Kd.N_slice HO415.out;subst eo93)|(go_at_call 9;(with_reducible refine (impl_ZText.calls k _ _ t412 t426 _ ?side1 ?side2 A75.out).mono ?_);(case side1=>exact zC (Kd.N_reads' HO415.out).2.2);(case side2=>exact (Kd.N_reads' HO415.out).2.1);rintro e w94 ⟨rfl,hb⟩;have n0_:=Aside0.mk (Kd.N_below (zN HO379.out) hb);have n1_:=Aside0.mk (Kd.N_below (zN HO384.out) hb);have n2_:=Aside0.mk (Kd.N_below (zN HO415.out) hb);have n3_:=Aside0.mk (Kd.N_below (zN HO419.out) hb);have n4_:=Aside0.mk (Kd.N_below (zN HO422.out) hb);have n5_:=Aside0.mk (Kd.N_below (zN HO425.out) hb);have n6_:=Aside0.mk (below_step zhb hb);clear HO379;clear HO384;clear HO415;clear HO419;clear HO422;clear HO425;clear HB;have HO379:=n0_;have HO384:=n1_;have HO415:=n2_;have HO419:=n3_;have HO422:=n4_;have HO425:=n5_;have HB:=n6_;clear n0_ n1_ n2_ n3_ n4_ n5_ n6_;(try clear hb);(try clear hb2);(try clear hk);(try clear hi))|(go_at_call 6;(with_reducible refine (impl_ZOk.calls k _ _ t412 true _ ?side1 ?side2 A77.out).mono ?_);(case side1=>exact zC (Kd.N_reads' HO415.out).2.2);(case side2=>exact (Kd.N_reads' HO415.out).2.1);rintro e w95 ⟨rfl,hb⟩;have n0_:=Aside0.mk (Kd.N_below (zN HO379.out) hb);have n1_:=Aside0.mk (Kd.N_below (zN HO384.out) hb);have n2_:=Aside0.mk (Kd.N_below (zN HO415.out) hb);have n3_:=Aside0.mk (Kd.N_below (zN HO419.out) hb);have n4_:=Aside0.mk (Kd.N_below (zN HO422.out) hb);have n5_:=Aside0.mk (Kd.N_below (zN HO425.out) hb);have n6_:=Aside0.mk (below_step zhb hb);clear HO379;clear HO384;clear HO415;clear HO419;clear HO422;clear HO425;clear HB;have HO379:=n0_;have HO384:=n1_;have HO415:=n2_;have HO419:=n3_;have HO422:=n4_;have HO425:=n5_;have HB:=n6_;clear n0_ n1_ n2_ n3_ n4_ n5_ n6_;(try clear hb);(try clear hb2);(try clear hk);(try clear hi);obtain ⟨Ao96,co96,eo96⟩:=Kd.N_slice HO422.out;subst eo96;obtain ⟨Ao97,co97,eo97⟩:=Kd.N_slice HO425.out;subst eo97)|(go_at_call 12;(with_reducible refine (impl_ZSame.calls k _ _ t420 _ _ t423 t428 _ ?side1 ?side2 ?side3 ?side4 A79.out).mono ?_);(case side1=>exact zC (Kd.N_reads' HO422.out).2.2);(case side2=>exact (Kd.N_reads' HO422.out).2.1);(case side3=>exact zC (Kd.N_reads' HO425.out).2.2);(case side4=>exact (Kd.N_reads' HO425.out).2.1);rintro e w98 ⟨rfl,hb⟩;have n0_:=Aside0.mk (Kd.N_below (zN HO379.out) hb);have n1_:=Aside0.mk (Kd.N_below (zN HO384.out) hb);have n2_:=Aside0.mk (Kd.N_below (zN HO415.out) hb);have n3_:=Aside0.mk (Kd.N_below (zN HO419.out) hb);have n4_:=Aside0.mk (Kd.N_below (zN HO422.out) hb);have n5_:=Aside0.mk (Kd.N_below (zN HO425.out) hb);have n6_:=Aside0.mk (below_step zhb hb);clear HO379;clear HO384;clear HO415;clear HO419;clear HO422;clear HO425;clear HB;have HO379:=n0_;have HO384:=n1_;have HO415:=n2_;have HO419:=n3_;have HO422:=n4_;have HO425:=n5_;have HB:=n6_;clear n0_ n1_ n2_ n3_ n4_ n5_ n6_;(try clear hb);(try clear hb2);(try clear hk);(try clear hi))|(go_at_call 17;(with_reducible refine (spec_ZSame.calls k _ _ t420 _ _ t423 t429 _ ?side1 ?side2 ?side3 ?side4 A80.out).mono ?_);(case side1=>exact zC (Kd.N_reads' HO422.out).2.2);(case side2=>exact (Kd.N_reads' HO422.out).2.1);(case side3=>exact zC (Kd.N_reads' HO425.out).2.2);(case side4=>exact (Kd.N_reads' HO425.out).2.1);rintro e w' ⟨rfl,⟨nd,rfl⟩⟩)|(go_at_call 12;(with_reducible refine (impl_ZSame.calls k _ _ t420 _ _ t420 t430 _ ?side1 ?side2 ?side3 ?side4 A82.out).mono ?_);(case side1=>exact zC (Kd.N_reads' HO422.out).2.2);(case side2=>exact (Kd.N_reads' HO422.out).2.1);(case side3=>exact zC (Kd.N_reads' HO422.out).2.2);(case side4=>exact (Kd.N_reads' HO422.out).2.1);rintro e w99 ⟨rfl,hb⟩;have n0_:=Aside0.mk (Kd.N_below (zN HO379.out) hb);have n1_:=Aside0.mk (Kd.N_below (zN HO384.out) hb);have n2_:=Aside0.mk (Kd.N_below (zN HO415.out) hb);have n3_:=Aside0.mk (Kd.N_below (zN HO419.out) hb);have n4_:=Aside0.mk (Kd.N_below (zN HO422.out) hb);have n5_:=Aside0.mk (Kd.N_below (zN HO425.out) hb);have n6_:=Aside0.mk (below_step zhb hb);clear HO379;clear HO384;clear HO415;clear HO419;clear HO422;clear HO425;clear HB;have HO379:=n0_;have HO384:=n1_;have HO415:=n2_;have HO419:=n3_;have HO422:=n4_;have HO425:=n5_;have HB:=n6_;clear n0_ n1_ n2_ n3_ n4_ n5_ n6_;(try clear hb);(try clear hb2);(try clear hk);(try clear hi)))
           go_ret
           exact ⟨by first|rfl|(rw [HR_.out];first|done|rfl)|(simp [errW_none,errW_some] <;> rfl)|(simp [*,errW_none,errW_some] <;> rfl),zhb⟩
          ·rw [if_neg c81] at H
           have c81b0:(t428 == t429)=false:=by simpa using c81
           (try (have c81b1:decide (t428=t429)=false:=by simpa using c81))
           (try (have c81b2:(t428 == t429)=false:=by simpa using c81))
           (try (have c81b3 : ¬ (t428=t429):=by simpa using c81))
           clear c81
           exact absurd ((Option.some.inj H).trans HR_.out) (by decide)
         ·replace c78:=Bool.eq_false_iff.mpr c78
          subst c78
          have H1:(some false)=some r:=by rw [if_neg (show ¬ (false=true) by decide)] at H;exact H
          clear H
          have H:=H1
          clear H1
          exact absurd ((Option.some.inj H).trans HR_.out) (by decide)
        ·rw [if_neg c76] at H
         have c76b0:(t426.toList == t411.toList)=false:=beq_eq_false_iff_ne.mpr c76
         have c76b1:(t426.toList != t411.toList)=true:=bne_iff_ne.mpr c76
         exact absurd ((Option.some.inj H).trans HR_.out) (by decide)
       ·replace c74:=Bool.eq_false_iff.mpr c74
        subst c74
        have H1:((impl_ZSame.f k t420 t423).bind fun t431=>((spec_ZSame.f k t420 t423).bind fun t432=>(if (t431 == t432)=true then ((impl_ZSame.f k t420 t420).bind fun t433=>(some t433)) else (some false))))=some r:=by rw [if_neg (show ¬ (false=true) by decide)] at H;exact H
        clear H
        have H:=H1
        clear H1
        replace H:=Option.bind_eq_some_iff.mp H
        obtain ⟨t431,A1000,H⟩:=H
        (try dsimp only at H)
        have A100:=Aside0.mk A1000
        clear A1000
        replace H:=Option.bind_eq_some_iff.mp H
        obtain ⟨t432,A1010,H⟩:=H
        (try dsimp only at H)
        have A101:=Aside0.mk A1010
        clear A1010
        by_cases c102:(t431 == t432)=true
        ·rw [if_pos c102] at H
         have c102b0:(t431 == t432)=true:=c102
         (try (have c102b1:decide (t431=t432)=true:=by simpa using c102))
         (try (have c102b2:(t431 == t432)=true:=by simpa using c102))
         clear c102
         replace H:=Option.bind_eq_some_iff.mp H
         obtain ⟨t433,A1030,H⟩:=H
         (try dsimp only at H)
         have A103:=Aside0.mk A1030
         clear A1030
         obtain rfl:=Option.some.inj H
         go_enter Tryz.func4,Tryz.ntmps4
         go_wp2_with (first|((with_reducible refine gate_callee (f:=5) rfl ?_);refine goesL_ (some 25) rfl rfl Tryz.func5 (by kernel_rfl) rfl #[.slice A0 l0.length c0] rfl zar ?_;(with_reducible refine (spec_DrawZText.calls k _ _ l0 t377 _ ?side1 ?side2 A5.out).mono ?_);(case side1=>exact zC HR0.out);(case side2=>exact HC0.out);rintro e w104 ⟨v378,rfl,ho0,hb⟩;refine ⟨_,rfl,?_⟩;have n0_:=Aside0.mk (Kd.N_lower (Kd.N_mono (ok':=fun k_=>True) ho0 (fun k_ hk_=>trivial)) (below_size zhb));have n1_:=Aside0.mk (below_step zhb hb);clear HB;have HO379:=n0_;have HB:=n1_;clear n0_ n1_;(try clear hb);(try clear hb2);(try clear hk);(try clear hi);(try clear ho0);obtain ⟨Ao105,co105,eo105⟩:=Kd.N_slice HO379.out;subst eo105)|((with_reducible refine gate_callee (f:=9) rfl ?_);refine goesL_ (some 27) rfl rfl Tryz.func9 (by kernel_rfl) rfl #[.slice Ao105 t377.length co105] rfl zar ?_;(with_reducible refine (impl_ZText.calls k _ _ t377 t380 _ ?side1 ?side2 A6.out).mono ?_);(case side1=>exact zC (Kd.N_reads' HO379.out).2.2);(case side2=>exact (Kd.N_reads' HO379.out).2.1);rintro e w106 ⟨rfl,hb⟩;refine ⟨_,rfl,?_⟩;have n0_:=Aside0.mk (Kd.N_below (zN HO379.out) hb);have n1_:=Aside0.mk (below_step zhb hb);clear HO379;clear HB;have HO379:=n0_;have HB:=n1_;clear n0_ n1_;(try clear hb);(try clear hb2);(try clear hk);(try clear hi))|((with_reducible refine gate_callee (f:=8) rfl ?_);refine goesL_ (some 30) rfl rfl Tryz.func8 (by kernel_rfl) rfl #[.string t380] rfl zar ?_;(with_reducible refine (impl_ZRead.calls k t380 t381 t382 _ A7.out).mono ?_);rintro e w107 ⟨v383,rfl,ho0,hb⟩;refine ⟨_,rfl,?_⟩;have n0_:=Aside0.mk (Kd.N_elder' (zN HO379.out) (Kd.S_base ho0) hb);have n1_:=Aside0.mk (Kd.N_lower (Kd.N_mono (ok':=fun k_=>some k_≠(.slice Ao105 t377.length co105:Value).ownBlock) (Kd.S_N (Kd.S_bound ho0)) (fun k_ hk_=>(Kd.fresh' (Kd.N_lt (zN HO379.out)) k_ hk_.2.1))) (below_size zhb));have n2_:=Aside0.mk (below_step zhb hb);clear HO379;clear HB;have HO379:=n0_;have HO384:=n1_;have HB:=n2_;clear n0_ n1_ n2_;(try clear hb);(try clear hb2);(try clear hk);(try clear hi);(try clear ho0))|((with_reducible refine gate_callee (f:=13) rfl ?_);refine goesL_ (some 35) rfl rfl Tryz.func13 (by kernel_rfl) rfl #[.slice Ao105 t377.length co105] rfl zar ?_;(with_reducible refine (spec_ZText.calls k _ _ t377 t385 _ ?side1 ?side2 A8.out).mono ?_);(case side1=>exact zC (Kd.N_reads' HO379.out).2.2);(case side2=>exact (Kd.N_reads' HO379.out).2.1);rintro e w108 ⟨rfl,hb⟩;refine ⟨_,rfl,?_⟩;have n0_:=Aside0.mk (Kd.N_below (zN HO379.out) hb);have n1_:=Aside0.mk (Kd.N_below (zN HO384.out) hb);have n2_:=Aside0.mk (below_step zhb hb);clear HO379;clear HO384;clear HB;have HO379:=n0_;have HO384:=n1_;have HB:=n2_;clear n0_ n1_ n2_;(try clear hb);(try clear hb2);(try clear hk);(try clear hi))|(go_at_call 7;(with_reducible refine (spec_ZOk.calls k _ _ t377 true _ ?side1 ?side2 A10.out).mono ?_);(case side1=>exact zC (Kd.N_reads' HO379.out).2.2);(case side2=>exact (Kd.N_reads' HO379.out).2.1);rintro e w109 ⟨rfl,hb⟩;have n0_:=Aside0.mk (Kd.N_below (zN HO379.out) hb);have n1_:=Aside0.mk (Kd.N_below (zN HO384.out) hb);have n2_:=Aside0.mk (below_step zhb hb);clear HO379;clear HO384;clear HB;have HO379:=n0_;have HO384:=n1_;have HB:=n2_;clear n0_ n1_ n2_;(try clear hb);(try clear hb2);(try clear hk);(try clear hi))|((with_reducible refine gate_callee (f:=14) rfl ?_);refine goesL_ (some 57) rfl rfl Tryz.func14 (by kernel_rfl) rfl #[.slice A1 l1.length c1] rfl zar ?_;(with_reducible refine (spec_DrawZRead.calls k _ _ l1 t411 _ ?side1 ?side2 A69.out).mono ?_);(case side1=>exact zC (Kd.C_below HR1.out HB.out));(case side2=>exact HC1.out);rintro e w110 ⟨rfl,hb⟩;refine ⟨_,rfl,?_⟩;have n0_:=Aside0.mk (Kd.N_below (zN HO379.out) hb);have n1_:=Aside0.mk (Kd.N_below (zN HO384.out) hb);have n2_:=Aside0.mk (below_step zhb hb);clear HO379;clear HO384;clear HB;have HO379:=n0_;have HO384:=n1_;have HB:=n2_;clear n0_ n1_ n2_;(try clear hb);(try clear hb2);(try clear hk);(try clear hi))|((with_reducible refine gate_callee (f:=8) rfl ?_);refine goesL_ (some 60) rfl rfl Tryz.func8 (by kernel_rfl) rfl #[.string t411] rfl zar ?_;(with_reducible refine (impl_ZRead.calls k t411 t412 false _ A70.out).mono ?_);rintro e w111 ⟨v414,rfl,ho0,hb⟩;refine ⟨_,rfl,?_⟩;have n0_:=Aside0.mk (Kd.N_elder' (zN HO379.out) (Kd.S_base ho0) hb);have n1_:=Aside0.mk (Kd.N_elder' (zN HO384.out) (Kd.S_base ho0) hb);have n2_:=Aside0.mk (Kd.N_lower (Kd.N_mono (ok':=fun k_=>some k_≠(.slice Ao105 t377.length co105:Value).ownBlock∧some k_≠(v383:Value).ownBlock) (Kd.S_N (Kd.S_bound ho0)) (fun k_ hk_=>⟨(Kd.fresh' (Kd.N_lt (zN HO379.out)) k_ hk_.2.1),(Kd.fresh' (Kd.N_lt (zN HO384.out)) k_ hk_.2.1)⟩)) (below_size zhb));have n3_:=Aside0.mk (below_step zhb hb);clear HO379;clear HO384;clear HB;have HO379:=n0_;have HO384:=n1_;have HO415:=n2_;have HB:=n3_;clear n0_ n1_ n2_ n3_;(try clear hb);(try clear hb2);(try clear hk);(try clear hi);(try clear ho0))|((with_reducible refine gate_callee (f:=15) rfl ?_);refine goesL_ (some 65) rfl rfl Tryz.func15 (by kernel_rfl) rfl #[.string t411] rfl zar ?_;(with_reducible refine (spec_ZRead.calls k t411 t416 t417 _ A71.out).mono ?_);rintro e w112 ⟨v418,rfl,ho0,hb⟩;refine ⟨_,rfl,?_⟩;have n0_:=Aside0.mk (Kd.N_elder' (zN HO379.out) (Kd.S_base ho0) hb);have n1_:=Aside0.mk (Kd.N_elder' (zN HO384.out) (Kd.S_base ho0) hb);have n2_:=Aside0.mk (Kd.N_elder' (zN HO415.out) (Kd.S_base ho0) hb);have n3_:=Aside0.mk (Kd.N_lower (Kd.N_mono (ok':=fun k_=>some k_≠(.slice Ao105 t377.length co105:Value).ownBlock∧some k_≠(v383:Value).ownBlock∧some k_≠(v414:Value).ownBlock) (Kd.S_N (Kd.S_bound ho0)) (fun k_ hk_=>⟨(Kd.fresh' (Kd.N_lt (zN HO379.out)) k_ hk_.2.1),(Kd.fresh' (Kd.N_lt (zN HO384.out)) k_ hk_.2.1),(Kd.fresh' (Kd.N_lt (zN HO415.out)) k_ hk_.2.1)⟩)) (below_size zhb));have n4_:=Aside0.mk (below_step zhb hb);clear HO379;clear HO384;clear HO415;clear HB;have HO379:=n0_;have HO384:=n1_;have HO415:=n2_;have HO419:=n3_;have HB:=n4_;clear n0_ n1_ n2_ n3_ n4_;(try clear hb);(try clear hb2);(try clear hk);(try clear hi);(try clear ho0))|((with_reducible refine gate_callee (f:=16) rfl ?_);refine goesL_ (some 70) rfl rfl Tryz.func16 (by kernel_rfl) rfl #[.slice A0 l0.length c0] rfl zar ?_;(with_reducible refine (spec_DrawZSame.calls k _ _ l0 t420 t423 _ ?side1 ?side2 A72.out).mono ?_);(case side1=>exact zC (Kd.C_below HR0.out HB.out));(case side2=>exact HC0.out);rintro e w113 ⟨v421,v424,rfl,ho0,ho1,hb⟩;refine ⟨_,rfl,?_⟩;have n0_:=Aside0.mk (Kd.N_mono (Kd.N_told (Kd.N_told (Kd.N_old (zN HO379.out) hb) (Kd.N_base ho0)) (Kd.N_base ho1)) (fun _ h_=>h_.1));have n1_:=Aside0.mk (Kd.N_mono (Kd.N_told (Kd.N_told (Kd.N_old (zN HO384.out) hb) (Kd.N_base ho0)) (Kd.N_base ho1)) (fun _ h_=>h_.1));have n2_:=Aside0.mk (Kd.N_mono (Kd.N_told (Kd.N_told (Kd.N_old (zN HO415.out) hb) (Kd.N_base ho0)) (Kd.N_base ho1)) (fun _ h_=>h_.1));have n3_:=Aside0.mk (Kd.N_mono (Kd.N_told (Kd.N_told (Kd.N_old (zN HO419.out) hb) (Kd.N_base ho0)) (Kd.N_base ho1)) (fun _ h_=>h_.1));have n4_:=Aside0.mk (Kd.N_lower (Kd.N_mono (ok':=fun k_=>some k_≠(v424:Value).ownBlock∧some k_≠(.slice Ao105 t377.length co105:Value).ownBlock∧some k_≠(v383:Value).ownBlock∧some k_≠(v414:Value).ownBlock∧some k_≠(v418:Value).ownBlock) ho0 (fun k_ hk_=>⟨hk_.2,(Kd.fresh' (Kd.N_lt (zN HO379.out)) k_ hk_.1),(Kd.fresh' (Kd.N_lt (zN HO384.out)) k_ hk_.1),(Kd.fresh' (Kd.N_lt (zN HO415.out)) k_ hk_.1),(Kd.fresh' (Kd.N_lt (zN HO419.out)) k_ hk_.1)⟩)) (below_size zhb));have n5_:=Aside0.mk (Kd.N_lower (Kd.N_mono (ok':=fun k_=>some k_≠(v421:Value).ownBlock∧some k_≠(.slice Ao105 t377.length co105:Value).ownBlock∧some k_≠(v383:Value).ownBlock∧some k_≠(v414:Value).ownBlock∧some k_≠(v418:Value).ownBlock) ho1 (fun k_ hk_=>⟨hk_.2,(Kd.fresh' (Kd.N_lt (zN HO379.out)) k_ hk_.1),(Kd.fresh' (Kd.N_lt (zN HO384.out)) k_ hk_.1),(Kd.fresh' (Kd.N_lt (zN HO415.out)) k_ hk_.1),(Kd.fresh' (Kd.N_lt (zN HO419.out)) k_ hk_.1)⟩)) (below_size zhb));have n6_:=Aside0.mk (below_step zhb hb);clear HO379;clear HO384;clear HO415;clear HO419;clear HB;have HO379:=n0_;have HO384:=n1_;have HO415:=n2_;have HO419:=n3_;have HO422:=n4_;have HO425:=n5_;have HB:=n6_;clear n0_ n1_ n2_ n3_ n4_ n5_ n6_;(try clear hb);(try clear hb2);(try clear hk);(try clear hi);(try clear ho0);(try clear ho1);obtain ⟨Ao114,co114,eo114⟩:=Kd.N_slice HO422.out;subst eo114;obtain ⟨Ao115,co115,eo115⟩:=Kd.N_slice HO425.out;subst eo115)|(go_at_call 12;(with_reducible refine (impl_ZSame.calls k _ _ t420 _ _ t423 t431 _ ?side1 ?side2 ?side3 ?side4 A100.out).mono ?_);(case side1=>exact zC (Kd.N_reads' HO422.out).2.2);(case side2=>exact (Kd.N_reads' HO422.out).2.1);(case side3=>exact zC (Kd.N_reads' HO425.out).2.2);(case side4=>exact (Kd.N_reads' HO425.out).2.1);rintro e w116 ⟨rfl,hb⟩;have n0_:=Aside0.mk (Kd.N_below (zN HO379.out) hb);have n1_:=Aside0.mk (Kd.N_below (zN HO384.out) hb);have n2_:=Aside0.mk (Kd.N_below (zN HO415.out) hb);have n3_:=Aside0.mk (Kd.N_below (zN HO419.out) hb);have n4_:=Aside0.mk (Kd.N_below (zN HO422.out) hb);have n5_:=Aside0.mk (Kd.N_below (zN HO425.out) hb);have n6_:=Aside0.mk (below_step zhb hb);clear HO379;clear HO384;clear HO415;clear HO419;clear HO422;clear HO425;clear HB;have HO379:=n0_;have HO384:=n1_;have HO415:=n2_;have HO419:=n3_;have HO422:=n4_;have HO425:=n5_;have HB:=n6_;clear n0_ n1_ n2_ n3_ n4_ n5_ n6_;(try clear hb);(try clear hb2);(try clear hk);(try clear hi))|(go_at_call 17;(with_reducible refine (spec_ZSame.calls k _ _ t420 _ _ t423 t432 _ ?side1 ?side2 ?side3 ?side4 A101.out).mono ?_);(case side1=>exact zC (Kd.N_reads' HO422.out).2.2);(case side2=>exact (Kd.N_reads' HO422.out).2.1);(case side3=>exact zC (Kd.N_reads' HO425.out).2.2);(case side4=>exact (Kd.N_reads' HO425.out).2.1);rintro e w' ⟨rfl,⟨nd,rfl⟩⟩)|(go_at_call 12;(with_reducible refine (impl_ZSame.calls k _ _ t420 _ _ t420 t433 _ ?side1 ?side2 ?side3 ?side4 A103.out).mono ?_);(case side1=>exact zC (Kd.N_reads' HO422.out).2.2);(case side2=>exact (Kd.N_reads' HO422.out).2.1);(case side3=>exact zC (Kd.N_reads' HO422.out).2.2);(case side4=>exact (Kd.N_reads' HO422.out).2.1);rintro e w117 ⟨rfl,hb⟩;have n0_:=Aside0.mk (Kd.N_below (zN HO379.out) hb);have n1_:=Aside0.mk (Kd.N_below (zN HO384.out) hb);have n2_:=Aside0.mk (Kd.N_below (zN HO415.out) hb);have n3_:=Aside0.mk (Kd.N_below (zN HO419.out) hb);have n4_:=Aside0.mk (Kd.N_below (zN HO422.out) hb);have n5_:=Aside0.mk (Kd.N_below (zN HO425.out) hb);have n6_:=Aside0.mk (below_step zhb hb);clear HO379;clear HO384;clear HO415;clear HO419;clear HO422;clear HO425;clear HB;have HO379:=n0_;have HO384:=n1_;have HO415:=n2_;have HO419:=n3_;have HO422:=n4_;have HO425:=n5_;have HB:=n6_;clear n0_ n1_ n2_ n3_ n4_ n5_ n6_;(try clear hb);(try clear hb2);(try clear hk);(try clear hi)))
         go_ret
         exact ⟨by first|rfl|(rw [HR_.out];first|done|rfl)|(simp [errW_none,errW_some] <;> rfl)|(simp [*,errW_none,errW_some] <;> rfl),zhb⟩
        ·rw [if_neg c102] at H
         have c102b0:(t431 == t432)=false:=by simpa using c102
         (try (have c102b1:decide (t431=t432)=false:=by simpa using c102))
         (try (have c102b2:(t431 == t432)=false:=by simpa using c102))
         (try (have c102b3 : ¬ (t431=t432):=by simpa using c102))
         clear c102
         exact absurd ((Option.some.inj H).trans HR_.out) (by decide)
      ·rw [if_neg c73] at H
       have c73b0:(t413 == t417)=false:=by simpa using c73
       (try (have c73b1:decide (t413=t417)=false:=by simpa using c73))
       (try (have c73b2:(t413 == t417)=false:=by simpa using c73))
       (try (have c73b3 : ¬ (t413=t417):=by simpa using c73))
       clear c73
       exact absurd ((Option.some.inj H).trans HR_.out) (by decide)
    ·replace c11:=Bool.eq_false_iff.mpr c11
     subst c11
     have H1:((spec_DrawZRead.f k l1).bind fun t434=>((impl_ZRead.f k t434).bind fun bt435=>((spec_ZRead.f k t434).bind fun bt439=>((spec_DrawZSame.f k l0).bind fun bt443=>(if (bt435.2 == bt439.2)=true then (if bt435.2=true then ((impl_ZText.f k bt435.1).bind fun t449=>(if t449.toList=t434.toList then ((impl_ZOk.f k bt435.1).bind fun t450=>(if t450=true then ((impl_ZSame.f k bt443.1 bt443.2).bind fun t451=>((spec_ZSame.f k bt443.1 bt443.2).bind fun t452=>(if (t451 == t452)=true then ((impl_ZSame.f k bt443.1 bt443.1).bind fun t453=>(some t453)) else (some false)))) else (some false))) else (some false))) else ((impl_ZSame.f k bt443.1 bt443.2).bind fun t454=>((spec_ZSame.f k bt443.1 bt443.2).bind fun t455=>(if (t454 == t455)=true then ((impl_ZSame.f k bt443.1 bt443.1).bind fun t456=>(some t456)) else (some false))))) else (some false))))))=some r:=by rw [if_neg (show ¬ (false=true) by decide)] at H;exact H
     clear H
     have H:=H1
     clear H1
     replace H:=Option.bind_eq_some_iff.mp H
     obtain ⟨t434,A1180,H⟩:=H
     (try dsimp only at H)
     have A118:=Aside0.mk A1180
     clear A1180
     replace H:=Option.bind_eq_some_iff.mp H
     obtain ⟨⟨t435,t436⟩,A1190,H⟩:=H
     (try dsimp only at H)
     have A119:=Aside0.mk A1190
     clear A1190
     replace H:=Option.bind_eq_some_iff.mp H
     obtain ⟨⟨t439,t440⟩,A1200,H⟩:=H
     (try dsimp only at H)
     have A120:=Aside0.mk A1200
     clear A1200
     replace H:=Option.bind_eq_some_iff.mp H
     obtain ⟨⟨t443,t446⟩,A1210,H⟩:=H
     (try dsimp only at H)
     have A121:=Aside0.mk A1210
     clear A1210
     by_cases c122:(t436 == t440)=true
     ·rw [if_pos c122] at H
      have c122b0:(t436 == t440)=true:=c122
      (try (have c122b1:decide (t436=t440)=true:=by simpa using c122))
      (try (have c122b2:(t436 == t440)=true:=by simpa using c122))
      clear c122
      by_cases c123:t436=true
      ·subst c123
       have H1:((impl_ZText.f k t435).bind fun t449=>(if t449.toList=t434.toList then ((impl_ZOk.f k t435).bind fun t450=>(if t450=true then ((impl_ZSame.f k t443 t446).bind fun t451=>((spec_ZSame.f k t443 t446).bind fun t452=>(if (t451 == t452)=true then ((impl_ZSame.f k t443 t443).bind fun t453=>(some t453)) else (some false)))) else (some false))) else (some false)))=some r:=by rw [if_pos rfl] at H;exact H
       clear H
       have H:=H1
       clear H1
       replace H:=Option.bind_eq_some_iff.mp H
       obtain ⟨t449,A1240,H⟩:=H
       (try dsimp only at H)
       have A124:=Aside0.mk A1240
       clear A1240
       by_cases c125:t449.toList=t434.toList
       ·rw [if_pos c125] at H
        have c125b0:(t449.toList == t434.toList)=true:=beq_iff_eq.mpr c125
        have c125b1:(t449.toList != t434.toList)=false:=bne_eq_false_iff_eq.mpr c125
        clear c125
        replace H:=Option.bind_eq_some_iff.mp H
        obtain ⟨t450,A1260,H⟩:=H
        (try dsimp only at H)
        have A126:=Aside0.mk A1260
        clear A1260
        by_cases c127:t450=true
        ·subst c127
         have H1:((impl_ZSame.f k t443 t446).bind fun t451=>((spec_ZSame.f k t443 t446).bind fun t452=>(if (t451 == t452)=true then ((impl_ZSame.f k t443 t443).bind fun t453=>(some t453)) else (some false))))=some r:=by rw [if_pos rfl] at H;exact H
         clear H
         have H:=H1
         clear H1
         replace H:=Option.bind_eq_some_iff.mp H
         obtain ⟨t451,A1280,H⟩:=H
         (try dsimp only at H)
         have A128:=Aside0.mk A1280
         clear A1280
         replace H:=Option.bind_eq_some_iff.mp H
         obtain ⟨t452,A1290,H⟩:=H
         (try dsimp only at H)
         have A129:=Aside0.mk A1290
         clear A1290
         by_cases c130:(t451 == t452)=true
         ·rw [if_pos c130] at H
          have c130b0:(t451 == t452)=true:=c130
          (try (have c130b1:decide (t451=t452)=true:=by simpa using c130))
          (try (have c130b2:(t451 == t452)=true:=by simpa using c130))
          clear c130
          replace H:=Option.bind_eq_some_iff.mp H
          obtain ⟨t453,A1310,H⟩:=H
          (try dsimp only at H)
          have A131:=Aside0.mk A1310
          clear A1310
          obtain rfl:=Option.some.inj H
          go_enter Tryz.func4,Tryz.ntmps4
          go_wp2_with (first|((with_reducible refine gate_callee (f:=5) rfl ?_);refine goesL_ (some 25) rfl rfl Tryz.func5 (by kernel_rfl) rfl #[.slice A0 l0.length c0] rfl zar ?_;(with_reducible refine (spec_DrawZText.calls k _ _ l0 t377 _ ?side1 ?side2 A5.out).mono ?_);(case side1=>exact zC HR0.out);(case side2=>exact HC0.out);rintro e w132 ⟨v378,rfl,ho0,hb⟩;refine ⟨_,rfl,?_⟩;have n0_:=Aside0.mk (Kd.N_lower (Kd.N_mono (ok':=fun k_=>True) ho0 (fun k_ hk_=>trivial)) (below_size zhb));have n1_:=Aside0.mk (below_step zhb hb);clear HB;have HO379:=n0_;have HB:=n1_;clear n0_ n1_;(try clear hb);(try clear hb2);(try clear hk);(try clear hi);(try clear ho0);obtain ⟨Ao133,co133,eo133⟩:=Kd.N_slice HO379.out;subst eo133)|((with_reducible refine gate_callee (f:=9) rfl ?_);refine goesL_ (some 27) rfl rfl Tryz.func9 (by kernel_rfl) rfl #[.slice Ao133 t377.length co133] rfl zar ?_;(with_reducible refine (impl_ZText.calls k _ _ t377 t380 _ ?side1 ?side2 A6.out).mono ?_);(case side1=>exact zC (Kd.N_reads' HO379.out).2.2);(case side2=>exact (Kd.N_reads' HO379.out).2.1);rintro e w134 ⟨rfl,hb⟩;refine ⟨_,rfl,?_⟩;have n0_:=Aside0.mk (Kd.N_below (zN HO379.out) hb);have n1_:=Aside0.mk (below_step zhb hb);clear HO379;clear HB;have HO379:=n0_;have HB:=n1_;clear n0_ n1_;(try clear hb);(try clear hb2);(try clear hk);(try clear hi))|((with_reducible refine gate_callee (f:=8) rfl ?_);refine goesL_ (some 30) rfl rfl Tryz.func8 (by kernel_rfl) rfl #[.string t380] rfl zar ?_;(with_reducible refine (impl_ZRead.calls k t380 t381 t382 _ A7.out).mono ?_);rintro e w135 ⟨v383,rfl,ho0,hb⟩;refine ⟨_,rfl,?_⟩;have n0_:=Aside0.mk (Kd.N_elder' (zN HO379.out) (Kd.S_base ho0) hb);have n1_:=Aside0.mk (Kd.N_lower (Kd.N_mono (ok':=fun k_=>some k_≠(.slice Ao133 t377.length co133:Value).ownBlock) (Kd.S_N (Kd.S_bound ho0)) (fun k_ hk_=>(Kd.fresh' (Kd.N_lt (zN HO379.out)) k_ hk_.2.1))) (below_size zhb));have n2_:=Aside0.mk (below_step zhb hb);clear HO379;clear HB;have HO379:=n0_;have HO384:=n1_;have HB:=n2_;clear n0_ n1_ n2_;(try clear hb);(try clear hb2);(try clear hk);(try clear hi);(try clear ho0))|((with_reducible refine gate_callee (f:=13) rfl ?_);refine goesL_ (some 35) rfl rfl Tryz.func13 (by kernel_rfl) rfl #[.slice Ao133 t377.length co133] rfl zar ?_;(with_reducible refine (spec_ZText.calls k _ _ t377 t385 _ ?side1 ?side2 A8.out).mono ?_);(case side1=>exact zC (Kd.N_reads' HO379.out).2.2);(case side2=>exact (Kd.N_reads' HO379.out).2.1);rintro e w136 ⟨rfl,hb⟩;refine ⟨_,rfl,?_⟩;have n0_:=Aside0.mk (Kd.N_below (zN HO379.out) hb);have n1_:=Aside0.mk (Kd.N_below (zN HO384.out) hb);have n2_:=Aside0.mk (below_step zhb hb);clear HO379;clear HO384;clear HB;have HO379:=n0_;have HO384:=n1_;have HB:=n2_;clear n0_ n1_ n2_;(try clear hb);(try clear hb2);(try clear hk);(try clear hi))|(go_at_call 7;(with_reducible refine (spec_ZOk.calls k _ _ t377 false _ ?side1 ?side2 A10.out).mono ?_);(case side1=>exact zC (Kd.N_reads' HO379.out).2.2);(case side2=>exact (Kd.N_reads' HO379.out).2.1);rintro e w137 ⟨rfl,hb⟩;have n0_:=Aside0.mk (Kd.N_below (zN HO379.out) hb);have n1_:=Aside0.mk (Kd.N_below (zN HO384.out) hb);have n2_:=Aside0.mk (below_step zhb hb);clear HO379;clear HO384;clear HB;have HO379:=n0_;have HO384:=n1_;have HB:=n2_;clear n0_ n1_ n2_;(try clear hb);(try clear hb2);(try clear hk);(try clear hi))|((with_reducible refine gate_callee (f:=14) rfl ?_);refine goesL_ (some 57) rfl rfl Tryz.func14 (by kernel_rfl) rfl #[.slice A1 l1.length c1] rfl zar ?_;(with_reducible refine (spec_DrawZRead.calls k _ _ l1 t434 _ ?side1 ?side2 A118.out).mono ?_);(case side1=>exact zC (Kd.C_below HR1.out HB.out));(case side2=>exact HC1.out);rintro e w138 ⟨rfl,hb⟩;refine ⟨_,rfl,?_⟩;have n0_:=Aside0.mk (Kd.N_below (zN HO379.out) hb);have n1_:=Aside0.mk (Kd.N_below (zN HO384.out) hb);have n2_:=Aside0.mk (below_step zhb hb);clear HO379;clear HO384;clear HB;have HO379:=n0_;have HO384:=n1_;have HB:=n2_;clear n0_ n1_ n2_;(try clear hb);(try clear hb2);(try clear hk);(try clear hi))|((with_reducible refine gate_callee (f:=8) rfl ?_);refine goesL_ (some 60) rfl rfl Tryz.func8 (by kernel_rfl) rfl #[.string t434] rfl zar ?_;(with_reducible refine (impl_ZRead.calls k t434 t435 true _ A119.out).mono ?_);rintro e w139 ⟨v437,rfl,ho0,hb⟩;refine ⟨_,rfl,?_⟩;have n0_:=Aside0.mk (Kd.N_elder' (zN HO379.out) (Kd.S_base ho0) hb);have n1_:=Aside0.mk (Kd.N_elder' (zN HO384.out) (Kd.S_base ho0) hb);have n2_:=Aside0.mk (Kd.N_lower (Kd.N_mono (ok':=fun k_=>some k_≠(.slice Ao133 t377.length co133:Value).ownBlock∧some k_≠(v383:Value).ownBlock) (Kd.S_N (Kd.S_bound ho0)) (fun k_ hk_=>⟨(Kd.fresh' (Kd.N_lt (zN HO379.out)) k_ hk_.2.1),(Kd.fresh' (Kd.N_lt (zN HO384.out)) k_ hk_.2.1)⟩)) (below_size zhb));have n3_:=Aside0.mk (below_step zhb hb);clear HO379;clear HO384;clear HB;have HO379:=n0_;have HO384:=n1_;have HO438:=n2_;have HB:=n3_;clear n0_ n1_ n2_ n3_;(try clear hb);(try clear hb2);(try clear hk);(try clear hi);(try clear ho0))|((with_reducible refine gate_callee (f:=15) rfl ?_);refine goesL_ (some 65) rfl rfl Tryz.func15 (by kernel_rfl) rfl #[.string t434] rfl zar ?_;(with_reducible refine (spec_ZRead.calls k t434 t439 t440 _ A120.out).mono ?_);rintro e w140 ⟨v441,rfl,ho0,hb⟩;refine ⟨_,rfl,?_⟩;have n0_:=Aside0.mk (Kd.N_elder' (zN HO379.out) (Kd.S_base ho0) hb);have n1_:=Aside0.mk (Kd.N_elder' (zN HO384.out) (Kd.S_base ho0) hb);have n2_:=Aside0.mk (Kd.N_elder' (zN HO438.out) (Kd.S_base ho0) hb);have n3_:=Aside0.mk (Kd.N_lower (Kd.N_mono (ok':=fun k_=>some k_≠(.slice Ao133 t377.length co133:Value).ownBlock∧some k_≠(v383:Value).ownBlock∧some k_≠(v437:Value).ownBlock) (Kd.S_N (Kd.S_bound ho0)) (fun k_ hk_=>⟨(Kd.fresh' (Kd.N_lt (zN HO379.out)) k_ hk_.2.1),(Kd.fresh' (Kd.N_lt (zN HO384.out)) k_ hk_.2.1),(Kd.fresh' (Kd.N_lt (zN HO438.out)) k_ hk_.2.1)⟩)) (below_size zhb));have n4_:=Aside0.mk (below_step zhb hb);clear HO379;clear HO384;clear HO438;clear HB;have HO379:=n0_;have HO384:=n1_;have HO438:=n2_;have HO442:=n3_;have HB:=n4_;clear n0_ n1_ n2_ n3_ n4_;(try clear hb);(try clear hb2);(try clear hk);(try clear hi);(try clear ho0))|((with_reducible refine gate_callee (f:=16) rfl ?_);refine goesL_ (some 70) rfl rfl Tryz.func16 (by kernel_rfl) rfl #[.slice A0 l0.length c0] rfl zar ?_;(with_reducible refine (spec_DrawZSame.calls k _ _ l0 t443 t446 _ ?side1 ?side2 A121.out).mono ?_);(case side1=>exact zC (Kd.C_below HR0.out HB.out));(case side2=>exact HC0.out);rintro e w141 ⟨v444,v447,rfl,ho0,ho1,hb⟩;refine ⟨_,rfl,?_⟩;have n0_:=Aside0.mk (Kd.N_mono (Kd.N_told (Kd.N_told (Kd.N_old (zN HO379.out) hb) (Kd.N_base ho0)) (Kd.N_base ho1)) (fun _ h_=>h_.1));have n1_:=Aside0.mk (Kd.N_mono (Kd.N_told (Kd.N_told (Kd.N_old (zN HO384.out) hb) (Kd.N_base ho0)) (Kd.N_base ho1)) (fun _ h_=>h_.1));have n2_:=Aside0.mk (Kd.N_mono (Kd.N_told (Kd.N_told (Kd.N_old (zN HO438.out) hb) (Kd.N_base ho0)) (Kd.N_base ho1)) (fun _ h_=>h_.1));have n3_:=Aside0.mk (Kd.N_mono (Kd.N_told (Kd.N_told (Kd.N_old (zN HO442.out) hb) (Kd.N_base ho0)) (Kd.N_base ho1)) (fun _ h_=>h_.1));have n4_:=Aside0.mk (Kd.N_lower (Kd.N_mono (ok':=fun k_=>some k_≠(v447:Value).ownBlock∧some k_≠(.slice Ao133 t377.length co133:Value).ownBlock∧some k_≠(v383:Value).ownBlock∧some k_≠(v437:Value).ownBlock∧some k_≠(v441:Value).ownBlock) ho0 (fun k_ hk_=>⟨hk_.2,(Kd.fresh' (Kd.N_lt (zN HO379.out)) k_ hk_.1),(Kd.fresh' (Kd.N_lt (zN HO384.out)) k_ hk_.1),(Kd.fresh' (Kd.N_lt (zN HO438.out)) k_ hk_.1),(Kd.fresh' (Kd.N_lt (zN HO442.out)) k_ hk_.1)⟩)) (below_size zhb));have n5_:=Aside0.mk (Kd.N_lower (Kd.N_mono (ok':=fun k_=>some k_≠(v444:Value).ownBlock∧some k_≠(.slice Ao133 t377.length co133:Value).ownBlock∧some k_≠(v383:Value).ownBlock∧some k_≠(v437:Value).ownBlock∧some k_≠(v441:Value).ownBlock) ho1 (fun k_ hk_=>⟨hk_.2,(Kd.fresh' (Kd.N_lt (zN HO379.out)) k_ hk_.1),(Kd.fresh' (Kd.N_lt (zN HO384.out)) k_ hk_.1),(Kd.fresh' (Kd.N_lt (zN HO438.out)) k_ hk_.1),(Kd.fresh' (Kd.N_lt (zN HO442.out)) k_ hk_.1)⟩)) (below_size zhb));have n6_:=Aside0.mk (below_step zhb hb);clear HO379;clear HO384;clear HO438;clear HO442;clear HB;have HO379:=n0_;have HO384:=n1_;have HO438:=n2_;have HO442:=n3_;have HO445:=n4_;have HO448:=n5_;have HB:=n6_;clear n0_ n1_ n2_ n3_ n4_ n5_ n6_;(try clear hb);(try clear hb2);(try clear hk);(try clear hi);(try clear ho0);(try clear ho1);obtain ⟨Ao142,co142,eo142⟩:=Kd.N_slice HO438.out;subst eo142)|(go_at_call 9;(with_reducible refine (impl_ZText.calls k _ _ t435 t449 _ ?side1 ?side2 A124.out).mono ?_);(case side1=>exact zC (Kd.N_reads' HO438.out).2.2);(case side2=>exact (Kd.N_reads' HO438.out).2.1);rintro e w143 ⟨rfl,hb⟩;have n0_:=Aside0.mk (Kd.N_below (zN HO379.out) hb);have n1_:=Aside0.mk (Kd.N_below (zN HO384.out) hb);have n2_:=Aside0.mk (Kd.N_below (zN HO438.out) hb);have n3_:=Aside0.mk (Kd.N_below (zN HO442.out) hb);have n4_:=Aside0.mk (Kd.N_below (zN HO445.out) hb);have n5_:=Aside0.mk (Kd.N_below (zN HO448.out) hb);have n6_:=Aside0.mk (below_step zhb hb);clear HO379;clear HO384;clear HO438;clear HO442;clear HO445;clear HO448;clear HB;have HO379:=n0_;have HO384:=n1_;have HO438:=n2_;have HO442:=n3_;have HO445:=n4_;have HO448:=n5_;have HB:=n6_;clear n0_ n1_ n2_ n3_ n4_ n5_ n6_;(try clear hb);(try clear hb2);(try clear hk);(try clear hi))|(go_at_call 6;(with_reducible refine (impl_ZOk.calls k _ _ t435 true _ ?side1 ?side2 A126.out).mono ?_);(case side1=>exact zC (Kd.N_reads' HO438.out).2.2);(case side2=>exact (Kd.N_reads' HO438.out).2.1);rintro e w144 ⟨rfl,hb⟩;have n0_:=Aside0.mk (Kd.N_below (zN HO379.out) hb);have n1_:=Aside0.mk (Kd.N_below (zN HO384.out) hb);have n2_:=Aside0.mk (Kd.N_below (zN HO438.out) hb);have n3_:=Aside0.mk (Kd.N_below (zN HO442.out) hb);have n4_:=Aside0.mk (Kd.N_below (zN HO445.out) hb);have n5_:=Aside0.mk (Kd.N_below (zN HO448.out) hb);have n6_:=Aside0.mk (below_step zhb hb);clear HO379;clear HO384;clear HO438;clear HO442;clear HO445;clear HO448;clear HB;have HO379:=n0_;have HO384:=n1_;have HO438:=n2_;have HO442:=n3_;have HO445:=n4_;have HO448:=n5_;have HB:=n6_;clear n0_ n1_ n2_ n3_ n4_ n5_ n6_;(try clear hb);(try clear hb2);(try clear hk);(try clear hi);obtain ⟨Ao145,co145,eo145⟩:=Kd.N_slice HO445.out;subst eo145;obtain ⟨Ao146,co146,eo146⟩:=Kd.N_slice HO448.out;subst eo146)|(go_at_call 12;(with_reducible refine (impl_ZSame.calls k _ _ t443 _ _ t446 t451 _ ?side1 ?side2 ?side3 ?side4 A128.out).mono ?_);(case side1=>exact zC (Kd.N_reads' HO445.out).2.2);(case side2=>exact (Kd.N_reads' HO445.out).2.1);(case side3=>exact zC (Kd.N_reads' HO448.out).2.2);(case side4=>exact (Kd.N_reads' HO448.out).2.1);rintro e w147 ⟨rfl,hb⟩;have n0_:=Aside0.mk (Kd.N_below (zN HO379.out) hb);have n1_:=Aside0.mk (Kd.N_below (zN HO384.out) hb);have n2_:=Aside0.mk (Kd.N_below (zN HO438.out) hb);have n3_:=Aside0.mk (Kd.N_below (zN HO442.out) hb);have n4_:=Aside0.mk (Kd.N_below (zN HO445.out) hb);have n5_:=Aside0.mk (Kd.N_below (zN HO448.out) hb);have n6_:=Aside0.mk (below_step zhb hb);clear HO379;clear HO384;clear HO438;clear HO442;clear HO445;clear HO448;clear HB;have HO379:=n0_;have HO384:=n1_;have HO438:=n2_;have HO442:=n3_;have HO445:=n4_;have HO448:=n5_;have HB:=n6_;clear n0_ n1_ n2_ n3_ n4_ n5_ n6_;(try clear hb);(try clear hb2);(try clear hk);(try clear hi))|(go_at_call 17;(with_reducible refine (spec_ZSame.calls k _ _ t443 _ _ t446 t452 _ ?side1 ?side2 ?side3 ?side4 A129.out).mono ?_);(case side1=>exact zC (Kd.N_reads' HO445.out).2.2);(case side2=>exact (Kd.N_reads' HO445.out).2.1);(case side3=>exact zC (Kd.N_reads' HO448.out).2.2);(case side4=>exact (Kd.N_reads' HO448.out).2.1);rintro e w' ⟨rfl,⟨nd,rfl⟩⟩)|(go_at_call 12;(with_reducible refine (impl_ZSame.calls k _ _ t443 _ _ t443 t453 _ ?side1 ?side2 ?side3 ?side4 A131.out).mono ?_);(case side1=>exact zC (Kd.N_reads' HO445.out).2.2);(case side2=>exact (Kd.N_reads' HO445.out).2.1);(case side3=>exact zC (Kd.N_reads' HO445.out).2.2);(case side4=>exact (Kd.N_reads' HO445.out).2.1);rintro e w148 ⟨rfl,hb⟩;have n0_:=Aside0.mk (Kd.N_below (zN HO379.out) hb);have n1_:=Aside0.mk (Kd.N_below (zN HO384.out) hb);have n2_:=Aside0.mk (Kd.N_below (zN HO438.out) hb);have n3_:=Aside0.mk (Kd.N_below (zN HO442.out) hb);have n4_:=Aside0.mk (Kd.N_below (zN HO445.out) hb);have n5_:=Aside0.mk (Kd.N_below (zN HO448.out) hb);have n6_:=Aside0.mk (below_step zhb hb);clear HO379;clear HO384;clear HO438;clear HO442;clear HO445;clear HO448;clear HB;have HO379:=n0_;have HO384:=n1_;have HO438:=n2_;have HO442:=n3_;have HO445:=n4_;have HO448:=n5_;have HB:=n6_;clear n0_ n1_ n2_ n3_ n4_ n5_ n6_;(try clear hb);(try clear hb2);(try clear hk);(try clear hi)))
          go_ret
          exact ⟨by first|rfl|(rw [HR_.out];first|done|rfl)|(simp [errW_none,errW_some] <;> rfl)|(simp [*,errW_none,errW_some] <;> rfl),zhb⟩
         ·rw [if_neg c130] at H
          have c130b0:(t451 == t452)=false:=by simpa using c130
          (try (have c130b1:decide (t451=t452)=false:=by simpa using c130))
          (try (have c130b2:(t451 == t452)=false:=by simpa using c130))
          (try (have c130b3 : ¬ (t451=t452):=by simpa using c130))
          clear c130
          exact absurd ((Option.some.inj H).trans HR_.out) (by decide)
        ·replace c127:=Bool.eq_false_iff.mpr c127
         subst c127
         have H1:(some false)=some r:=by rw [if_neg (show ¬ (false=true) by decide)] at H;exact H
         clear H
         have H:=H1
         clear H1
         exact absurd ((Option.some.inj H).trans HR_.out) (by decide)
       ·rw [if_neg c125] at H
        have c125b0:(t449.toList == t434.toList)=false:=beq_eq_false_iff_ne.mpr c125
        have c125b1:(t449.toList != t434.toList)=true:=bne_iff_ne.mpr c125
        exact absurd ((Option.some.inj H).trans HR_.out) (by decide)
      ·replace c123:=Bool.eq_false_iff.mpr c123
       subst c123
       have H1:((impl_ZSame.f k t443 t446).bind fun t454=>((spec_ZSame.f k t443 t446).bind fun t455=>(if (t454 == t455)=true then ((impl_ZSame.f k t443 t443).bind fun t456=>(some t456)) else (some false))))=some r:=by rw [if_neg (show ¬ (false=true) by decide)] at H;exact H
       clear H
       have H:=H1
       clear H1
       replace H:=Option.bind_eq_some_iff.mp H
       obtain ⟨t454,A1490,H⟩:=H
       (try dsimp only at H)
       have A149:=Aside0.mk A1490
       clear A1490
       replace H:=Option.bind_eq_some_iff.mp H
       obtain ⟨t455,A1500,H⟩:=H
       (try dsimp only at H)
       have A150:=Aside0.mk A1500
       clear A1500
       by_cases c151:(t454 == t455)=true
       ·rw [if_pos c151] at H
        have c151b0:(t454 == t455)=true:=c151
        (try (have c151b1:decide (t454=t455)=true:=by simpa using c151))
        (try (have c151b2:(t454 == t455)=true:=by simpa using c151))
        clear c151
        replace H:=Option.bind_eq_some_iff.mp H
        obtain ⟨t456,A1520,H⟩:=H
        (try dsimp only at H)
        have A152:=Aside0.mk A1520
        clear A1520
        obtain rfl:=Option.some.inj H
        go_enter Tryz.func4,Tryz.ntmps4
        go_wp2_with (first|((with_reducible refine gate_callee (f:=5) rfl ?_);refine goesL_ (some 25) rfl rfl Tryz.func5 (by kernel_rfl) rfl #[.slice A0 l0.length c0] rfl zar ?_;(with_reducible refine (spec_DrawZText.calls k _ _ l0 t377 _ ?side1 ?side2 A5.out).mono ?_);(case side1=>exact zC HR0.out);(case side2=>exact HC0.out);rintro e w153 ⟨v378,rfl,ho0,hb⟩;refine ⟨_,rfl,?_⟩;have n0_:=Aside0.mk (Kd.N_lower (Kd.N_mono (ok':=fun k_=>True) ho0 (fun k_ hk_=>trivial)) (below_size zhb));have n1_:=Aside0.mk (below_step zhb hb);clear HB;have HO379:=n0_;have HB:=n1_;clear n0_ n1_;(try clear hb);(try clear hb2);(try clear hk);(try clear hi);(try clear ho0);obtain ⟨Ao154,co154,eo154⟩:=Kd.N_slice HO379.out;subst eo154)|((with_reducible refine gate_callee (f:=9) rfl ?_);refine goesL_ (some 27) rfl rfl Tryz.func9 (by kernel_rfl) rfl #[.slice Ao154 t377.length co154] rfl zar ?_;(with_reducible refine (impl_ZText.calls k _ _ t377 t380 _ ?side1 ?side2 A6.out).mono ?_);(case side1=>exact zC (Kd.N_reads' HO379.out).2.2);(case side2=>exact (Kd.N_reads' HO379.out).2.1);rintro e w155 ⟨rfl,hb⟩;refine ⟨_,rfl,?_⟩;have n0_:=Aside0.mk (Kd.N_below (zN HO379.out) hb);have n1_:=Aside0.mk (below_step zhb hb);clear HO379;clear HB;have HO379:=n0_;have HB:=n1_;clear n0_ n1_;(try clear hb);(try clear hb2);(try clear hk);(try clear hi))|((with_reducible refine gate_callee (f:=8) rfl ?_);refine goesL_ (some 30) rfl rfl Tryz.func8 (by kernel_rfl) rfl #[.string t380] rfl zar ?_;(with_reducible refine (impl_ZRead.calls k t380 t381 t382 _ A7.out).mono ?_);rintro e w156 ⟨v383,rfl,ho0,hb⟩;refine ⟨_,rfl,?_⟩;have n0_:=Aside0.mk (Kd.N_elder' (zN HO379.out) (Kd.S_base ho0) hb);have n1_:=Aside0.mk (Kd.N_lower (Kd.N_mono (ok':=fun k_=>some k_≠(.slice Ao154 t377.length co154:Value).ownBlock) (Kd.S_N (Kd.S_bound ho0)) (fun k_ hk_=>(Kd.fresh' (Kd.N_lt (zN HO379.out)) k_ hk_.2.1))) (below_size zhb));have n2_:=Aside0.mk (below_step zhb hb);clear HO379;clear HB;have HO379:=n0_;have HO384:=n1_;have HB:=n2_;clear n0_ n1_ n2_;(try clear hb);(try clear hb2);(try clear hk);(try clear hi);(try clear ho0))|((with_reducible refine gate_callee (f:=13) rfl ?_);refine goesL_ (some 35) rfl rfl Tryz.func13 (by kernel_rfl) rfl #[.slice Ao154 t377.length co154] rfl zar ?_;(with_reducible refine (spec_ZText.calls k _ _ t377 t385 _ ?side1 ?side2 A8.out).mono ?_);(case side1=>exact zC (Kd.N_reads' HO379.out).2.2);(case side2=>exact (Kd.N_reads' HO379.out).2.1);rintro e w157 ⟨rfl,hb⟩;refine ⟨_,rfl,?_⟩;have n0_:=Aside0.mk (Kd.N_below (zN HO379.out) hb);have n1_:=Aside0.mk (Kd.N_below (zN HO384.out) hb);have n2_:=Aside0.mk (below_step zhb hb);clear HO379;clear HO384;clear HB;have HO379:=n0_;have HO384:=n1_;have HB:=n2_;clear n0_ n1_ n2_;(try clear hb);(try clear hb2);(try clear hk);(try clear hi))|(go_at_call 7;(with_reducible refine (spec_ZOk.calls k _ _ t377 false _ ?side1 ?side2 A10.out).mono ?_);(case side1=>exact zC (Kd.N_reads' HO379.out).2.2);(case side2=>exact (Kd.N_reads' HO379.out).2.1);rintro e w158 ⟨rfl,hb⟩;have n0_:=Aside0.mk (Kd.N_below (zN HO379.out) hb);have n1_:=Aside0.mk (Kd.N_below (zN HO384.out) hb);have n2_:=Aside0.mk (below_step zhb hb);clear HO379;clear HO384;clear HB;have HO379:=n0_;have HO384:=n1_;have HB:=n2_;clear n0_ n1_ n2_;(try clear hb);(try clear hb2);(try clear hk);(try clear hi))|((with_reducible refine gate_callee (f:=14) rfl ?_);refine goesL_ (some 57) rfl rfl Tryz.func14 (by kernel_rfl) rfl #[.slice A1 l1.length c1] rfl zar ?_;(with_reducible refine (spec_DrawZRead.calls k _ _ l1 t434 _ ?side1 ?side2 A118.out).mono ?_);(case side1=>exact zC (Kd.C_below HR1.out HB.out));(case side2=>exact HC1.out);rintro e w159 ⟨rfl,hb⟩;refine ⟨_,rfl,?_⟩;have n0_:=Aside0.mk (Kd.N_below (zN HO379.out) hb);have n1_:=Aside0.mk (Kd.N_below (zN HO384.out) hb);have n2_:=Aside0.mk (below_step zhb hb);clear HO379;clear HO384;clear HB;have HO379:=n0_;have HO384:=n1_;have HB:=n2_;clear n0_ n1_ n2_;(try clear hb);(try clear hb2);(try clear hk);(try clear hi))|((with_reducible refine gate_callee (f:=8) rfl ?_);refine goesL_ (some 60) rfl rfl Tryz.func8 (by kernel_rfl) rfl #[.string t434] rfl zar ?_;(with_reducible refine (impl_ZRead.calls k t434 t435 false _ A119.out).mono ?_);rintro e w160 ⟨v437,rfl,ho0,hb⟩;refine ⟨_,rfl,?_⟩;have n0_:=Aside0.mk (Kd.N_elder' (zN HO379.out) (Kd.S_base ho0) hb);have n1_:=Aside0.mk (Kd.N_elder' (zN HO384.out) (Kd.S_base ho0) hb);have n2_:=Aside0.mk (Kd.N_lower (Kd.N_mono (ok':=fun k_=>some k_≠(.slice Ao154 t377.length co154:Value).ownBlock∧some k_≠(v383:Value).ownBlock) (Kd.S_N (Kd.S_bound ho0)) (fun k_ hk_=>⟨(Kd.fresh' (Kd.N_lt (zN HO379.out)) k_ hk_.2.1),(Kd.fresh' (Kd.N_lt (zN HO384.out)) k_ hk_.2.1)⟩)) (below_size zhb));have n3_:=Aside0.mk (below_step zhb hb);clear HO379;clear HO384;clear HB;have HO379:=n0_;have HO384:=n1_;have HO438:=n2_;have HB:=n3_;clear n0_ n1_ n2_ n3_;(try clear hb);(try clear hb2);(try clear hk);(try clear hi);(try clear ho0))|((with_reducible refine gate_callee (f:=15) rfl ?_);refine goesL_ (some 65) rfl rfl Tryz.func15 (by kernel_rfl) rfl #[.string t434] rfl zar ?_;(with_reducible refine (spec_ZRead.calls k t434 t439 t440 _ A120.out).mono ?_);rintro e w161 ⟨v441,rfl,ho0,hb⟩;refine ⟨_,rfl,?_⟩;have n0_:=Aside0.mk (Kd.N_elder' (zN HO379.out) (Kd.S_base ho0) hb);have n1_:=Aside0.mk (Kd.N_elder' (zN HO384.out) (Kd.S_base ho0) hb);have n2_:=Aside0.mk (Kd.N_elder' (zN HO438.out) (Kd.S_base ho0) hb);have n3_:=Aside0.mk (Kd.N_lower (Kd.N_mono (ok':=fun k_=>some k_≠(.slice Ao154 t377.length co154:Value).ownBlock∧some k_≠(v383:Value).ownBlock∧some k_≠(v437:Value).ownBlock) (Kd.S_N (Kd.S_bound ho0)) (fun k_ hk_=>⟨(Kd.fresh' (Kd.N_lt (zN HO379.out)) k_ hk_.2.1),(Kd.fresh' (Kd.N_lt (zN HO384.out)) k_ hk_.2.1),(Kd.fresh' (Kd.N_lt (zN HO438.out)) k_ hk_.2.1)⟩)) (below_size zhb));have n4_:=Aside0.mk (below_step zhb hb);clear HO379;clear HO384;clear HO438;clear HB;have HO379:=n0_;have HO384:=n1_;have HO438:=n2_;have HO442:=n3_;have HB:=n4_;clear n0_ n1_ n2_ n3_ n4_;(try clear hb);(try clear hb2);(try clear hk);(try clear hi);(try clear ho0))|((with_reducible refine gate_callee (f:=16) rfl ?_);refine goesL_ (some 70) rfl rfl Tryz.func16 (by kernel_rfl) rfl #[.slice A0 l0.length c0] rfl zar ?_;(with_reducible refine (spec_DrawZSame.calls k _ _ l0 t443 t446 _ ?side1 ?side2 A121.out).mono ?_);(case side1=>exact zC (Kd.C_below HR0.out HB.out));(case side2=>exact HC0.out);rintro e w162 ⟨v444,v447,rfl,ho0,ho1,hb⟩;refine ⟨_,rfl,?_⟩;have n0_:=Aside0.mk (Kd.N_mono (Kd.N_told (Kd.N_told (Kd.N_old (zN HO379.out) hb) (Kd.N_base ho0)) (Kd.N_base ho1)) (fun _ h_=>h_.1));have n1_:=Aside0.mk (Kd.N_mono (Kd.N_told (Kd.N_told (Kd.N_old (zN HO384.out) hb) (Kd.N_base ho0)) (Kd.N_base ho1)) (fun _ h_=>h_.1));have n2_:=Aside0.mk (Kd.N_mono (Kd.N_told (Kd.N_told (Kd.N_old (zN HO438.out) hb) (Kd.N_base ho0)) (Kd.N_base ho1)) (fun _ h_=>h_.1));have n3_:=Aside0.mk (Kd.N_mono (Kd.N_told (Kd.N_told (Kd.N_old (zN HO442.out) hb) (Kd.N_base ho0)) (Kd.N_base ho1)) (fun _ h_=>h_.1));have n4_:=Aside0.mk (Kd.N_lower (Kd.N_mono (ok':=fun k_=>some k_≠(v447:Value).ownBlock∧some k_≠(.slice Ao154 t377.length co154:Value).ownBlock∧some k_≠(v383:Value).ownBlock∧some k_≠(v437:Value).ownBlock∧some k_≠(v441:Value).ownBlock) ho0 (fun k_ hk_=>⟨hk_.2,(Kd.fresh' (Kd.N_lt (zN HO379.out)) k_ hk_.1),(Kd.fresh' (Kd.N_lt (zN HO384.out)) k_ hk_.1),(Kd.fresh' (Kd.N_lt (zN HO438.out)) k_ hk_.1),(Kd.fresh' (Kd.N_lt (zN HO442.out)) k_ hk_.1)⟩)) (below_size zhb));have n5_:=Aside0.mk (Kd.N_lower (Kd.N_mono (ok':=fun k_=>some k_≠(v444:Value).ownBlock∧some k_≠(.slice Ao154 t377.length co154:Value).ownBlock∧some k_≠(v383:Value).ownBlock∧some k_≠(v437:Value).ownBlock∧some k_≠(v441:Value).ownBlock) ho1 (fun k_ hk_=>⟨hk_.2,(Kd.fresh' (Kd.N_lt (zN HO379.out)) k_ hk_.1),(Kd.fresh' (Kd.N_lt (zN HO384.out)) k_ hk_.1),(Kd.fresh' (Kd.N_lt (zN HO438.out)) k_ hk_.1),(Kd.fresh' (Kd.N_lt (zN HO442.out)) k_ hk_.1)⟩)) (below_size zhb));have n6_:=Aside0.mk (below_step zhb hb);clear HO379;clear HO384;clear HO438;clear HO442;clear HB;have HO379:=n0_;have HO384:=n1_;have HO438:=n2_;have HO442:=n3_;have HO445:=n4_;have HO448:=n5_;have HB:=n6_;clear n0_ n1_ n2_ n3_ n4_ n5_ n6_;(try clear hb);(try clear hb2);(try clear hk);(try clear hi);(try clear ho0);(try clear ho1);obtain ⟨Ao163,co163,eo163⟩:=Kd.N_slice HO445.out;subst eo163;obtain ⟨Ao164,co164,eo164⟩:=Kd.N_slice HO448.out;subst eo164)|(go_at_call 12;(with_reducible refine (impl_ZSame.calls k _ _ t443 _ _ t446 t454 _ ?side1 ?side2 ?side3 ?side4 A149.out).mono ?_);(case side1=>exact zC (Kd.N_reads' HO445.out).2.2);(case side2=>exact (Kd.N_reads' HO445.out).2.1);(case side3=>exact zC (Kd.N_reads' HO448.out).2.2);(case side4=>exact (Kd.N_reads' HO448.out).2.1);rintro e w165 ⟨rfl,hb⟩;have n0_:=Aside0.mk (Kd.N_below (zN HO379.out) hb);have n1_:=Aside0.mk (Kd.N_below (zN HO384.out) hb);have n2_:=Aside0.mk (Kd.N_below (zN HO438.out) hb);have n3_:=Aside0.mk (Kd.N_below (zN HO442.out) hb);have n4_:=Aside0.mk (Kd.N_below (zN HO445.out) hb);have n5_:=Aside0.mk (Kd.N_below (zN HO448.out) hb);have n6_:=Aside0.mk (below_step zhb hb);clear HO379;clear HO384;clear HO438;clear HO442;clear HO445;clear HO448;clear HB;have HO379:=n0_;have HO384:=n1_;have HO438:=n2_;have HO442:=n3_;have HO445:=n4_;have HO448:=n5_;have HB:=n6_;clear n0_ n1_ n2_ n3_ n4_ n5_ n6_;(try clear hb);(try clear hb2);(try clear hk);(try clear hi))|(go_at_call 17;(with_reducible refine (spec_ZSame.calls k _ _ t443 _ _ t446 t455 _ ?side1 ?side2 ?side3 ?side4 A150.out).mono ?_);(case side1=>exact zC (Kd.N_reads' HO445.out).2.2);(case side2=>exact (Kd.N_reads' HO445.out).2.1);(case side3=>exact zC (Kd.N_reads' HO448.out).2.2);(case side4=>exact (Kd.N_reads' HO448.out).2.1);rintro e w' ⟨rfl,⟨nd,rfl⟩⟩)|(go_at_call 12;(with_reducible refine (impl_ZSame.calls k _ _ t443 _ _ t443 t456 _ ?side1 ?side2 ?side3 ?side4 A152.out).mono ?_);(case side1=>exact zC (Kd.N_reads' HO445.out).2.2);(case side2=>exact (Kd.N_reads' HO445.out).2.1);(case side3=>exact zC (Kd.N_reads' HO445.out).2.2);(case side4=>exact (Kd.N_reads' HO445.out).2.1);rintro e w166 ⟨rfl,hb⟩;have n0_:=Aside0.mk (Kd.N_below (zN HO379.out) hb);have n1_:=Aside0.mk (Kd.N_below (zN HO384.out) hb);have n2_:=Aside0.mk (Kd.N_below (zN HO438.out) hb);have n3_:=Aside0.mk (Kd.N_below (zN HO442.out) hb);have n4_:=Aside0.mk (Kd.N_below (zN HO445.out) hb);have n5_:=Aside0.mk (Kd.N_below (zN HO448.out) hb);have n6_:=Aside0.mk (below_step zhb hb);clear HO379;clear HO384;clear HO438;clear HO442;clear HO445;clear HO448;clear HB;have HO379:=n0_;have HO384:=n1_;have HO438:=n2_;have HO442:=n3_;have HO445:=n4_;have HO448:=n5_;have HB:=n6_;clear n0_ n1_ n2_ n3_ n4_ n5_ n6_;(try clear hb);(try clear hb2);(try clear hk);(try clear hi)))
        go_ret
        exact ⟨by first|rfl|(rw [HR_.out];first|done|rfl)|(simp [errW_none,errW_some] <;> rfl)|(simp [*,errW_none,errW_some] <;> rfl),zhb⟩
       ·rw [if_neg c151] at H
        have c151b0:(t454 == t455)=false:=by simpa using c151
        (try (have c151b1:decide (t454=t455)=false:=by simpa using c151))
        (try (have c151b2:(t454 == t455)=false:=by simpa using c151))
        (try (have c151b3 : ¬ (t454=t455):=by simpa using c151))
        clear c151
        exact absurd ((Option.some.inj H).trans HR_.out) (by decide)
     ·rw [if_neg c122] at H
      have c122b0:(t436 == t440)=false:=by simpa using c122
      (try (have c122b1:decide (t436=t440)=false:=by simpa using c122))
      (try (have c122b2:(t436 == t440)=false:=by simpa using c122))
      (try (have c122b3 : ¬ (t436=t440):=by simpa using c122))
      clear c122
      exact absurd ((Option.some.inj H).trans HR_.out) (by decide)
   ·rw [if_neg c9] at H
    have c9b0:(t380.toList == t385.toList)=false:=beq_eq_false_iff_ne.mpr c9
    have c9b1:(t380.toList != t385.toList)=true:=bne_iff_ne.mpr c9
    exact absurd ((Option.some.inj H).trans HR_.out) (by decide)

/-- THE ONE PURE STATEMENT of laws_FnZText: yours. -/
def laws_FnZText.Pure:Prop:=∀ (l0:List Int) (l1:List Int),l0.length≤maxLen→l0.length * 1≤140737488351232→(∀ x ∈ l0,(Lit.int .u8 x).wf=true)→l1.length≤maxLen→l1.length * 1≤140737488351232→(∀ x ∈ l1,(Lit.int .u8 x).wf=true)→∃ k,laws_FnZText.f k l0 l1=some true
theorem laws_FnZText.walk (P:laws_FnZText.Pure) (a0:Option Addr) (len0 cap0:Nat) (z0:List Int) (a1:Option Addr) (len1 cap1:Nat) (z1:List Int) (w:World) (w0:(a0=none∧len0=0∧cap0=0∧z0 = [])∨∃ x,a0=some x∧len0≤cap0∧cap0≤maxLen∧z0.length=cap0∧(∀ i,i < z0.length→w.cell? (x.add i)=some (.int .u8 (z0.getD i 0)))∧∀ n ∈ z0,(Lit.int .u8 n).wf=true) (y0:len0 * 1≤140737488351232) (w1:(a1=none∧len1=0∧cap1=0∧z1 = [])∨∃ x,a1=some x∧len1≤cap1∧cap1≤maxLen∧z1.length=cap1∧(∀ i,i < z1.length→w.cell? (x.add i)=some (.int .u8 (z1.getD i 0)))∧∀ n ∈ z1,(Lit.int .u8 n).wf=true) (y1:len1 * 1≤140737488351232) (hT:TxtW w) :
  Calls Tryz.prog 4 #[.slice a0 len0 cap0,.slice a1 len1 cap1] w fun e w'=>e=.returned (.bool true)∧Below w.heap.size w w':=by
 obtain ⟨l0,rfl,hr0,hm0,hw0,hc0⟩:=ReadsInt.ofRowC w0
 obtain ⟨l1,rfl,hr1,hm1,hw1,hc1⟩:=ReadsInt.ofRowC w1
 obtain ⟨k,h⟩:=P l0 l1 hm0 y0 hw0 hm1 y1 hw1
 refine (laws_FnZText.calls k _ _ l0 _ _ l1 true w (Kd.C_of_reads (d:=(0:Int)) (h1:=fun _=>rfl) hr0) hc0 (Kd.C_of_reads (d:=(0:Int)) (h1:=fun _=>rfl) hr1) hc1 h rfl hT).mono ?_
 rintro e w' ⟨rfl,hd⟩
 exact ⟨rfl,hd⟩

end Go.Proofs.YtgcplipimcbhlaaGreatDoor.PFnZText
