-- Written by wip/tools/pp.py, a program of this session over the kit's printer: not the kit's own print
import Derived.Test.YthmcbekemnabdaaDoorPFnExactTestReadx0
namespace Go.Proofs.YthmcbekemnabdaaDoor.PFnExactTestRead
open Go.RowKit Go.Proofs.YthmcbekemnabdaaDoorW.PrintWords Go.Proofs.YthmcbekemnabdaaDoorW.PrintLast Go.Proofs.YthmcbekemnabdaaDoorW.PrintMore
attribute [local go_sem] max2_int min2_int max_two min_two max_three min_three max_four min_four   -- for this text's walks alone
set_option linter.unusedVariables false
set_option linter.unusedSimpArgs false

/-! ### spec_l12Num: function 11 (printed, one text told by a letter) -/
def spec_l12Num.l0:Nat→ByteArray→Bool→Int→Int→Option (Int × Bool)
 | 0,_,_,_,_=>none
 | k + 1,x0,x4,x5,x6=>if x6 < (x0.size:Int) then (if 0≤x6 then (if (bt x0 x6) < 48 then (some (0,false)) else (if (bt x0 x6) > 57 then (some (0,false)) else (spec_l12Num.l0 k x0 x4 (wrap64 ((wrap64 (x5 * 10)) + (((bt x0 x6) - 48) % 256))) (wrap64 (x6 + 1))))) else (none)) else (if x4=true then (some (wrap64 (-x5),true)) else (some (x5,true)))
def spec_l12Num.f (k:Nat) (a0:ByteArray):Option (Int × Bool):=if (a0.size:Int) > 0 then (if 0 < (a0.size:Int) then (if (bt a0 0)=45 then (if 1≤(a0.size:Int) then (if ((a0.extract 1 a0.size).size:Int)=0 then (some (0,false)) else (if ((a0.extract 1 a0.size).size:Int) > 17 then (some (0,false)) else (if 0 < ((a0.extract 1 a0.size).size:Int) then (if (bt (a0.extract 1 a0.size) 0)=48 then (if ((a0.extract 1 a0.size).size:Int) > 1 then (some (0,false)) else (some (0,false))) else (spec_l12Num.l0 k (a0.extract 1 a0.size) ((bt a0 0) == 45) 0 0)) else (none)))) else (none)) else (if (a0.size:Int)=0 then (some (0,false)) else (if (a0.size:Int) > 17 then (some (0,false)) else (if (bt a0 0)=48 then (if (a0.size:Int) > 1 then (some (0,false)) else (spec_l12Num.l0 k a0 ((bt a0 0) == 45) 0 0)) else (spec_l12Num.l0 k a0 ((bt a0 0) == 45) 0 0))))) else (none)) else (if (a0.size:Int)=0 then (some (0,false)) else (if (a0.size:Int) > 17 then (some (0,false)) else (if 0 < (a0.size:Int) then (if (bt a0 0)=48 then (if (a0.size:Int) > 1 then (some (0,false)) else (spec_l12Num.l0 k a0 false 0 0)) else (spec_l12Num.l0 k a0 false 0 0)) else (none))))
theorem spec_l12Num.mono_l : ∀ k,(∀ y0 y1 y2 y3,LeO (spec_l12Num.l0 k y0 y1 y2 y3) (spec_l12Num.l0 (k + 1) y0 y1 y2 y3))
 | 0=>fun _ _ _ _ r h=>by simp [spec_l12Num.l0] at h
 | k + 1=>by
  have ih0:=spec_l12Num.mono_l k
  ·intro y0 y1 y2 y3
   unfold spec_l12Num.l0
   repeat' first
   | (with_reducible exact ih0 _ _ _ _)
   | (with_reducible exact LeO.refl _)
   | (with_reducible exact LeO.none _)
   | (with_reducible refine LeO.ite ?_ ?_)
   | (with_reducible refine LeO.bind ?_ (fun _=>?_))
   | exact LeO.none _
   | refine LeO.ite ?_ ?_
   | refine LeO.bind ?_ (fun _=>?_)
theorem spec_l12Num.mono : ∀ a0 k,LeO (spec_l12Num.f k a0) (spec_l12Num.f (k + 1) a0):=by
 intro a0 k
 have ih0:=spec_l12Num.mono_l k
 unfold spec_l12Num.f
 repeat' first
   | (with_reducible exact ih0 _ _ _ _)
   | (with_reducible exact LeO.refl _)
   | (with_reducible exact LeO.none _)
   | (with_reducible refine LeO.ite ?_ ?_)
   | (with_reducible refine LeO.bind ?_ (fun _=>?_))
   | exact LeO.none _
   | refine LeO.ite ?_ ?_
   | refine LeO.bind ?_ (fun _=>?_)
set_option maxHeartbeats 8000000 in
set_option maxRecDepth 100000 in
theorem spec_l12Num.calls (k:Nat) (a0:ByteArray) (r1:Int) (r2:Bool) (w:World) (h:spec_l12Num.f k a0=some (r1,r2)) :
  Calls Tryd.prog 11 #[.string a0] w fun e w'=>e=.returned (.tuple #[.int .i64 r1,.bool r2])∧Drawn0 w w':=by
 have H:(if (a0.size:Int) > 0 then (if 0 < (a0.size:Int) then (if (bt a0 0)=45 then (if 1≤(a0.size:Int) then (if ((a0.extract 1 a0.size).size:Int)=0 then (some (0,false)) else (if ((a0.extract 1 a0.size).size:Int) > 17 then (some (0,false)) else (if 0 < ((a0.extract 1 a0.size).size:Int) then (if (bt (a0.extract 1 a0.size) 0)=48 then (if ((a0.extract 1 a0.size).size:Int) > 1 then (some (0,false)) else (some (0,false))) else (spec_l12Num.l0 k (a0.extract 1 a0.size) ((bt a0 0) == 45) 0 0)) else (none)))) else (none)) else (if (a0.size:Int)=0 then (some (0,false)) else (if (a0.size:Int) > 17 then (some (0,false)) else (if (bt a0 0)=48 then (if (a0.size:Int) > 1 then (some (0,false)) else (spec_l12Num.l0 k a0 ((bt a0 0) == 45) 0 0)) else (spec_l12Num.l0 k a0 ((bt a0 0) == 45) 0 0))))) else (none)) else (if (a0.size:Int)=0 then (some (0,false)) else (if (a0.size:Int) > 17 then (some (0,false)) else (if 0 < (a0.size:Int) then (if (bt a0 0)=48 then (if (a0.size:Int) > 1 then (some (0,false)) else (spec_l12Num.l0 k a0 false 0 0)) else (spec_l12Num.l0 k a0 false 0 0)) else (none)))))=some (r1,r2):=h
 obtain ⟨X,hX⟩ : ∃ X,a0.extract 1 a0.size=X:=⟨_,rfl⟩
 rw [hX] at H
 clear h
 by_cases c2:(a0.size:Int) > 0
 ·rw [if_pos c2] at H
  have c2b0:decide (0 < (a0.size:Int))=true:=decide_eq_true c2
  have c2b1:decide (0 < a0.size)=true:=decide_eq_true (by omega)
  clear c2
  by_cases c3:0 < (a0.size:Int)
  ·rw [if_pos c3] at H
   have c3b0:decide (0 < (a0.size:Int))=true:=decide_eq_true c3
   have c3b1:decide (0 < a0.size)=true:=decide_eq_true (by omega)
   clear c3
   by_cases c5:(bt a0 0)=45
   ·rw [if_pos c5] at H
    have c5b0:((bt a0 0) == 45)=true:=beq_iff_eq.mpr c5
    have c5b1:((bt a0 0) != 45)=false:=bne_eq_false_iff_eq.mpr c5
    clear c5
    by_cases c6:1≤(a0.size:Int)
    ·rw [if_pos c6] at H
     have c6b0:=eq_true c6
     have c6b1:decide (1≤(a0.size:Int))=true:=decide_eq_true c6
     clear c6
     by_cases c7:(X.size:Int)=0
     ·rw [if_pos c7] at H
      have c7b0:((X.size:Int) == 0)=true:=beq_iff_eq.mpr c7
      have c7b1:((X.size:Int) != 0)=false:=bne_eq_false_iff_eq.mpr c7
      clear c7
      simp only [Option.some.injEq,Prod.mk.injEq] at H
      obtain ⟨rfl,rfl⟩:=H
      have p4:0≤(0:Int):=(by omega)
      have q4:0 < a0.size:=(by have:(0:Int) < (a0.size:Int):=zod;omega)
      have hx4 : ∀ h:0 < a0.size,((a0[0]'h).toNat:Int)=bt a0 0:=bt_at a0 0
      clear p4
      have qi4:(0 < (a0.size:Int))=True:=eq_true (zod)
      replace q4:=eq_true q4
      go_enter Tryd.func11,Tryd.ntmps11
      go_wp2
      go_ret2
      exact ⟨by first|rfl|(simp;done)|(simp [*];done),zdw⟩
     ·rw [if_neg c7] at H
      have c7b0:((X.size:Int) == 0)=false:=beq_eq_false_iff_ne.mpr c7
      have c7b1:((X.size:Int) != 0)=true:=bne_iff_ne.mpr c7
      by_cases c8:(X.size:Int) > 17
      ·rw [if_pos c8] at H
       have c8b0:decide (17 < (X.size:Int))=true:=decide_eq_true c8
       have c8b1:decide (17 < X.size)=true:=decide_eq_true (by omega)
       clear c8
       simp only [Option.some.injEq,Prod.mk.injEq] at H
       obtain ⟨rfl,rfl⟩:=H
       have p4:0≤(0:Int):=(by omega)
       have q4:0 < a0.size:=(by have:(0:Int) < (a0.size:Int):=zod;omega)
       have hx4 : ∀ h:0 < a0.size,((a0[0]'h).toNat:Int)=bt a0 0:=bt_at a0 0
       clear p4
       have qi4:(0 < (a0.size:Int))=True:=eq_true (zod)
       replace q4:=eq_true q4
       go_enter Tryd.func11,Tryd.ntmps11
       go_wp2
       go_ret2
       exact ⟨by first|rfl|(simp;done)|(simp [*];done),zdw⟩
      ·rw [if_neg c8] at H
       have c8b0:decide (17 < (X.size:Int))=false:=decide_eq_false c8
       have c8b1:decide (17 < X.size)=false:=decide_eq_false (by omega)
       clear c8
       by_cases c9:0 < (X.size:Int)
       ·rw [if_pos c9] at H
        have c9b0:decide (0 < (X.size:Int))=true:=decide_eq_true c9
        have c9b1:decide (0 < X.size)=true:=decide_eq_true (by omega)
        clear c9
        by_cases c11:(bt X 0)=48
        ·rw [if_pos c11] at H
         have c11b0:((bt X 0) == 48)=true:=beq_iff_eq.mpr c11
         have c11b1:((bt X 0) != 48)=false:=bne_eq_false_iff_eq.mpr c11
         clear c11
         by_cases c12:(X.size:Int) > 1
         ·rw [if_pos c12] at H
          have c12b0:decide (1 < (X.size:Int))=true:=decide_eq_true c12
          have c12b1:decide (1 < X.size)=true:=decide_eq_true (by omega)
          clear c12
          simp only [Option.some.injEq,Prod.mk.injEq] at H
          obtain ⟨rfl,rfl⟩:=H
          have p4:0≤(0:Int):=(by omega)
          have q4:0 < a0.size:=(by have:(0:Int) < (a0.size:Int):=zod;omega)
          have hx4 : ∀ h:0 < a0.size,((a0[0]'h).toNat:Int)=bt a0 0:=bt_at a0 0
          clear p4
          have qi4:(0 < (a0.size:Int))=True:=eq_true (zod)
          replace q4:=eq_true q4
          have p10:0≤(0:Int):=(by omega)
          have q10:0 < X.size:=(by have:(0:Int) < (X.size:Int):=zod;omega)
          have hx10 : ∀ h:0 < X.size,((X[0]'h).toNat:Int)=bt X 0:=bt_at X 0
          clear p10
          have qi10:(0 < (X.size:Int))=True:=eq_true (zod)
          replace q10:=eq_true q10
          go_enter Tryd.func11,Tryd.ntmps11
          go_wp2
          go_ret2
          exact ⟨by first|rfl|(simp;done)|(simp [*];done),zdw⟩
         ·rw [if_neg c12] at H
          have c12b0:decide (1 < (X.size:Int))=false:=decide_eq_false c12
          have c12b1:decide (1 < X.size)=false:=decide_eq_false (by omega)
          clear c12
          simp only [Option.some.injEq,Prod.mk.injEq] at H
          obtain ⟨rfl,rfl⟩:=H
          have p4:0≤(0:Int):=(by omega)
          have q4:0 < a0.size:=(by have:(0:Int) < (a0.size:Int):=zod;omega)
          have hx4 : ∀ h:0 < a0.size,((a0[0]'h).toNat:Int)=bt a0 0:=bt_at a0 0
          clear p4
          have qi4:(0 < (a0.size:Int))=True:=eq_true (zod)
          replace q4:=eq_true q4
          have p10:0≤(0:Int):=(by omega)
          have q10:0 < X.size:=(by have:(0:Int) < (X.size:Int):=zod;omega)
          have hx10 : ∀ h:0 < X.size,((X[0]'h).toNat:Int)=bt X 0:=bt_at X 0
          clear p10
          have qi10:(0 < (X.size:Int))=True:=eq_true (zod)
          replace q10:=eq_true q10
          go_enter Tryd.func11,Tryd.ntmps11
          go_wp2
          go_ret2
          exact ⟨by first|rfl|(simp;done)|(simp [*];done),zdw⟩
        ·rw [if_neg c11] at H
         have c11b0:((bt X 0) == 48)=false:=beq_eq_false_iff_ne.mpr c11
         have c11b1:((bt X 0) != 48)=true:=bne_iff_ne.mpr c11
         have H':=Aside0.mk H
         clear H
         have p4:0≤(0:Int):=(by omega)
         have q4:0 < a0.size:=(by have:(0:Int) < (a0.size:Int):=zod;omega)
         have hx4 : ∀ h:0 < a0.size,((a0[0]'h).toNat:Int)=bt a0 0:=bt_at a0 0
         clear p4
         have qi4:(0 < (a0.size:Int))=True:=eq_true (zod)
         replace q4:=eq_true q4
         have p10:0≤(0:Int):=(by omega)
         have q10:0 < X.size:=(by have:(0:Int) < (X.size:Int):=zod;omega)
         have hx10 : ∀ h:0 < X.size,((X[0]'h).toNat:Int)=bt X 0:=bt_at X 0
         clear p10
         have qi10:(0 < (X.size:Int))=True:=eq_true (zod)
         replace q10:=eq_true q10
         go_enter Tryd.func11,Tryd.ntmps11
         go_wp2
         go_loopg [5,6] k (fun kq v5 v6 w'=>∃ (x5_1:Int) (x6_1:Int),v5=.int .i64 x5_1∧v6=.int .i64 x6_1∧Aside0 (spec_l12Num.l0 kq X ((bt a0 0) == 45) x5_1 x6_1=some (r1,r2))∧Aside0 (kq≤k)∧Drawn0 w w')
         case atStart=>exact ⟨(0),(0),(by first|rfl|(simp;done)|(simp [*];done)),(by first|rfl|(simp;done)|(simp [*];done)),H',⟨Nat.le_refl _⟩,zdw⟩
         case round =>
          clear H'
          try clear c1
          try clear p1
          try clear q1
          try clear hx1
          try clear qi1
          try clear c2
          try clear c2b0
          try clear c2b1
          try clear p2
          try clear c3
          try clear c3b0
          try clear c3b1
          try clear p4
          try clear q4
          try clear hx4
          try clear qi4
          try clear c5
          try clear c6
          try clear c6b0
          try clear c6b1
          try clear c7
          try clear c7b0
          try clear c7b1
          try clear c8
          try clear c8b0
          try clear c8b1
          try clear c9
          try clear c9b0
          try clear c9b1
          try clear p10
          try clear q10
          try clear hx10
          try clear qi10
          try clear c11
          try clear c11b0
          try clear c11b1
          try clear c12
          try clear c12b0
          try clear c12b1
          try clear p10
          try clear p4
          try clear q10
          try clear q4
          obtain ⟨x5_1,x6_1,rfl,rfl,HA,HK1,⟨m1,rfl⟩⟩:=hrel
          cases gk with
          | zero=>exact absurd HA.out (by simp [spec_l12Num.l0])
          | succ k1 =>
           have H:=HA.out
           clear HA
           simp only [spec_l12Num.l0] at H
           by_cases c13:x6_1 < (X.size:Int)
           ·rw [if_pos c13] at H
            have c13b0:decide (x6_1 < (X.size:Int))=true:=decide_eq_true c13
            clear c13
            by_cases c14:0≤x6_1
            ·rw [if_pos c14] at H
             have c14b0:decide (0≤x6_1)=true:=decide_eq_true c14
             clear c14
             by_cases c16:(bt X x6_1) < 48
             ·rw [if_pos c16] at H
              have c16b0:decide ((bt X x6_1) < 48)=true:=decide_eq_true c16
              clear c16
              simp only [Option.some.injEq,Prod.mk.injEq] at H
              obtain ⟨rfl,rfl⟩:=H
              have p15:0≤(x6_1:Int):=zod
              have q15:x6_1 < (X.size:Int):=zod
              have hx15:=bt_at X x6_1
              replace p15:=eq_true p15
              replace q15:=eq_true q15
              go_wp2
              go_ret2
              exact ⟨by first|rfl|(simp;done)|(simp [*];done),zdw⟩
             ·rw [if_neg c16] at H
              have c16b0:decide ((bt X x6_1) < 48)=false:=decide_eq_false c16
              clear c16
              by_cases c18:(bt X x6_1) > 57
              ·rw [if_pos c18] at H
               have c18b0:decide (57 < (bt X x6_1))=true:=decide_eq_true c18
               clear c18
               simp only [Option.some.injEq,Prod.mk.injEq] at H
               obtain ⟨rfl,rfl⟩:=H
               have p15:0≤(x6_1:Int):=zod
               have q15:x6_1 < (X.size:Int):=zod
               have hx15:=bt_at X x6_1
               replace p15:=eq_true p15
               replace q15:=eq_true q15
               have p17:0≤(x6_1:Int):=zod
               have q17:x6_1 < (X.size:Int):=zod
               have hx17:=bt_at X x6_1
               replace p17:=eq_true p17
               replace q17:=eq_true q17
               go_wp2
               go_ret2
               exact ⟨by first|rfl|(simp;done)|(simp [*];done),zdw⟩
              ·rw [if_neg c18] at H
               have c18b0:decide (57 < (bt X x6_1))=false:=decide_eq_false c18
               clear c18
               have H':=Aside0.mk H
               clear H
               have p15:0≤(x6_1:Int):=zod
               have q15:x6_1 < (X.size:Int):=zod
               have hx15:=bt_at X x6_1
               replace p15:=eq_true p15
               replace q15:=eq_true q15
               have p17:0≤(x6_1:Int):=zod
               have q17:x6_1 < (X.size:Int):=zod
               have hx17:=bt_at X x6_1
               replace p17:=eq_true p17
               replace q17:=eq_true q17
               have p19:0≤(x6_1:Int):=zod
               have q19:x6_1 < (X.size:Int):=zod
               have hx19:=bt_at X x6_1
               replace p19:=eq_true p19
               replace q19:=eq_true q19
               go_wp2
               go_roundg k1
               case measure=>have:=HK1.out;omega
               case rel=>exact ⟨(wrap64 ((wrap64 (x5_1 * 10)) + (((bt X x6_1) - 48) % 256))),(wrap64 (x6_1 + 1)),(by first|rfl|(simp;done)|(simp [*];done)),(by first|rfl|(simp;done)|(simp [*];done)),H',⟨by have:=HK1.out;omega⟩,zdw⟩
            ·rw [if_neg c14] at H
             exact absurd H (by simp)
           ·rw [if_neg c13] at H
            have c13b0:decide (x6_1 < (X.size:Int))=false:=decide_eq_false c13
            clear c13
            by_cases c20:((bt a0 0) == 45)=true
            ·rw [if_pos c20] at H
             have c20b0:((bt a0 0) == 45)=true:=c20
             (try (have c20b1:decide ((bt a0 0)=45)=true:=by simpa using c20))
             (try (have c20b2:((bt a0 0) == 45)=true:=by simpa using c20))
             clear c20
             simp only [Option.some.injEq,Prod.mk.injEq] at H
             obtain ⟨rfl,rfl⟩:=H
             go_wp2
             go_ret2
             exact ⟨by first|rfl|(simp;done)|(simp [*];done),zdw⟩
            ·exact absurd c5b0 c20
       ·rw [if_neg c9] at H
        exact absurd H (by simp)
    ·rw [if_neg c6] at H
     exact absurd H (by simp)
   ·rw [if_neg c5] at H
    have c5b0:((bt a0 0) == 45)=false:=beq_eq_false_iff_ne.mpr c5
    have c5b1:((bt a0 0) != 45)=true:=bne_iff_ne.mpr c5
    by_cases c21:(a0.size:Int)=0
    ·rw [if_pos c21] at H
     have c21b0:((a0.size:Int) == 0)=true:=beq_iff_eq.mpr c21
     have c21b1:((a0.size:Int) != 0)=false:=bne_eq_false_iff_eq.mpr c21
     clear c21
     simp only [Option.some.injEq,Prod.mk.injEq] at H
     obtain ⟨rfl,rfl⟩:=H
     have p4:0≤(0:Int):=(by omega)
     have q4:0 < a0.size:=(by have:(0:Int) < (a0.size:Int):=zod;omega)
     have hx4 : ∀ h:0 < a0.size,((a0[0]'h).toNat:Int)=bt a0 0:=bt_at a0 0
     clear p4
     have qi4:(0 < (a0.size:Int))=True:=eq_true (zod)
     replace q4:=eq_true q4
     go_enter Tryd.func11,Tryd.ntmps11
     go_wp2
     go_ret2
     exact ⟨by first|rfl|(simp;done)|(simp [*];done),zdw⟩
    ·rw [if_neg c21] at H
     have c21b0:((a0.size:Int) == 0)=false:=beq_eq_false_iff_ne.mpr c21
     have c21b1:((a0.size:Int) != 0)=true:=bne_iff_ne.mpr c21
     by_cases c22:(a0.size:Int) > 17
     ·rw [if_pos c22] at H
      have c22b0:decide (17 < (a0.size:Int))=true:=decide_eq_true c22
      have c22b1:decide (17 < a0.size)=true:=decide_eq_true (by omega)
      clear c22
      simp only [Option.some.injEq,Prod.mk.injEq] at H
      obtain ⟨rfl,rfl⟩:=H
      have p4:0≤(0:Int):=(by omega)
      have q4:0 < a0.size:=(by have:(0:Int) < (a0.size:Int):=zod;omega)
      have hx4 : ∀ h:0 < a0.size,((a0[0]'h).toNat:Int)=bt a0 0:=bt_at a0 0
      clear p4
      have qi4:(0 < (a0.size:Int))=True:=eq_true (zod)
      replace q4:=eq_true q4
      go_enter Tryd.func11,Tryd.ntmps11
      go_wp2
      go_ret2
      exact ⟨by first|rfl|(simp;done)|(simp [*];done),zdw⟩
     ·rw [if_neg c22] at H
      have c22b0:decide (17 < (a0.size:Int))=false:=decide_eq_false c22
      have c22b1:decide (17 < a0.size)=false:=decide_eq_false (by omega)
      clear c22
      by_cases c24:(bt a0 0)=48
      ·rw [if_pos c24] at H
       have c24b0:((bt a0 0) == 48)=true:=beq_iff_eq.mpr c24
       have c24b1:((bt a0 0) != 48)=false:=bne_eq_false_iff_eq.mpr c24
       clear c24
       by_cases c25:(a0.size:Int) > 1
       ·rw [if_pos c25] at H
        have c25b0:decide (1 < (a0.size:Int))=true:=decide_eq_true c25
        have c25b1:decide (1 < a0.size)=true:=decide_eq_true (by omega)
        clear c25
        simp only [Option.some.injEq,Prod.mk.injEq] at H
        obtain ⟨rfl,rfl⟩:=H
        have p4:0≤(0:Int):=(by omega)
        have q4:0 < a0.size:=(by have:(0:Int) < (a0.size:Int):=zod;omega)
        have hx4 : ∀ h:0 < a0.size,((a0[0]'h).toNat:Int)=bt a0 0:=bt_at a0 0
        clear p4
        have qi4:(0 < (a0.size:Int))=True:=eq_true (zod)
        replace q4:=eq_true q4
        have p23:0≤(0:Int):=(by omega)
        have q23:0 < a0.size:=(by have:(0:Int) < (a0.size:Int):=zod;omega)
        have hx23 : ∀ h:0 < a0.size,((a0[0]'h).toNat:Int)=bt a0 0:=bt_at a0 0
        clear p23
        have qi23:(0 < (a0.size:Int))=True:=eq_true (zod)
        replace q23:=eq_true q23
        go_enter Tryd.func11,Tryd.ntmps11
        go_wp2
        go_ret2
        exact ⟨by first|rfl|(simp;done)|(simp [*];done),zdw⟩
       ·rw [if_neg c25] at H
        have c25b0:decide (1 < (a0.size:Int))=false:=decide_eq_false c25
        have c25b1:decide (1 < a0.size)=false:=decide_eq_false (by omega)
        clear c25
        have H':=Aside0.mk H
        clear H
        have p4:0≤(0:Int):=(by omega)
        have q4:0 < a0.size:=(by have:(0:Int) < (a0.size:Int):=zod;omega)
        have hx4 : ∀ h:0 < a0.size,((a0[0]'h).toNat:Int)=bt a0 0:=bt_at a0 0
        clear p4
        have qi4:(0 < (a0.size:Int))=True:=eq_true (zod)
        replace q4:=eq_true q4
        have p23:0≤(0:Int):=(by omega)
        have q23:0 < a0.size:=(by have:(0:Int) < (a0.size:Int):=zod;omega)
        have hx23 : ∀ h:0 < a0.size,((a0[0]'h).toNat:Int)=bt a0 0:=bt_at a0 0
        clear p23
        have qi23:(0 < (a0.size:Int))=True:=eq_true (zod)
        replace q23:=eq_true q23
        go_enter Tryd.func11,Tryd.ntmps11
        go_wp2
        go_loopg [5,6] k (fun kq v5 v6 w'=>∃ (x5_1:Int) (x6_1:Int),v5=.int .i64 x5_1∧v6=.int .i64 x6_1∧Aside0 (spec_l12Num.l0 kq a0 ((bt a0 0) == 45) x5_1 x6_1=some (r1,r2))∧Aside0 (kq≤k)∧Drawn0 w w')
        case atStart=>exact ⟨(0),(0),(by first|rfl|(simp;done)|(simp [*];done)),(by first|rfl|(simp;done)|(simp [*];done)),H',⟨Nat.le_refl _⟩,zdw⟩
        case round =>
         clear H'
         try clear c1
         try clear p1
         try clear q1
         try clear hx1
         try clear qi1
         try clear c2
         try clear c2b0
         try clear c2b1
         try clear p2
         try clear q2
         try clear hx2
         try clear qi2
         try clear c3
         try clear c3b0
         try clear c3b1
         try clear p4
         try clear q4
         try clear hx4
         try clear qi4
         try clear c5
         try clear c6
         try clear c6b0
         try clear c6b1
         try clear p6
         try clear c7
         try clear c7b0
         try clear c7b1
         try clear c8
         try clear c8b0
         try clear c8b1
         try clear c9
         try clear c9b0
         try clear c9b1
         try clear p10
         try clear q10
         try clear hx10
         try clear qi10
         try clear c11
         try clear c11b0
         try clear c11b1
         try clear c12
         try clear c12b0
         try clear c12b1
         try clear c13
         try clear c13b0
         try clear c14
         try clear c14b0
         try clear p15
         try clear q15
         try clear hx15
         try clear c16
         try clear c16b0
         try clear p17
         try clear q17
         try clear hx17
         try clear c18
         try clear c18b0
         try clear p19
         try clear q19
         try clear hx19
         try clear c20
         try clear c20b0
         try clear c20b1
         try clear c20b2
         try clear c21
         try clear c21b0
         try clear c21b1
         try clear c22
         try clear c22b0
         try clear c22b1
         try clear p23
         try clear q23
         try clear hx23
         try clear qi23
         try clear c24
         try clear c24b0
         try clear c24b1
         try clear c25
         try clear c25b0
         try clear c25b1
         try clear p1
         try clear p10
         try clear p15
         try clear p17
         try clear p19
         try clear p2
         try clear p23
         try clear p4
         try clear q1
         try clear q10
         try clear q15
         try clear q17
         try clear q19
         try clear q23
         try clear q4
         obtain ⟨x5_1,x6_1,rfl,rfl,HA,HK1,⟨m1,rfl⟩⟩:=hrel
         cases gk with
         | zero=>exact absurd HA.out (by simp [spec_l12Num.l0])
         | succ k1 =>
          have H:=HA.out
          clear HA
          simp only [spec_l12Num.l0] at H
          by_cases c26:x6_1 < (a0.size:Int)
          ·rw [if_pos c26] at H
           have c26b0:decide (x6_1 < (a0.size:Int))=true:=decide_eq_true c26
           clear c26
           by_cases c27:0≤x6_1
           ·rw [if_pos c27] at H
            have c27b0:decide (0≤x6_1)=true:=decide_eq_true c27
            clear c27
            by_cases c29:(bt a0 x6_1) < 48
            ·rw [if_pos c29] at H
             have c29b0:decide ((bt a0 x6_1) < 48)=true:=decide_eq_true c29
             clear c29
             simp only [Option.some.injEq,Prod.mk.injEq] at H
             obtain ⟨rfl,rfl⟩:=H
             have p28:0≤(x6_1:Int):=zod
             have q28:x6_1 < (a0.size:Int):=zod
             have hx28:=bt_at a0 x6_1
             replace p28:=eq_true p28
             replace q28:=eq_true q28
             go_wp2
             go_ret2
             exact ⟨by first|rfl|(simp;done)|(simp [*];done),zdw⟩
            ·rw [if_neg c29] at H
             have c29b0:decide ((bt a0 x6_1) < 48)=false:=decide_eq_false c29
             clear c29
             by_cases c31:(bt a0 x6_1) > 57
             ·rw [if_pos c31] at H
              have c31b0:decide (57 < (bt a0 x6_1))=true:=decide_eq_true c31
              clear c31
              simp only [Option.some.injEq,Prod.mk.injEq] at H
              obtain ⟨rfl,rfl⟩:=H
              have p28:0≤(x6_1:Int):=zod
              have q28:x6_1 < (a0.size:Int):=zod
              have hx28:=bt_at a0 x6_1
              replace p28:=eq_true p28
              replace q28:=eq_true q28
              have p30:0≤(x6_1:Int):=zod
              have q30:x6_1 < (a0.size:Int):=zod
              have hx30:=bt_at a0 x6_1
              replace p30:=eq_true p30
              replace q30:=eq_true q30
              go_wp2
              go_ret2
              exact ⟨by first|rfl|(simp;done)|(simp [*];done),zdw⟩
             ·rw [if_neg c31] at H
              have c31b0:decide (57 < (bt a0 x6_1))=false:=decide_eq_false c31
              clear c31
              have H':=Aside0.mk H
              clear H
              have p28:0≤(x6_1:Int):=zod
              have q28:x6_1 < (a0.size:Int):=zod
              have hx28:=bt_at a0 x6_1
              replace p28:=eq_true p28
              replace q28:=eq_true q28
              have p30:0≤(x6_1:Int):=zod
              have q30:x6_1 < (a0.size:Int):=zod
              have hx30:=bt_at a0 x6_1
              replace p30:=eq_true p30
              replace q30:=eq_true q30
              have p32:0≤(x6_1:Int):=zod
              have q32:x6_1 < (a0.size:Int):=zod
              have hx32:=bt_at a0 x6_1
              replace p32:=eq_true p32
              replace q32:=eq_true q32
              go_wp2
              go_roundg k1
              case measure=>have:=HK1.out;omega
              case rel=>exact ⟨(wrap64 ((wrap64 (x5_1 * 10)) + (((bt a0 x6_1) - 48) % 256))),(wrap64 (x6_1 + 1)),(by first|rfl|(simp;done)|(simp [*];done)),(by first|rfl|(simp;done)|(simp [*];done)),H',⟨by have:=HK1.out;omega⟩,zdw⟩
           ·rw [if_neg c27] at H
            exact absurd H (by simp)
          ·rw [if_neg c26] at H
           have c26b0:decide (x6_1 < (a0.size:Int))=false:=decide_eq_false c26
           clear c26
           by_cases c33:((bt a0 0) == 45)=true
           ·rw [if_pos c33] at H
            have c33b0:((bt a0 0) == 45)=true:=c33
            (try (have c33b1:decide ((bt a0 0)=45)=true:=by simpa using c33))
            (try (have c33b2:((bt a0 0) == 45)=true:=by simpa using c33))
            clear c33
            exact absurd c33b0 (by have h_:=c5b1;simp at h_ ⊢;exact h_)
           ·rw [if_neg c33] at H
            have c33b0:((bt a0 0) == 45)=false:=by simpa using c33
            (try (have c33b1:decide ((bt a0 0)=45)=false:=by simpa using c33))
            (try (have c33b2:((bt a0 0) == 45)=false:=by simpa using c33))
            (try (have c33b3 : ¬ ((bt a0 0)=45):=by simpa using c33))
            clear c33
            simp only [Option.some.injEq,Prod.mk.injEq] at H
            obtain ⟨rfl,rfl⟩:=H
            go_wp2
            go_ret2
            exact ⟨by first|rfl|(simp;done)|(simp [*];done),zdw⟩
      ·rw [if_neg c24] at H
       have c24b0:((bt a0 0) == 48)=false:=beq_eq_false_iff_ne.mpr c24
       have c24b1:((bt a0 0) != 48)=true:=bne_iff_ne.mpr c24
       have H':=Aside0.mk H
       clear H
       have p4:0≤(0:Int):=(by omega)
       have q4:0 < a0.size:=(by have:(0:Int) < (a0.size:Int):=zod;omega)
       have hx4 : ∀ h:0 < a0.size,((a0[0]'h).toNat:Int)=bt a0 0:=bt_at a0 0
       clear p4
       have qi4:(0 < (a0.size:Int))=True:=eq_true (zod)
       replace q4:=eq_true q4
       have p23:0≤(0:Int):=(by omega)
       have q23:0 < a0.size:=(by have:(0:Int) < (a0.size:Int):=zod;omega)
       have hx23 : ∀ h:0 < a0.size,((a0[0]'h).toNat:Int)=bt a0 0:=bt_at a0 0
       clear p23
       have qi23:(0 < (a0.size:Int))=True:=eq_true (zod)
       replace q23:=eq_true q23
       go_enter Tryd.func11,Tryd.ntmps11
       go_wp2
       go_loopg [5,6] k (fun kq v5 v6 w'=>∃ (x5_1:Int) (x6_1:Int),v5=.int .i64 x5_1∧v6=.int .i64 x6_1∧Aside0 (spec_l12Num.l0 kq a0 ((bt a0 0) == 45) x5_1 x6_1=some (r1,r2))∧Aside0 (kq≤k)∧Drawn0 w w')
       case atStart=>exact ⟨(0),(0),(by first|rfl|(simp;done)|(simp [*];done)),(by first|rfl|(simp;done)|(simp [*];done)),H',⟨Nat.le_refl _⟩,zdw⟩
       case round =>
        clear H'
        try clear c1
        try clear p1
        try clear q1
        try clear hx1
        try clear qi1
        try clear c2
        try clear c2b0
        try clear c2b1
        try clear p2
        try clear q2
        try clear hx2
        try clear qi2
        try clear c3
        try clear c3b0
        try clear c3b1
        try clear p3
        try clear q3
        try clear hx3
        try clear p4
        try clear q4
        try clear hx4
        try clear qi4
        try clear c5
        try clear c6
        try clear c6b0
        try clear c6b1
        try clear p6
        try clear c7
        try clear c7b0
        try clear c7b1
        try clear c8
        try clear c8b0
        try clear c8b1
        try clear c9
        try clear c9b0
        try clear c9b1
        try clear p10
        try clear q10
        try clear hx10
        try clear qi10
        try clear c11
        try clear c11b0
        try clear c11b1
        try clear c12
        try clear c12b0
        try clear c12b1
        try clear c13
        try clear c13b0
        try clear c14
        try clear c14b0
        try clear p15
        try clear q15
        try clear hx15
        try clear c16
        try clear c16b0
        try clear p17
        try clear q17
        try clear hx17
        try clear c18
        try clear c18b0
        try clear p19
        try clear q19
        try clear hx19
        try clear c20
        try clear c20b0
        try clear c20b1
        try clear c20b2
        try clear c21
        try clear c21b0
        try clear c21b1
        try clear c22
        try clear c22b0
        try clear c22b1
        try clear p23
        try clear q23
        try clear hx23
        try clear qi23
        try clear c24
        try clear c24b0
        try clear c24b1
        try clear c25
        try clear c25b0
        try clear c25b1
        try clear c26
        try clear c26b0
        try clear c27
        try clear c27b0
        try clear p28
        try clear q28
        try clear hx28
        try clear c29
        try clear c29b0
        try clear p30
        try clear q30
        try clear hx30
        try clear c31
        try clear c31b0
        try clear p32
        try clear q32
        try clear hx32
        try clear c33
        try clear c33b0
        try clear c33b1
        try clear c33b2
        try clear p1
        try clear p10
        try clear p15
        try clear p17
        try clear p19
        try clear p2
        try clear p23
        try clear p28
        try clear p30
        try clear p32
        try clear p4
        try clear p6
        try clear q1
        try clear q10
        try clear q15
        try clear q17
        try clear q19
        try clear q2
        try clear q23
        try clear q28
        try clear q30
        try clear q32
        try clear q4
        obtain ⟨x5_1,x6_1,rfl,rfl,HA,HK1,⟨m1,rfl⟩⟩:=hrel
        cases gk with
        | zero=>exact absurd HA.out (by simp [spec_l12Num.l0])
        | succ k1 =>
         have H:=HA.out
         clear HA
         simp only [spec_l12Num.l0] at H
         by_cases c34:x6_1 < (a0.size:Int)
         ·rw [if_pos c34] at H
          have c34b0:decide (x6_1 < (a0.size:Int))=true:=decide_eq_true c34
          clear c34
          by_cases c35:0≤x6_1
          ·rw [if_pos c35] at H
           have c35b0:decide (0≤x6_1)=true:=decide_eq_true c35
           clear c35
           by_cases c37:(bt a0 x6_1) < 48
           ·rw [if_pos c37] at H
            have c37b0:decide ((bt a0 x6_1) < 48)=true:=decide_eq_true c37
            clear c37
            simp only [Option.some.injEq,Prod.mk.injEq] at H
            obtain ⟨rfl,rfl⟩:=H
            have p36:0≤(x6_1:Int):=zod
            have q36:x6_1 < (a0.size:Int):=zod
            have hx36:=bt_at a0 x6_1
            replace p36:=eq_true p36
            replace q36:=eq_true q36
            go_wp2
            go_ret2
            exact ⟨by first|rfl|(simp;done)|(simp [*];done),zdw⟩
           ·rw [if_neg c37] at H
            have c37b0:decide ((bt a0 x6_1) < 48)=false:=decide_eq_false c37
            clear c37
            by_cases c39:(bt a0 x6_1) > 57
            ·rw [if_pos c39] at H
             have c39b0:decide (57 < (bt a0 x6_1))=true:=decide_eq_true c39
             clear c39
             simp only [Option.some.injEq,Prod.mk.injEq] at H
             obtain ⟨rfl,rfl⟩:=H
             have p36:0≤(x6_1:Int):=zod
             have q36:x6_1 < (a0.size:Int):=zod
             have hx36:=bt_at a0 x6_1
             replace p36:=eq_true p36
             replace q36:=eq_true q36
             have p38:0≤(x6_1:Int):=zod
             have q38:x6_1 < (a0.size:Int):=zod
             have hx38:=bt_at a0 x6_1
             replace p38:=eq_true p38
             replace q38:=eq_true q38
             go_wp2
             go_ret2
             exact ⟨by first|rfl|(simp;done)|(simp [*];done),zdw⟩
            ·rw [if_neg c39] at H
             have c39b0:decide (57 < (bt a0 x6_1))=false:=decide_eq_false c39
             clear c39
             have H':=Aside0.mk H
             clear H
             have p36:0≤(x6_1:Int):=zod
             have q36:x6_1 < (a0.size:Int):=zod
             have hx36:=bt_at a0 x6_1
             replace p36:=eq_true p36
             replace q36:=eq_true q36
             have p38:0≤(x6_1:Int):=zod
             have q38:x6_1 < (a0.size:Int):=zod
             have hx38:=bt_at a0 x6_1
             replace p38:=eq_true p38
             replace q38:=eq_true q38
             have p40:0≤(x6_1:Int):=zod
             have q40:x6_1 < (a0.size:Int):=zod
             have hx40:=bt_at a0 x6_1
             replace p40:=eq_true p40
             replace q40:=eq_true q40
             go_wp2
             go_roundg k1
             case measure=>have:=HK1.out;omega
             case rel=>exact ⟨(wrap64 ((wrap64 (x5_1 * 10)) + (((bt a0 x6_1) - 48) % 256))),(wrap64 (x6_1 + 1)),(by first|rfl|(simp;done)|(simp [*];done)),(by first|rfl|(simp;done)|(simp [*];done)),H',⟨by have:=HK1.out;omega⟩,zdw⟩
          ·rw [if_neg c35] at H
           exact absurd H (by simp)
         ·rw [if_neg c34] at H
          have c34b0:decide (x6_1 < (a0.size:Int))=false:=decide_eq_false c34
          clear c34
          by_cases c41:((bt a0 0) == 45)=true
          ·rw [if_pos c41] at H
           have c41b0:((bt a0 0) == 45)=true:=c41
           (try (have c41b1:decide ((bt a0 0)=45)=true:=by simpa using c41))
           (try (have c41b2:((bt a0 0) == 45)=true:=by simpa using c41))
           clear c41
           exact absurd c41b0 (by have h_:=c5b1;simp at h_ ⊢;exact h_)
          ·rw [if_neg c41] at H
           have c41b0:((bt a0 0) == 45)=false:=by simpa using c41
           (try (have c41b1:decide ((bt a0 0)=45)=false:=by simpa using c41))
           (try (have c41b2:((bt a0 0) == 45)=false:=by simpa using c41))
           (try (have c41b3 : ¬ ((bt a0 0)=45):=by simpa using c41))
           clear c41
           simp only [Option.some.injEq,Prod.mk.injEq] at H
           obtain ⟨rfl,rfl⟩:=H
           go_wp2
           go_ret2
           exact ⟨by first|rfl|(simp;done)|(simp [*];done),zdw⟩
  ·rw [if_neg c3] at H
   exact absurd H (by simp)
 ·rw [if_neg c2] at H
  have c2b0:decide (0 < (a0.size:Int))=false:=decide_eq_false c2
  have c2b1:decide (0 < a0.size)=false:=decide_eq_false (by omega)
  clear c2
  by_cases c42:(a0.size:Int)=0
  ·rw [if_pos c42] at H
   have c42b0:((a0.size:Int) == 0)=true:=beq_iff_eq.mpr c42
   have c42b1:((a0.size:Int) != 0)=false:=bne_eq_false_iff_eq.mpr c42
   clear c42
   simp only [Option.some.injEq,Prod.mk.injEq] at H
   obtain ⟨rfl,rfl⟩:=H
   go_enter Tryd.func11,Tryd.ntmps11
   go_wp2
   go_ret2
   exact ⟨by first|rfl|(simp;done)|(simp [*];done),zdw⟩
  ·exfalso;have h1:=of_decide_eq_false c2b0;have h2:(a0.size:Int)≠0:=by assumption
   omega


end Go.Proofs.YthmcbekemnabdaaDoor.PFnExactTestRead
