-- Written by wip/tools/pp.py, a program of this session over the kit's printer: not the kit's own print
import Derived.Test.YtlpgnkndjmfcjaaGreatPFnExactPlanManyx0
namespace Go.Proofs.YtlpgnkndjmfcjaaGreat.PFnExactPlanMany
open Go.RowKit Go.Proofs.YtlpgnkndjmfcjaaGreatW.PrintWords Go.Proofs.YtlpgnkndjmfcjaaGreatW.PrintLast Go.Proofs.YtlpgnkndjmfcjaaGreatW.PrintMore
attribute [local go_sem] max2_int min2_int max_two min_two max_three min_three max_four min_four   -- for this text's walks alone
set_option linter.unusedVariables false
set_option linter.unusedSimpArgs false

theorem eqA33 (d:Nat) (w:World) (x0 y0:Int) (x1 y1:Int) (x2 y2:Int) (x3 y3:Int) :
  (Op.equalIn (d + 2) 33 (.agg #[.int .i64 x0,.int .i64 x1,.int .i64 x2,.int .i64 x3]) (.agg #[.int .i64 y0,.int .i64 y1,.int .i64 y2,.int .i64 y3])).run Tryz.prog w=.ok (x0 == y0 && (x1 == y1 && (x2 == y2 && (x3 == y3)))) w:=by
 refine eqA_of Tryz.underlying33 (by kernel_rfl) ?_
 refine eqf_cons (by rfl) (by go_simp;rfl) (by go_simp;rfl) (by go_simp) ?_
 refine eqf_cons (by rfl) (by go_simp;rfl) (by go_simp;rfl) (by go_simp) ?_
 refine eqf_cons (by rfl) (by go_simp;rfl) (by go_simp;rfl) (by go_simp) ?_
 exact eqf_last (by rfl) (by go_simp;rfl) (by go_simp;rfl) (by go_simp)
/-! ### laws_szCellS: function 15 -/
def laws_szCellS.f (l0:List (S23)) (a1:Int):Option (Int):=if (wrap64 (a1 - (l0.length:Int))) < 0 then (some (-1)) else (some (wrap64 (a1 - (l0.length:Int))))
set_option maxHeartbeats 8000000 in
set_option maxRecDepth 100000 in
theorem laws_szCellS.calls (A0:Option Addr) (c0:Nat) (l0:List (S23)) (a1:Int) (r:Int) (w:World) (hr0:Kd.C k23 w A0 l0.length l0) (hc0:l0.length≤c0) (h:laws_szCellS.f l0 a1=some r) :
  Calls Tryz.prog 15 #[.slice A0 l0.length c0,.int .i64 a1] w fun e w'=>e=.returned (.int .i64 r)∧Drawn0 w w':=by
 have HR0:=Aside0.mk hr0
 have HC0:=Aside0.mk hc0
 clear hr0 hc0
 have H:(if (wrap64 (a1 - (l0.length:Int))) < 0 then (some (-1)) else (some (wrap64 (a1 - (l0.length:Int)))))=some r:=h
 clear h
 by_cases c3:(wrap64 (a1 - (l0.length:Int))) < 0
 ·rw [if_pos c3] at H
  have c3b0:decide ((wrap64 (a1 - (l0.length:Int))) < 0)=true:=decide_eq_true c3
  clear c3
  obtain rfl:=Option.some.inj H
  go_enter Tryz.func15,Tryz.ntmps15
  go_wp2
  go_ret
  exact ⟨by first|rfl|(simp;done)|(simp [*];done),zdw⟩
 ·rw [if_neg c3] at H
  have c3b0:decide ((wrap64 (a1 - (l0.length:Int))) < 0)=false:=decide_eq_false c3
  clear c3
  obtain rfl:=Option.some.inj H
  go_enter Tryz.func15,Tryz.ntmps15
  go_wp2
  go_ret
  exact ⟨by first|rfl|(simp;done)|(simp [*];done),zdw⟩

/-! ### laws_szIntS: function 16 -/
def laws_szIntS.f (l0:List Int) (a1:Int):Option (Int):=if (wrap64 (a1 - (l0.length:Int))) < 0 then (some (-1)) else (some (wrap64 (a1 - (l0.length:Int))))
set_option maxHeartbeats 8000000 in
set_option maxRecDepth 100000 in
theorem laws_szIntS.calls (A0:Option Addr) (c0:Nat) (l0:List Int) (a1:Int) (r:Int) (w:World) (hr0:Kd.C (Kd.int .i64) w A0 l0.length l0) (hc0:l0.length≤c0) (h:laws_szIntS.f l0 a1=some r) :
  Calls Tryz.prog 16 #[.slice A0 l0.length c0,.int .i64 a1] w fun e w'=>e=.returned (.int .i64 r)∧Drawn0 w w':=by
 have HR0:=Aside0.mk hr0
 have HC0:=Aside0.mk hc0
 clear hr0 hc0
 have H:(if (wrap64 (a1 - (l0.length:Int))) < 0 then (some (-1)) else (some (wrap64 (a1 - (l0.length:Int)))))=some r:=h
 clear h
 by_cases c3:(wrap64 (a1 - (l0.length:Int))) < 0
 ·rw [if_pos c3] at H
  have c3b0:decide ((wrap64 (a1 - (l0.length:Int))) < 0)=true:=decide_eq_true c3
  clear c3
  obtain rfl:=Option.some.inj H
  go_enter Tryz.func16,Tryz.ntmps16
  go_wp2
  go_ret
  exact ⟨by first|rfl|(simp;done)|(simp [*];done),zdw⟩
 ·rw [if_neg c3] at H
  have c3b0:decide ((wrap64 (a1 - (l0.length:Int))) < 0)=false:=decide_eq_false c3
  clear c3
  obtain rfl:=Option.some.inj H
  go_enter Tryz.func16,Tryz.ntmps16
  go_wp2
  go_ret
  exact ⟨by first|rfl|(simp;done)|(simp [*];done),zdw⟩


/-! ### spec_l4Kids: function 49 -/
def spec_l4Kids.f (a0:Int):Option (Int):=if a0=1 then (some 0) else (if a0=2 then (some 1) else (if a0=3 then (some 1) else (if a0=6 then (some 1) else (if a0=7 then (some 1) else (if a0=4 then (some 2) else (if a0=5 then (some 2) else (some (-1))))))))
set_option maxHeartbeats 8000000 in
set_option maxRecDepth 100000 in
theorem spec_l4Kids.calls (a0:Int) (r:Int) (w:World) (h:spec_l4Kids.f a0=some r) :
  Calls Tryz.prog 49 #[.int .i64 a0] w fun e w'=>e=.returned (.int .i64 r)∧Drawn0 w w':=by
 have H:(if a0=1 then (some 0) else (if a0=2 then (some 1) else (if a0=3 then (some 1) else (if a0=6 then (some 1) else (if a0=7 then (some 1) else (if a0=4 then (some 2) else (if a0=5 then (some 2) else (some (-1)))))))))=some r:=h
 clear h
 by_cases c2:a0=1
 ·rw [if_pos c2] at H
  have c2b0:(a0 == 1)=true:=beq_iff_eq.mpr c2
  have c2b1:(a0 != 1)=false:=bne_eq_false_iff_eq.mpr c2
  clear c2
  obtain rfl:=Option.some.inj H
  go_enter Tryz.func49,Tryz.ntmps49
  go_wp2
  go_ret
  exact ⟨by first|rfl|(simp;done)|(simp [*];done),zdw⟩
 ·rw [if_neg c2] at H
  have c2b0:(a0 == 1)=false:=beq_eq_false_iff_ne.mpr c2
  have c2b1:(a0 != 1)=true:=bne_iff_ne.mpr c2
  by_cases c3:a0=2
  ·rw [if_pos c3] at H
   have c3b0:(a0 == 2)=true:=beq_iff_eq.mpr c3
   have c3b1:(a0 != 2)=false:=bne_eq_false_iff_eq.mpr c3
   clear c3
   obtain rfl:=Option.some.inj H
   go_enter Tryz.func49,Tryz.ntmps49
   go_wp2
   go_ret
   exact ⟨by first|rfl|(simp;done)|(simp [*];done),zdw⟩
  ·rw [if_neg c3] at H
   have c3b0:(a0 == 2)=false:=beq_eq_false_iff_ne.mpr c3
   have c3b1:(a0 != 2)=true:=bne_iff_ne.mpr c3
   by_cases c4:a0=3
   ·rw [if_pos c4] at H
    have c4b0:(a0 == 3)=true:=beq_iff_eq.mpr c4
    have c4b1:(a0 != 3)=false:=bne_eq_false_iff_eq.mpr c4
    clear c4
    obtain rfl:=Option.some.inj H
    go_enter Tryz.func49,Tryz.ntmps49
    go_wp2
    go_ret
    exact ⟨by first|rfl|(simp;done)|(simp [*];done),zdw⟩
   ·rw [if_neg c4] at H
    have c4b0:(a0 == 3)=false:=beq_eq_false_iff_ne.mpr c4
    have c4b1:(a0 != 3)=true:=bne_iff_ne.mpr c4
    by_cases c5:a0=6
    ·rw [if_pos c5] at H
     have c5b0:(a0 == 6)=true:=beq_iff_eq.mpr c5
     have c5b1:(a0 != 6)=false:=bne_eq_false_iff_eq.mpr c5
     clear c5
     obtain rfl:=Option.some.inj H
     go_enter Tryz.func49,Tryz.ntmps49
     go_wp2
     go_ret
     exact ⟨by first|rfl|(simp;done)|(simp [*];done),zdw⟩
    ·rw [if_neg c5] at H
     have c5b0:(a0 == 6)=false:=beq_eq_false_iff_ne.mpr c5
     have c5b1:(a0 != 6)=true:=bne_iff_ne.mpr c5
     by_cases c6:a0=7
     ·rw [if_pos c6] at H
      have c6b0:(a0 == 7)=true:=beq_iff_eq.mpr c6
      have c6b1:(a0 != 7)=false:=bne_eq_false_iff_eq.mpr c6
      clear c6
      obtain rfl:=Option.some.inj H
      go_enter Tryz.func49,Tryz.ntmps49
      go_wp2
      go_ret
      exact ⟨by first|rfl|(simp;done)|(simp [*];done),zdw⟩
     ·rw [if_neg c6] at H
      have c6b0:(a0 == 7)=false:=beq_eq_false_iff_ne.mpr c6
      have c6b1:(a0 != 7)=true:=bne_iff_ne.mpr c6
      by_cases c7:a0=4
      ·rw [if_pos c7] at H
       have c7b0:(a0 == 4)=true:=beq_iff_eq.mpr c7
       have c7b1:(a0 != 4)=false:=bne_eq_false_iff_eq.mpr c7
       clear c7
       obtain rfl:=Option.some.inj H
       go_enter Tryz.func49,Tryz.ntmps49
       go_wp2
       go_ret
       exact ⟨by first|rfl|(simp;done)|(simp [*];done),zdw⟩
      ·rw [if_neg c7] at H
       have c7b0:(a0 == 4)=false:=beq_eq_false_iff_ne.mpr c7
       have c7b1:(a0 != 4)=true:=bne_iff_ne.mpr c7
       by_cases c8:a0=5
       ·rw [if_pos c8] at H
        have c8b0:(a0 == 5)=true:=beq_iff_eq.mpr c8
        have c8b1:(a0 != 5)=false:=bne_eq_false_iff_eq.mpr c8
        clear c8
        obtain rfl:=Option.some.inj H
        go_enter Tryz.func49,Tryz.ntmps49
        go_wp2
        go_ret
        exact ⟨by first|rfl|(simp;done)|(simp [*];done),zdw⟩
       ·rw [if_neg c8] at H
        have c8b0:(a0 == 5)=false:=beq_eq_false_iff_ne.mpr c8
        have c8b1:(a0 != 5)=true:=bne_iff_ne.mpr c8
        obtain rfl:=Option.some.inj H
        go_enter Tryz.func49,Tryz.ntmps49
        go_wp2
        go_ret
        exact ⟨by first|rfl|(simp;done)|(simp [*];done),zdw⟩

/-! ### spec_l3Col: function 53 -/
def spec_l3Col.f (a0:Int) (a1:Int):Option (Bool):=if a0 ≥ 0 then (if a0 < a1 then (some (decide (a0 < 6))) else (some false)) else (some false)
set_option maxHeartbeats 8000000 in
set_option maxRecDepth 100000 in
theorem spec_l3Col.calls (a0:Int) (a1:Int) (r:Bool) (w:World) (h:spec_l3Col.f a0 a1=some r) :
  Calls Tryz.prog 53 #[.int .i64 a0,.int .i64 a1] w fun e w'=>e=.returned (.bool r)∧Drawn0 w w':=by
 have H:(if a0 ≥ 0 then (if a0 < a1 then (some (decide (a0 < 6))) else (some false)) else (some false))=some r:=h
 clear h
 by_cases c3:a0 ≥ 0
 ·rw [if_pos c3] at H
  have c3b0:decide (0≤a0)=true:=decide_eq_true c3
  clear c3
  by_cases c4:a0 < a1
  ·rw [if_pos c4] at H
   have c4b0:decide (a0 < a1)=true:=decide_eq_true c4
   clear c4
   obtain rfl:=Option.some.inj H
   go_enter Tryz.func53,Tryz.ntmps53
   go_wp2
   go_ret
   exact ⟨by first|rfl|(simp;done)|(simp [*];done),zdw⟩
  ·rw [if_neg c4] at H
   have c4b0:decide (a0 < a1)=false:=decide_eq_false c4
   clear c4
   obtain rfl:=Option.some.inj H
   go_enter Tryz.func53,Tryz.ntmps53
   go_wp2
   go_ret
   exact ⟨by first|rfl|(simp;done)|(simp [*];done),zdw⟩
 ·rw [if_neg c3] at H
  have c3b0:decide (0≤a0)=false:=decide_eq_false c3
  clear c3
  obtain rfl:=Option.some.inj H
  go_enter Tryz.func53,Tryz.ntmps53
  go_wp2
  go_ret
  exact ⟨by first|rfl|(simp;done)|(simp [*];done),zdw⟩

/-! ### spec_l1Cell: function 67 -/
def spec_l1Cell.f (a0:Int):Option (Bool):=if a0 ≥ (-1000000000) then (some (decide (a0≤1000000000))) else (some false)
set_option maxHeartbeats 8000000 in
set_option maxRecDepth 100000 in
theorem spec_l1Cell.calls (a0:Int) (r:Bool) (w:World) (h:spec_l1Cell.f a0=some r) :
  Calls Tryz.prog 67 #[.int .i64 a0] w fun e w'=>e=.returned (.bool r)∧Drawn0 w w':=by
 have H:(if a0 ≥ (-1000000000) then (some (decide (a0≤1000000000))) else (some false))=some r:=h
 clear h
 by_cases c2:a0 ≥ (-1000000000)
 ·rw [if_pos c2] at H
  have c2b0:decide ((-1000000000)≤a0)=true:=decide_eq_true c2
  clear c2
  obtain rfl:=Option.some.inj H
  go_enter Tryz.func67,Tryz.ntmps67
  go_wp2
  go_ret
  exact ⟨by first|rfl|(simp;done)|(simp [*];done),zdw⟩
 ·rw [if_neg c2] at H
  have c2b0:decide ((-1000000000)≤a0)=false:=decide_eq_false c2
  clear c2
  obtain rfl:=Option.some.inj H
  go_enter Tryz.func67,Tryz.ntmps67
  go_wp2
  go_ret
  exact ⟨by first|rfl|(simp;done)|(simp [*];done),zdw⟩

/-! ### spec_CellOk: function 59 -/
def spec_CellOk.f (a0_0:Int) (a0_1:Int) (a0_2:Int) (a0_3:Int) (a1:Int):Option (Bool):=if a0_0=1 then ((spec_l3Col.f a0_1 a1).bind fun t108=>(if t108=true then (if a0_2=0 then (some (a0_3 == 0)) else (some false)) else (some false))) else (if a0_0=2 then (if a0_1=0 then (if a0_2=0 then ((spec_l1Cell.f a0_3).bind fun t109=>(some t109)) else (some false)) else (some false)) else (if a0_0=3 then ((spec_l3Col.f a0_1 a1).bind fun t110=>(if t110=true then ((spec_l3Col.f a0_2 a1).bind fun t111=>(if t111=true then (some (a0_3 == 0)) else (some false))) else (some false))) else (some false)))
set_option maxHeartbeats 8000000 in
set_option maxRecDepth 100000 in
theorem spec_CellOk.calls (a0_0:Int) (a0_1:Int) (a0_2:Int) (a0_3:Int) (a1:Int) (r:Bool) (w:World) (h:spec_CellOk.f a0_0 a0_1 a0_2 a0_3 a1=some r) :
  Calls Tryz.prog 59 #[.agg #[.int .i64 a0_0,.int .i64 a0_1,.int .i64 a0_2,.int .i64 a0_3],.int .i64 a1] w fun e w'=>e=.returned (.bool r)∧Below w.heap.size w w':=by
 have hu33:=Tryz.underlying33
 have HB:=Aside0.mk (Below.refl w.heap.size w)
 have H:(if a0_0=1 then ((spec_l3Col.f a0_1 a1).bind fun t108=>(if t108=true then (if a0_2=0 then (some (a0_3 == 0)) else (some false)) else (some false))) else (if a0_0=2 then (if a0_1=0 then (if a0_2=0 then ((spec_l1Cell.f a0_3).bind fun t109=>(some t109)) else (some false)) else (some false)) else (if a0_0=3 then ((spec_l3Col.f a0_1 a1).bind fun t110=>(if t110=true then ((spec_l3Col.f a0_2 a1).bind fun t111=>(if t111=true then (some (a0_3 == 0)) else (some false))) else (some false))) else (some false))))=some r:=h
 clear h
 by_cases c3:a0_0=1
 ·rw [if_pos c3] at H
  have c3b0:(a0_0 == 1)=true:=beq_iff_eq.mpr c3
  have c3b1:(a0_0 != 1)=false:=bne_eq_false_iff_eq.mpr c3
  clear c3
  replace H:=Option.bind_eq_some_iff.mp H
  obtain ⟨t108,A40,H⟩:=H
  (try dsimp only at H)
  have A4:=Aside0.mk A40
  clear A40
  by_cases c5:t108=true
  ·subst c5
   have H1:(if a0_2=0 then (some (a0_3 == 0)) else (some false))=some r:=by rw [if_pos rfl] at H;exact H
   clear H
   have H:=H1
   clear H1
   by_cases c6:a0_2=0
   ·rw [if_pos c6] at H
    have c6b0:(a0_2 == 0)=true:=beq_iff_eq.mpr c6
    have c6b1:(a0_2 != 0)=false:=bne_eq_false_iff_eq.mpr c6
    clear c6
    obtain rfl:=Option.some.inj H
    go_enter Tryz.func59,Tryz.ntmps59
    go_wp2_with (first|((with_reducible refine gate_dst (N:=2) rfl ?_);refine box_event ?hg (N:=2) ?hd (cs:=#[.int .i64 a0_0,.int .i64 a0_1,.int .i64 a0_2,.int .i64 a0_3]) (t:=33) ?hr ?_;(case hd=>rfl);(case hg=>rfl);(case hr=>first|(go_simp;done)|(go_simp;rfl));intro gb107 hg w7 hbox hb;have n0_:=Aside0.mk (below_step zhb hb);have n1_:=Aside0.mk (hbox);have n2_:=Aside0.mk ((by rw [hg];exact (below_size zhb):w.heap.size≤gb107));have n3_:=Aside0.mk ((by rw [hg];exact (below_size zhb):w.heap.size≤gb107));clear HB;have HB:=n0_;have BK107:=n1_;have GW107:=n2_;have GE107:=n3_;clear n0_ n1_ n2_ n3_;clear hb hbox hg;have hcz8_0:w7.cell? ⟨gb107,0,none⟩=some (.int .i64 a0_0):=(blk_cell BK107.out 0).trans rfl;have hcz8_1:w7.cell? ⟨gb107,1,none⟩=some (.int .i64 a0_1):=(blk_cell BK107.out 1).trans rfl;have hcz8_2:w7.cell? ⟨gb107,2,none⟩=some (.int .i64 a0_2):=(blk_cell BK107.out 2).trans rfl;have hcz8_3:w7.cell? ⟨gb107,3,none⟩=some (.int .i64 a0_3):=(blk_cell BK107.out 3).trans rfl;have hfz8_0:=blk_frozen BK107.out 0;have hfz8_1:=blk_frozen BK107.out 1;have hfz8_2:=blk_frozen BK107.out 2;have hfz8_3:=blk_frozen BK107.out 3)|((with_reducible refine gate_callee (f:=53) rfl ?_);refine goesL_ (some 12) rfl rfl Tryz.func53 (by kernel_rfl) rfl #[.int .i64 a0_1,.int .i64 a1] rfl zar ?_;(with_reducible refine (spec_l3Col.calls a0_1 a1 true _ A4.out).mono ?_);rintro e w' ⟨rfl,⟨nd,rfl⟩⟩;refine ⟨_,rfl,?_⟩))
    go_ret
    exact ⟨by first|rfl|(simp [errW_none,errW_some] <;> rfl)|(simp [*,errW_none,errW_some] <;> rfl),by repeat (first|(with_reducible first|exact HB.out|apply below_alloc|apply pw_below_drewN|apply below_drew1|refine below_set ?_ GE107.out)|exact HB.out)⟩
   ·rw [if_neg c6] at H
    have c6b0:(a0_2 == 0)=false:=beq_eq_false_iff_ne.mpr c6
    have c6b1:(a0_2 != 0)=true:=bne_iff_ne.mpr c6
    obtain rfl:=Option.some.inj H
    go_enter Tryz.func59,Tryz.ntmps59
    go_wp2_with (first|((with_reducible refine gate_dst (N:=2) rfl ?_);refine box_event ?hg (N:=2) ?hd (cs:=#[.int .i64 a0_0,.int .i64 a0_1,.int .i64 a0_2,.int .i64 a0_3]) (t:=33) ?hr ?_;(case hd=>rfl);(case hg=>rfl);(case hr=>first|(go_simp;done)|(go_simp;rfl));intro gb107 hg w9 hbox hb;have n0_:=Aside0.mk (below_step zhb hb);have n1_:=Aside0.mk (hbox);have n2_:=Aside0.mk ((by rw [hg];exact (below_size zhb):w.heap.size≤gb107));have n3_:=Aside0.mk ((by rw [hg];exact (below_size zhb):w.heap.size≤gb107));clear HB;have HB:=n0_;have BK107:=n1_;have GW107:=n2_;have GE107:=n3_;clear n0_ n1_ n2_ n3_;clear hb hbox hg;have hcz10_0:w9.cell? ⟨gb107,0,none⟩=some (.int .i64 a0_0):=(blk_cell BK107.out 0).trans rfl;have hcz10_1:w9.cell? ⟨gb107,1,none⟩=some (.int .i64 a0_1):=(blk_cell BK107.out 1).trans rfl;have hcz10_2:w9.cell? ⟨gb107,2,none⟩=some (.int .i64 a0_2):=(blk_cell BK107.out 2).trans rfl;have hcz10_3:w9.cell? ⟨gb107,3,none⟩=some (.int .i64 a0_3):=(blk_cell BK107.out 3).trans rfl;have hfz10_0:=blk_frozen BK107.out 0;have hfz10_1:=blk_frozen BK107.out 1;have hfz10_2:=blk_frozen BK107.out 2;have hfz10_3:=blk_frozen BK107.out 3)|((with_reducible refine gate_callee (f:=53) rfl ?_);refine goesL_ (some 12) rfl rfl Tryz.func53 (by kernel_rfl) rfl #[.int .i64 a0_1,.int .i64 a1] rfl zar ?_;(with_reducible refine (spec_l3Col.calls a0_1 a1 true _ A4.out).mono ?_);rintro e w' ⟨rfl,⟨nd,rfl⟩⟩;refine ⟨_,rfl,?_⟩))
    go_ret
    exact ⟨by first|rfl|(simp [errW_none,errW_some] <;> rfl)|(simp [*,errW_none,errW_some] <;> rfl),by repeat (first|(with_reducible first|exact HB.out|apply below_alloc|apply pw_below_drewN|apply below_drew1|refine below_set ?_ GE107.out)|exact HB.out)⟩
  ·replace c5:=Bool.eq_false_iff.mpr c5
   subst c5
   have H1:(some false)=some r:=by rw [if_neg (show ¬ (false=true) by decide)] at H;exact H
   clear H
   have H:=H1
   clear H1
   obtain rfl:=Option.some.inj H
   go_enter Tryz.func59,Tryz.ntmps59
   go_wp2_with (first|((with_reducible refine gate_dst (N:=2) rfl ?_);refine box_event ?hg (N:=2) ?hd (cs:=#[.int .i64 a0_0,.int .i64 a0_1,.int .i64 a0_2,.int .i64 a0_3]) (t:=33) ?hr ?_;(case hd=>rfl);(case hg=>rfl);(case hr=>first|(go_simp;done)|(go_simp;rfl));intro gb107 hg w11 hbox hb;have n0_:=Aside0.mk (below_step zhb hb);have n1_:=Aside0.mk (hbox);have n2_:=Aside0.mk ((by rw [hg];exact (below_size zhb):w.heap.size≤gb107));have n3_:=Aside0.mk ((by rw [hg];exact (below_size zhb):w.heap.size≤gb107));clear HB;have HB:=n0_;have BK107:=n1_;have GW107:=n2_;have GE107:=n3_;clear n0_ n1_ n2_ n3_;clear hb hbox hg;have hcz12_0:w11.cell? ⟨gb107,0,none⟩=some (.int .i64 a0_0):=(blk_cell BK107.out 0).trans rfl;have hcz12_1:w11.cell? ⟨gb107,1,none⟩=some (.int .i64 a0_1):=(blk_cell BK107.out 1).trans rfl;have hcz12_2:w11.cell? ⟨gb107,2,none⟩=some (.int .i64 a0_2):=(blk_cell BK107.out 2).trans rfl;have hcz12_3:w11.cell? ⟨gb107,3,none⟩=some (.int .i64 a0_3):=(blk_cell BK107.out 3).trans rfl;have hfz12_0:=blk_frozen BK107.out 0;have hfz12_1:=blk_frozen BK107.out 1;have hfz12_2:=blk_frozen BK107.out 2;have hfz12_3:=blk_frozen BK107.out 3)|((with_reducible refine gate_callee (f:=53) rfl ?_);refine goesL_ (some 12) rfl rfl Tryz.func53 (by kernel_rfl) rfl #[.int .i64 a0_1,.int .i64 a1] rfl zar ?_;(with_reducible refine (spec_l3Col.calls a0_1 a1 false _ A4.out).mono ?_);rintro e w' ⟨rfl,⟨nd,rfl⟩⟩;refine ⟨_,rfl,?_⟩))
   go_ret
   exact ⟨by first|rfl|(simp [errW_none,errW_some] <;> rfl)|(simp [*,errW_none,errW_some] <;> rfl),by repeat (first|(with_reducible first|exact HB.out|apply below_alloc|apply pw_below_drewN|apply below_drew1|refine below_set ?_ GE107.out)|exact HB.out)⟩
 ·rw [if_neg c3] at H
  have c3b0:(a0_0 == 1)=false:=beq_eq_false_iff_ne.mpr c3
  have c3b1:(a0_0 != 1)=true:=bne_iff_ne.mpr c3
  by_cases c13:a0_0=2
  ·rw [if_pos c13] at H
   have c13b0:(a0_0 == 2)=true:=beq_iff_eq.mpr c13
   have c13b1:(a0_0 != 2)=false:=bne_eq_false_iff_eq.mpr c13
   clear c13
   by_cases c14:a0_1=0
   ·rw [if_pos c14] at H
    have c14b0:(a0_1 == 0)=true:=beq_iff_eq.mpr c14
    have c14b1:(a0_1 != 0)=false:=bne_eq_false_iff_eq.mpr c14
    clear c14
    by_cases c15:a0_2=0
    ·rw [if_pos c15] at H
     have c15b0:(a0_2 == 0)=true:=beq_iff_eq.mpr c15
     have c15b1:(a0_2 != 0)=false:=bne_eq_false_iff_eq.mpr c15
     clear c15
     replace H:=Option.bind_eq_some_iff.mp H
     obtain ⟨t109,A160,H⟩:=H
     (try dsimp only at H)
     have A16:=Aside0.mk A160
     clear A160
     obtain rfl:=Option.some.inj H
     go_enter Tryz.func59,Tryz.ntmps59
     go_wp2_with (first|((with_reducible refine gate_dst (N:=2) rfl ?_);refine box_event ?hg (N:=2) ?hd (cs:=#[.int .i64 a0_0,.int .i64 a0_1,.int .i64 a0_2,.int .i64 a0_3]) (t:=33) ?hr ?_;(case hd=>rfl);(case hg=>rfl);(case hr=>first|(go_simp;done)|(go_simp;rfl));intro gb107 hg w17 hbox hb;have n0_:=Aside0.mk (below_step zhb hb);have n1_:=Aside0.mk (hbox);have n2_:=Aside0.mk ((by rw [hg];exact (below_size zhb):w.heap.size≤gb107));have n3_:=Aside0.mk ((by rw [hg];exact (below_size zhb):w.heap.size≤gb107));clear HB;have HB:=n0_;have BK107:=n1_;have GW107:=n2_;have GE107:=n3_;clear n0_ n1_ n2_ n3_;clear hb hbox hg;have hcz18_0:w17.cell? ⟨gb107,0,none⟩=some (.int .i64 a0_0):=(blk_cell BK107.out 0).trans rfl;have hcz18_1:w17.cell? ⟨gb107,1,none⟩=some (.int .i64 a0_1):=(blk_cell BK107.out 1).trans rfl;have hcz18_2:w17.cell? ⟨gb107,2,none⟩=some (.int .i64 a0_2):=(blk_cell BK107.out 2).trans rfl;have hcz18_3:w17.cell? ⟨gb107,3,none⟩=some (.int .i64 a0_3):=(blk_cell BK107.out 3).trans rfl;have hfz18_0:=blk_frozen BK107.out 0;have hfz18_1:=blk_frozen BK107.out 1;have hfz18_2:=blk_frozen BK107.out 2;have hfz18_3:=blk_frozen BK107.out 3)|(go_at_call 67;(with_reducible refine (spec_l1Cell.calls a0_3 t109 _ A16.out).mono ?_);rintro e w' ⟨rfl,⟨nd,rfl⟩⟩))
     go_ret
     exact ⟨by first|rfl|(simp [errW_none,errW_some] <;> rfl)|(simp [*,errW_none,errW_some] <;> rfl),by repeat (first|(with_reducible first|exact HB.out|apply below_alloc|apply pw_below_drewN|apply below_drew1|refine below_set ?_ GE107.out)|exact HB.out)⟩
    ·rw [if_neg c15] at H
     have c15b0:(a0_2 == 0)=false:=beq_eq_false_iff_ne.mpr c15
     have c15b1:(a0_2 != 0)=true:=bne_iff_ne.mpr c15
     obtain rfl:=Option.some.inj H
     go_enter Tryz.func59,Tryz.ntmps59
     go_wp2_with (first|((with_reducible refine gate_dst (N:=2) rfl ?_);refine box_event ?hg (N:=2) ?hd (cs:=#[.int .i64 a0_0,.int .i64 a0_1,.int .i64 a0_2,.int .i64 a0_3]) (t:=33) ?hr ?_;(case hd=>rfl);(case hg=>rfl);(case hr=>first|(go_simp;done)|(go_simp;rfl));intro gb107 hg w19 hbox hb;have n0_:=Aside0.mk (below_step zhb hb);have n1_:=Aside0.mk (hbox);have n2_:=Aside0.mk ((by rw [hg];exact (below_size zhb):w.heap.size≤gb107));have n3_:=Aside0.mk ((by rw [hg];exact (below_size zhb):w.heap.size≤gb107));clear HB;have HB:=n0_;have BK107:=n1_;have GW107:=n2_;have GE107:=n3_;clear n0_ n1_ n2_ n3_;clear hb hbox hg;have hcz20_0:w19.cell? ⟨gb107,0,none⟩=some (.int .i64 a0_0):=(blk_cell BK107.out 0).trans rfl;have hcz20_1:w19.cell? ⟨gb107,1,none⟩=some (.int .i64 a0_1):=(blk_cell BK107.out 1).trans rfl;have hcz20_2:w19.cell? ⟨gb107,2,none⟩=some (.int .i64 a0_2):=(blk_cell BK107.out 2).trans rfl;have hcz20_3:w19.cell? ⟨gb107,3,none⟩=some (.int .i64 a0_3):=(blk_cell BK107.out 3).trans rfl;have hfz20_0:=blk_frozen BK107.out 0;have hfz20_1:=blk_frozen BK107.out 1;have hfz20_2:=blk_frozen BK107.out 2;have hfz20_3:=blk_frozen BK107.out 3))
     go_ret
     exact ⟨by first|rfl|(simp [errW_none,errW_some] <;> rfl)|(simp [*,errW_none,errW_some] <;> rfl),by repeat (first|(with_reducible first|exact HB.out|apply below_alloc|apply pw_below_drewN|apply below_drew1|refine below_set ?_ GE107.out)|exact HB.out)⟩
   ·rw [if_neg c14] at H
    have c14b0:(a0_1 == 0)=false:=beq_eq_false_iff_ne.mpr c14
    have c14b1:(a0_1 != 0)=true:=bne_iff_ne.mpr c14
    obtain rfl:=Option.some.inj H
    go_enter Tryz.func59,Tryz.ntmps59
    go_wp2_with (first|((with_reducible refine gate_dst (N:=2) rfl ?_);refine box_event ?hg (N:=2) ?hd (cs:=#[.int .i64 a0_0,.int .i64 a0_1,.int .i64 a0_2,.int .i64 a0_3]) (t:=33) ?hr ?_;(case hd=>rfl);(case hg=>rfl);(case hr=>first|(go_simp;done)|(go_simp;rfl));intro gb107 hg w21 hbox hb;have n0_:=Aside0.mk (below_step zhb hb);have n1_:=Aside0.mk (hbox);have n2_:=Aside0.mk ((by rw [hg];exact (below_size zhb):w.heap.size≤gb107));have n3_:=Aside0.mk ((by rw [hg];exact (below_size zhb):w.heap.size≤gb107));clear HB;have HB:=n0_;have BK107:=n1_;have GW107:=n2_;have GE107:=n3_;clear n0_ n1_ n2_ n3_;clear hb hbox hg;have hcz22_0:w21.cell? ⟨gb107,0,none⟩=some (.int .i64 a0_0):=(blk_cell BK107.out 0).trans rfl;have hcz22_1:w21.cell? ⟨gb107,1,none⟩=some (.int .i64 a0_1):=(blk_cell BK107.out 1).trans rfl;have hcz22_2:w21.cell? ⟨gb107,2,none⟩=some (.int .i64 a0_2):=(blk_cell BK107.out 2).trans rfl;have hcz22_3:w21.cell? ⟨gb107,3,none⟩=some (.int .i64 a0_3):=(blk_cell BK107.out 3).trans rfl;have hfz22_0:=blk_frozen BK107.out 0;have hfz22_1:=blk_frozen BK107.out 1;have hfz22_2:=blk_frozen BK107.out 2;have hfz22_3:=blk_frozen BK107.out 3))
    go_ret
    exact ⟨by first|rfl|(simp [errW_none,errW_some] <;> rfl)|(simp [*,errW_none,errW_some] <;> rfl),by repeat (first|(with_reducible first|exact HB.out|apply below_alloc|apply pw_below_drewN|apply below_drew1|refine below_set ?_ GE107.out)|exact HB.out)⟩
  ·rw [if_neg c13] at H
   have c13b0:(a0_0 == 2)=false:=beq_eq_false_iff_ne.mpr c13
   have c13b1:(a0_0 != 2)=true:=bne_iff_ne.mpr c13
   by_cases c23:a0_0=3
   ·rw [if_pos c23] at H
    have c23b0:(a0_0 == 3)=true:=beq_iff_eq.mpr c23
    have c23b1:(a0_0 != 3)=false:=bne_eq_false_iff_eq.mpr c23
    clear c23
    replace H:=Option.bind_eq_some_iff.mp H
    obtain ⟨t110,A240,H⟩:=H
    (try dsimp only at H)
    have A24:=Aside0.mk A240
    clear A240
    by_cases c25:t110=true
    ·subst c25
     have H1:((spec_l3Col.f a0_2 a1).bind fun t111=>(if t111=true then (some (a0_3 == 0)) else (some false)))=some r:=by rw [if_pos rfl] at H;exact H
     clear H
     have H:=H1
     clear H1
     replace H:=Option.bind_eq_some_iff.mp H
     obtain ⟨t111,A260,H⟩:=H
     (try dsimp only at H)
     have A26:=Aside0.mk A260
     clear A260
     by_cases c27:t111=true
     ·subst c27
      have H1:(some (a0_3 == 0))=some r:=by rw [if_pos rfl] at H;exact H
      clear H
      have H:=H1
      clear H1
      obtain rfl:=Option.some.inj H
      go_enter Tryz.func59,Tryz.ntmps59
      go_wp2_with (first|((with_reducible refine gate_dst (N:=2) rfl ?_);refine box_event ?hg (N:=2) ?hd (cs:=#[.int .i64 a0_0,.int .i64 a0_1,.int .i64 a0_2,.int .i64 a0_3]) (t:=33) ?hr ?_;(case hd=>rfl);(case hg=>rfl);(case hr=>first|(go_simp;done)|(go_simp;rfl));intro gb107 hg w28 hbox hb;have n0_:=Aside0.mk (below_step zhb hb);have n1_:=Aside0.mk (hbox);have n2_:=Aside0.mk ((by rw [hg];exact (below_size zhb):w.heap.size≤gb107));have n3_:=Aside0.mk ((by rw [hg];exact (below_size zhb):w.heap.size≤gb107));clear HB;have HB:=n0_;have BK107:=n1_;have GW107:=n2_;have GE107:=n3_;clear n0_ n1_ n2_ n3_;clear hb hbox hg;have hcz29_0:w28.cell? ⟨gb107,0,none⟩=some (.int .i64 a0_0):=(blk_cell BK107.out 0).trans rfl;have hcz29_1:w28.cell? ⟨gb107,1,none⟩=some (.int .i64 a0_1):=(blk_cell BK107.out 1).trans rfl;have hcz29_2:w28.cell? ⟨gb107,2,none⟩=some (.int .i64 a0_2):=(blk_cell BK107.out 2).trans rfl;have hcz29_3:w28.cell? ⟨gb107,3,none⟩=some (.int .i64 a0_3):=(blk_cell BK107.out 3).trans rfl;have hfz29_0:=blk_frozen BK107.out 0;have hfz29_1:=blk_frozen BK107.out 1;have hfz29_2:=blk_frozen BK107.out 2;have hfz29_3:=blk_frozen BK107.out 3)|((with_reducible refine gate_callee (f:=53) rfl ?_);refine goesL_ (some 43) rfl rfl Tryz.func53 (by kernel_rfl) rfl #[.int .i64 a0_1,.int .i64 a1] rfl zar ?_;(with_reducible refine (spec_l3Col.calls a0_1 a1 true _ A24.out).mono ?_);rintro e w' ⟨rfl,⟨nd,rfl⟩⟩;refine ⟨_,rfl,?_⟩)|(go_at_call 53;(with_reducible refine (spec_l3Col.calls a0_2 a1 true _ A26.out).mono ?_);rintro e w' ⟨rfl,⟨nd,rfl⟩⟩))
      go_ret
      exact ⟨by first|rfl|(simp [errW_none,errW_some] <;> rfl)|(simp [*,errW_none,errW_some] <;> rfl),by repeat (first|(with_reducible first|exact HB.out|apply below_alloc|apply pw_below_drewN|apply below_drew1|refine below_set ?_ GE107.out)|exact HB.out)⟩
     ·replace c27:=Bool.eq_false_iff.mpr c27
      subst c27
      have H1:(some false)=some r:=by rw [if_neg (show ¬ (false=true) by decide)] at H;exact H
      clear H
      have H:=H1
      clear H1
      obtain rfl:=Option.some.inj H
      go_enter Tryz.func59,Tryz.ntmps59
      go_wp2_with (first|((with_reducible refine gate_dst (N:=2) rfl ?_);refine box_event ?hg (N:=2) ?hd (cs:=#[.int .i64 a0_0,.int .i64 a0_1,.int .i64 a0_2,.int .i64 a0_3]) (t:=33) ?hr ?_;(case hd=>rfl);(case hg=>rfl);(case hr=>first|(go_simp;done)|(go_simp;rfl));intro gb107 hg w30 hbox hb;have n0_:=Aside0.mk (below_step zhb hb);have n1_:=Aside0.mk (hbox);have n2_:=Aside0.mk ((by rw [hg];exact (below_size zhb):w.heap.size≤gb107));have n3_:=Aside0.mk ((by rw [hg];exact (below_size zhb):w.heap.size≤gb107));clear HB;have HB:=n0_;have BK107:=n1_;have GW107:=n2_;have GE107:=n3_;clear n0_ n1_ n2_ n3_;clear hb hbox hg;have hcz31_0:w30.cell? ⟨gb107,0,none⟩=some (.int .i64 a0_0):=(blk_cell BK107.out 0).trans rfl;have hcz31_1:w30.cell? ⟨gb107,1,none⟩=some (.int .i64 a0_1):=(blk_cell BK107.out 1).trans rfl;have hcz31_2:w30.cell? ⟨gb107,2,none⟩=some (.int .i64 a0_2):=(blk_cell BK107.out 2).trans rfl;have hcz31_3:w30.cell? ⟨gb107,3,none⟩=some (.int .i64 a0_3):=(blk_cell BK107.out 3).trans rfl;have hfz31_0:=blk_frozen BK107.out 0;have hfz31_1:=blk_frozen BK107.out 1;have hfz31_2:=blk_frozen BK107.out 2;have hfz31_3:=blk_frozen BK107.out 3)|((with_reducible refine gate_callee (f:=53) rfl ?_);refine goesL_ (some 43) rfl rfl Tryz.func53 (by kernel_rfl) rfl #[.int .i64 a0_1,.int .i64 a1] rfl zar ?_;(with_reducible refine (spec_l3Col.calls a0_1 a1 true _ A24.out).mono ?_);rintro e w' ⟨rfl,⟨nd,rfl⟩⟩;refine ⟨_,rfl,?_⟩)|(go_at_call 53;(with_reducible refine (spec_l3Col.calls a0_2 a1 false _ A26.out).mono ?_);rintro e w' ⟨rfl,⟨nd,rfl⟩⟩))
      go_ret
      exact ⟨by first|rfl|(simp [errW_none,errW_some] <;> rfl)|(simp [*,errW_none,errW_some] <;> rfl),by repeat (first|(with_reducible first|exact HB.out|apply below_alloc|apply pw_below_drewN|apply below_drew1|refine below_set ?_ GE107.out)|exact HB.out)⟩
    ·replace c25:=Bool.eq_false_iff.mpr c25
     subst c25
     have H1:(some false)=some r:=by rw [if_neg (show ¬ (false=true) by decide)] at H;exact H
     clear H
     have H:=H1
     clear H1
     obtain rfl:=Option.some.inj H
     go_enter Tryz.func59,Tryz.ntmps59
     go_wp2_with (first|((with_reducible refine gate_dst (N:=2) rfl ?_);refine box_event ?hg (N:=2) ?hd (cs:=#[.int .i64 a0_0,.int .i64 a0_1,.int .i64 a0_2,.int .i64 a0_3]) (t:=33) ?hr ?_;(case hd=>rfl);(case hg=>rfl);(case hr=>first|(go_simp;done)|(go_simp;rfl));intro gb107 hg w32 hbox hb;have n0_:=Aside0.mk (below_step zhb hb);have n1_:=Aside0.mk (hbox);have n2_:=Aside0.mk ((by rw [hg];exact (below_size zhb):w.heap.size≤gb107));have n3_:=Aside0.mk ((by rw [hg];exact (below_size zhb):w.heap.size≤gb107));clear HB;have HB:=n0_;have BK107:=n1_;have GW107:=n2_;have GE107:=n3_;clear n0_ n1_ n2_ n3_;clear hb hbox hg;have hcz33_0:w32.cell? ⟨gb107,0,none⟩=some (.int .i64 a0_0):=(blk_cell BK107.out 0).trans rfl;have hcz33_1:w32.cell? ⟨gb107,1,none⟩=some (.int .i64 a0_1):=(blk_cell BK107.out 1).trans rfl;have hcz33_2:w32.cell? ⟨gb107,2,none⟩=some (.int .i64 a0_2):=(blk_cell BK107.out 2).trans rfl;have hcz33_3:w32.cell? ⟨gb107,3,none⟩=some (.int .i64 a0_3):=(blk_cell BK107.out 3).trans rfl;have hfz33_0:=blk_frozen BK107.out 0;have hfz33_1:=blk_frozen BK107.out 1;have hfz33_2:=blk_frozen BK107.out 2;have hfz33_3:=blk_frozen BK107.out 3)|((with_reducible refine gate_callee (f:=53) rfl ?_);refine goesL_ (some 43) rfl rfl Tryz.func53 (by kernel_rfl) rfl #[.int .i64 a0_1,.int .i64 a1] rfl zar ?_;(with_reducible refine (spec_l3Col.calls a0_1 a1 false _ A24.out).mono ?_);rintro e w' ⟨rfl,⟨nd,rfl⟩⟩;refine ⟨_,rfl,?_⟩))
     go_ret
     exact ⟨by first|rfl|(simp [errW_none,errW_some] <;> rfl)|(simp [*,errW_none,errW_some] <;> rfl),by repeat (first|(with_reducible first|exact HB.out|apply below_alloc|apply pw_below_drewN|apply below_drew1|refine below_set ?_ GE107.out)|exact HB.out)⟩
   ·rw [if_neg c23] at H
    have c23b0:(a0_0 == 3)=false:=beq_eq_false_iff_ne.mpr c23
    have c23b1:(a0_0 != 3)=true:=bne_iff_ne.mpr c23
    obtain rfl:=Option.some.inj H
    go_enter Tryz.func59,Tryz.ntmps59
    go_wp2_with (first|((with_reducible refine gate_dst (N:=2) rfl ?_);refine box_event ?hg (N:=2) ?hd (cs:=#[.int .i64 a0_0,.int .i64 a0_1,.int .i64 a0_2,.int .i64 a0_3]) (t:=33) ?hr ?_;(case hd=>rfl);(case hg=>rfl);(case hr=>first|(go_simp;done)|(go_simp;rfl));intro gb107 hg w34 hbox hb;have n0_:=Aside0.mk (below_step zhb hb);have n1_:=Aside0.mk (hbox);have n2_:=Aside0.mk ((by rw [hg];exact (below_size zhb):w.heap.size≤gb107));have n3_:=Aside0.mk ((by rw [hg];exact (below_size zhb):w.heap.size≤gb107));clear HB;have HB:=n0_;have BK107:=n1_;have GW107:=n2_;have GE107:=n3_;clear n0_ n1_ n2_ n3_;clear hb hbox hg;have hcz35_0:w34.cell? ⟨gb107,0,none⟩=some (.int .i64 a0_0):=(blk_cell BK107.out 0).trans rfl;have hcz35_1:w34.cell? ⟨gb107,1,none⟩=some (.int .i64 a0_1):=(blk_cell BK107.out 1).trans rfl;have hcz35_2:w34.cell? ⟨gb107,2,none⟩=some (.int .i64 a0_2):=(blk_cell BK107.out 2).trans rfl;have hcz35_3:w34.cell? ⟨gb107,3,none⟩=some (.int .i64 a0_3):=(blk_cell BK107.out 3).trans rfl;have hfz35_0:=blk_frozen BK107.out 0;have hfz35_1:=blk_frozen BK107.out 1;have hfz35_2:=blk_frozen BK107.out 2;have hfz35_3:=blk_frozen BK107.out 3))
    go_ret
    exact ⟨by first|rfl|(simp [errW_none,errW_some] <;> rfl)|(simp [*,errW_none,errW_some] <;> rfl),by repeat (first|(with_reducible first|exact HB.out|apply below_alloc|apply pw_below_drewN|apply below_drew1|refine below_set ?_ GE107.out)|exact HB.out)⟩

/-! ### spec_TestOk: function 51 -/
def spec_TestOk.f (a0_0:Int) (a0_1:Bool) (a0_2:Int) (a0_3:Int) (a0_4:Int) (a0_5:Int) (a0_6:Int) (a0_7:Int) (a0_8:Int) (a0_9:Int) (a1:Int):Option (Bool):=if a0_0=1 then ((spec_CellOk.f a0_2 a0_3 a0_4 a0_5 a1).bind fun t113=>(if t113=true then ((spec_CellOk.f a0_6 a0_7 a0_8 a0_9 a1).bind fun t114=>(some t114)) else (some false))) else (if a0_0=2 then ((spec_CellOk.f a0_2 a0_3 a0_4 a0_5 a1).bind fun t115=>(if t115=true then ((spec_CellOk.f a0_6 a0_7 a0_8 a0_9 a1).bind fun t116=>(some t116)) else (some false))) else (some false))
set_option maxHeartbeats 8000000 in
set_option maxRecDepth 100000 in
theorem spec_TestOk.calls (a0_0:Int) (a0_1:Bool) (a0_2:Int) (a0_3:Int) (a0_4:Int) (a0_5:Int) (a0_6:Int) (a0_7:Int) (a0_8:Int) (a0_9:Int) (a1:Int) (r:Bool) (w:World) (h:spec_TestOk.f a0_0 a0_1 a0_2 a0_3 a0_4 a0_5 a0_6 a0_7 a0_8 a0_9 a1=some r) :
  Calls Tryz.prog 51 #[.agg #[.int .i64 a0_0,.bool a0_1,.int .i64 a0_2,.int .i64 a0_3,.int .i64 a0_4,.int .i64 a0_5,.int .i64 a0_6,.int .i64 a0_7,.int .i64 a0_8,.int .i64 a0_9],.int .i64 a1] w fun e w'=>e=.returned (.bool r)∧Below w.heap.size w w':=by
 have hu35:=Tryz.underlying35
 have hu33:=Tryz.underlying33
 have HB:=Aside0.mk (Below.refl w.heap.size w)
 have H:(if a0_0=1 then ((spec_CellOk.f a0_2 a0_3 a0_4 a0_5 a1).bind fun t113=>(if t113=true then ((spec_CellOk.f a0_6 a0_7 a0_8 a0_9 a1).bind fun t114=>(some t114)) else (some false))) else (if a0_0=2 then ((spec_CellOk.f a0_2 a0_3 a0_4 a0_5 a1).bind fun t115=>(if t115=true then ((spec_CellOk.f a0_6 a0_7 a0_8 a0_9 a1).bind fun t116=>(some t116)) else (some false))) else (some false)))=some r:=h
 clear h
 by_cases c3:a0_0=1
 ·rw [if_pos c3] at H
  have c3b0:(a0_0 == 1)=true:=beq_iff_eq.mpr c3
  have c3b1:(a0_0 != 1)=false:=bne_eq_false_iff_eq.mpr c3
  clear c3
  replace H:=Option.bind_eq_some_iff.mp H
  obtain ⟨t113,A40,H⟩:=H
  (try dsimp only at H)
  have A4:=Aside0.mk A40
  clear A40
  by_cases c5:t113=true
  ·subst c5
   have H1:((spec_CellOk.f a0_6 a0_7 a0_8 a0_9 a1).bind fun t114=>(some t114))=some r:=by rw [if_pos rfl] at H;exact H
   clear H
   have H:=H1
   clear H1
   replace H:=Option.bind_eq_some_iff.mp H
   obtain ⟨t114,A60,H⟩:=H
   (try dsimp only at H)
   have A6:=Aside0.mk A60
   clear A60
   obtain rfl:=Option.some.inj H
   go_enter Tryz.func51,Tryz.ntmps51
   go_wp2_with (first|((with_reducible refine gate_dst (N:=2) rfl ?_);refine box_event ?hg (N:=2) ?hd (cs:=#[.int .i64 a0_0,.bool a0_1,.int .i64 a0_2,.int .i64 a0_3,.int .i64 a0_4,.int .i64 a0_5,.int .i64 a0_6,.int .i64 a0_7,.int .i64 a0_8,.int .i64 a0_9]) (t:=35) ?hr ?_;(case hd=>rfl);(case hg=>rfl);(case hr=>first|(go_simp;done)|(go_simp;rfl));intro gb112 hg w7 hbox hb;have n0_:=Aside0.mk (below_step zhb hb);have n1_:=Aside0.mk (hbox);have n2_:=Aside0.mk ((by rw [hg];exact (below_size zhb):w.heap.size≤gb112));have n3_:=Aside0.mk ((by rw [hg];exact (below_size zhb):w.heap.size≤gb112));clear HB;have HB:=n0_;have BK112:=n1_;have GW112:=n2_;have GE112:=n3_;clear n0_ n1_ n2_ n3_;clear hb hbox hg;have hcz8_0:w7.cell? ⟨gb112,0,none⟩=some (.int .i64 a0_0):=(blk_cell BK112.out 0).trans rfl;have hcz8_1:w7.cell? ⟨gb112,1,none⟩=some (.bool a0_1):=(blk_cell BK112.out 1).trans rfl;have hcz8_2:w7.cell? ⟨gb112,2,none⟩=some (.int .i64 a0_2):=(blk_cell BK112.out 2).trans rfl;have hcz8_3:w7.cell? ⟨gb112,3,none⟩=some (.int .i64 a0_3):=(blk_cell BK112.out 3).trans rfl;have hcz8_4:w7.cell? ⟨gb112,4,none⟩=some (.int .i64 a0_4):=(blk_cell BK112.out 4).trans rfl;have hcz8_5:w7.cell? ⟨gb112,5,none⟩=some (.int .i64 a0_5):=(blk_cell BK112.out 5).trans rfl;have hcz8_6:w7.cell? ⟨gb112,6,none⟩=some (.int .i64 a0_6):=(blk_cell BK112.out 6).trans rfl;have hcz8_7:w7.cell? ⟨gb112,7,none⟩=some (.int .i64 a0_7):=(blk_cell BK112.out 7).trans rfl;have hcz8_8:w7.cell? ⟨gb112,8,none⟩=some (.int .i64 a0_8):=(blk_cell BK112.out 8).trans rfl;have hcz8_9:w7.cell? ⟨gb112,9,none⟩=some (.int .i64 a0_9):=(blk_cell BK112.out 9).trans rfl;have hfz8_0:=blk_frozen BK112.out 0;have hfz8_1:=blk_frozen BK112.out 1;have hfz8_2:=blk_frozen BK112.out 2;have hfz8_3:=blk_frozen BK112.out 3;have hfz8_4:=blk_frozen BK112.out 4;have hfz8_5:=blk_frozen BK112.out 5;have hfz8_6:=blk_frozen BK112.out 6;have hfz8_7:=blk_frozen BK112.out 7;have hfz8_8:=blk_frozen BK112.out 8;have hfz8_9:=blk_frozen BK112.out 9)|(go_at_call 59;(with_reducible refine (spec_CellOk.calls a0_2 a0_3 a0_4 a0_5 a1 true _ A4.out).mono ?_);rintro e w9 ⟨rfl,hb⟩;have n0_:=Aside0.mk (blk_below (g:=gb112) (o:=.cells #[.int .i64 a0_0,.bool a0_1,.int .i64 a0_2,.int .i64 a0_3,.int .i64 a0_4,.int .i64 a0_5,.int .i64 a0_6,.int .i64 a0_7,.int .i64 a0_8,.int .i64 a0_9] 35 (0,0)) (by (with_reducible repeat (first|refine blk_drewN ?_ _|refine blk_drew ?_|refine blk_alloc ?_ _));exact BK112.out) hb);have n1_:=Aside0.mk (below_step (by repeat (first|(with_reducible first|exact HB.out|apply below_alloc|apply pw_below_drewN|apply below_drew1|refine below_set ?_ GE112.out)|exact HB.out)) hb);clear BK112;clear HB;have BK112:=n0_;have HB:=n1_;clear n0_ n1_;(try clear hb);(try clear hb2);(try clear hk);(try clear hi);have hcz10_0:w9.cell? ⟨gb112,0,none⟩=some (.int .i64 a0_0):=(blk_cell BK112.out 0).trans rfl;have hcz10_1:w9.cell? ⟨gb112,1,none⟩=some (.bool a0_1):=(blk_cell BK112.out 1).trans rfl;have hcz10_2:w9.cell? ⟨gb112,2,none⟩=some (.int .i64 a0_2):=(blk_cell BK112.out 2).trans rfl;have hcz10_3:w9.cell? ⟨gb112,3,none⟩=some (.int .i64 a0_3):=(blk_cell BK112.out 3).trans rfl;have hcz10_4:w9.cell? ⟨gb112,4,none⟩=some (.int .i64 a0_4):=(blk_cell BK112.out 4).trans rfl;have hcz10_5:w9.cell? ⟨gb112,5,none⟩=some (.int .i64 a0_5):=(blk_cell BK112.out 5).trans rfl;have hcz10_6:w9.cell? ⟨gb112,6,none⟩=some (.int .i64 a0_6):=(blk_cell BK112.out 6).trans rfl;have hcz10_7:w9.cell? ⟨gb112,7,none⟩=some (.int .i64 a0_7):=(blk_cell BK112.out 7).trans rfl;have hcz10_8:w9.cell? ⟨gb112,8,none⟩=some (.int .i64 a0_8):=(blk_cell BK112.out 8).trans rfl;have hcz10_9:w9.cell? ⟨gb112,9,none⟩=some (.int .i64 a0_9):=(blk_cell BK112.out 9).trans rfl;have hfz10_0:=blk_frozen BK112.out 0;have hfz10_1:=blk_frozen BK112.out 1;have hfz10_2:=blk_frozen BK112.out 2;have hfz10_3:=blk_frozen BK112.out 3;have hfz10_4:=blk_frozen BK112.out 4;have hfz10_5:=blk_frozen BK112.out 5;have hfz10_6:=blk_frozen BK112.out 6;have hfz10_7:=blk_frozen BK112.out 7;have hfz10_8:=blk_frozen BK112.out 8;have hfz10_9:=blk_frozen BK112.out 9)|(go_at_call 59;(with_reducible refine (spec_CellOk.calls a0_6 a0_7 a0_8 a0_9 a1 t114 _ A6.out).mono ?_);rintro e w11 ⟨rfl,hb⟩;have n0_:=Aside0.mk (blk_below (g:=gb112) (o:=.cells #[.int .i64 a0_0,.bool a0_1,.int .i64 a0_2,.int .i64 a0_3,.int .i64 a0_4,.int .i64 a0_5,.int .i64 a0_6,.int .i64 a0_7,.int .i64 a0_8,.int .i64 a0_9] 35 (0,0)) (by (with_reducible repeat (first|refine blk_drewN ?_ _|refine blk_drew ?_|refine blk_alloc ?_ _));exact BK112.out) hb);have n1_:=Aside0.mk (below_step (by repeat (first|(with_reducible first|exact HB.out|apply below_alloc|apply pw_below_drewN|apply below_drew1|refine below_set ?_ GE112.out)|exact HB.out)) hb);clear BK112;clear HB;have BK112:=n0_;have HB:=n1_;clear n0_ n1_;(try clear hb);(try clear hb2);(try clear hk);(try clear hi)))
   go_ret
   exact ⟨by first|rfl|(simp [errW_none,errW_some] <;> rfl)|(simp [*,errW_none,errW_some] <;> rfl),by repeat (first|(with_reducible first|exact HB.out|apply below_alloc|apply pw_below_drewN|apply below_drew1|refine below_set ?_ GE112.out)|exact HB.out)⟩
  ·replace c5:=Bool.eq_false_iff.mpr c5
   subst c5
   have H1:(some false)=some r:=by rw [if_neg (show ¬ (false=true) by decide)] at H;exact H
   clear H
   have H:=H1
   clear H1
   obtain rfl:=Option.some.inj H
   go_enter Tryz.func51,Tryz.ntmps51
   go_wp2_with (first|((with_reducible refine gate_dst (N:=2) rfl ?_);refine box_event ?hg (N:=2) ?hd (cs:=#[.int .i64 a0_0,.bool a0_1,.int .i64 a0_2,.int .i64 a0_3,.int .i64 a0_4,.int .i64 a0_5,.int .i64 a0_6,.int .i64 a0_7,.int .i64 a0_8,.int .i64 a0_9]) (t:=35) ?hr ?_;(case hd=>rfl);(case hg=>rfl);(case hr=>first|(go_simp;done)|(go_simp;rfl));intro gb112 hg w12 hbox hb;have n0_:=Aside0.mk (below_step zhb hb);have n1_:=Aside0.mk (hbox);have n2_:=Aside0.mk ((by rw [hg];exact (below_size zhb):w.heap.size≤gb112));have n3_:=Aside0.mk ((by rw [hg];exact (below_size zhb):w.heap.size≤gb112));clear HB;have HB:=n0_;have BK112:=n1_;have GW112:=n2_;have GE112:=n3_;clear n0_ n1_ n2_ n3_;clear hb hbox hg;have hcz13_0:w12.cell? ⟨gb112,0,none⟩=some (.int .i64 a0_0):=(blk_cell BK112.out 0).trans rfl;have hcz13_1:w12.cell? ⟨gb112,1,none⟩=some (.bool a0_1):=(blk_cell BK112.out 1).trans rfl;have hcz13_2:w12.cell? ⟨gb112,2,none⟩=some (.int .i64 a0_2):=(blk_cell BK112.out 2).trans rfl;have hcz13_3:w12.cell? ⟨gb112,3,none⟩=some (.int .i64 a0_3):=(blk_cell BK112.out 3).trans rfl;have hcz13_4:w12.cell? ⟨gb112,4,none⟩=some (.int .i64 a0_4):=(blk_cell BK112.out 4).trans rfl;have hcz13_5:w12.cell? ⟨gb112,5,none⟩=some (.int .i64 a0_5):=(blk_cell BK112.out 5).trans rfl;have hcz13_6:w12.cell? ⟨gb112,6,none⟩=some (.int .i64 a0_6):=(blk_cell BK112.out 6).trans rfl;have hcz13_7:w12.cell? ⟨gb112,7,none⟩=some (.int .i64 a0_7):=(blk_cell BK112.out 7).trans rfl;have hcz13_8:w12.cell? ⟨gb112,8,none⟩=some (.int .i64 a0_8):=(blk_cell BK112.out 8).trans rfl;have hcz13_9:w12.cell? ⟨gb112,9,none⟩=some (.int .i64 a0_9):=(blk_cell BK112.out 9).trans rfl;have hfz13_0:=blk_frozen BK112.out 0;have hfz13_1:=blk_frozen BK112.out 1;have hfz13_2:=blk_frozen BK112.out 2;have hfz13_3:=blk_frozen BK112.out 3;have hfz13_4:=blk_frozen BK112.out 4;have hfz13_5:=blk_frozen BK112.out 5;have hfz13_6:=blk_frozen BK112.out 6;have hfz13_7:=blk_frozen BK112.out 7;have hfz13_8:=blk_frozen BK112.out 8;have hfz13_9:=blk_frozen BK112.out 9)|(go_at_call 59;(with_reducible refine (spec_CellOk.calls a0_2 a0_3 a0_4 a0_5 a1 false _ A4.out).mono ?_);rintro e w14 ⟨rfl,hb⟩;have n0_:=Aside0.mk (blk_below (g:=gb112) (o:=.cells #[.int .i64 a0_0,.bool a0_1,.int .i64 a0_2,.int .i64 a0_3,.int .i64 a0_4,.int .i64 a0_5,.int .i64 a0_6,.int .i64 a0_7,.int .i64 a0_8,.int .i64 a0_9] 35 (0,0)) (by (with_reducible repeat (first|refine blk_drewN ?_ _|refine blk_drew ?_|refine blk_alloc ?_ _));exact BK112.out) hb);have n1_:=Aside0.mk (below_step (by repeat (first|(with_reducible first|exact HB.out|apply below_alloc|apply pw_below_drewN|apply below_drew1|refine below_set ?_ GE112.out)|exact HB.out)) hb);clear BK112;clear HB;have BK112:=n0_;have HB:=n1_;clear n0_ n1_;(try clear hb);(try clear hb2);(try clear hk);(try clear hi)))
   go_ret
   exact ⟨by first|rfl|(simp [errW_none,errW_some] <;> rfl)|(simp [*,errW_none,errW_some] <;> rfl),by repeat (first|(with_reducible first|exact HB.out|apply below_alloc|apply pw_below_drewN|apply below_drew1|refine below_set ?_ GE112.out)|exact HB.out)⟩
 ·rw [if_neg c3] at H
  have c3b0:(a0_0 == 1)=false:=beq_eq_false_iff_ne.mpr c3
  have c3b1:(a0_0 != 1)=true:=bne_iff_ne.mpr c3
  by_cases c15:a0_0=2
  ·rw [if_pos c15] at H
   have c15b0:(a0_0 == 2)=true:=beq_iff_eq.mpr c15
   have c15b1:(a0_0 != 2)=false:=bne_eq_false_iff_eq.mpr c15
   clear c15
   replace H:=Option.bind_eq_some_iff.mp H
   obtain ⟨t115,A160,H⟩:=H
   (try dsimp only at H)
   have A16:=Aside0.mk A160
   clear A160
   by_cases c17:t115=true
   ·subst c17
    have H1:((spec_CellOk.f a0_6 a0_7 a0_8 a0_9 a1).bind fun t116=>(some t116))=some r:=by rw [if_pos rfl] at H;exact H
    clear H
    have H:=H1
    clear H1
    replace H:=Option.bind_eq_some_iff.mp H
    obtain ⟨t116,A180,H⟩:=H
    (try dsimp only at H)
    have A18:=Aside0.mk A180
    clear A180
    obtain rfl:=Option.some.inj H
    go_enter Tryz.func51,Tryz.ntmps51
    go_wp2_with (first|((with_reducible refine gate_dst (N:=2) rfl ?_);refine box_event ?hg (N:=2) ?hd (cs:=#[.int .i64 a0_0,.bool a0_1,.int .i64 a0_2,.int .i64 a0_3,.int .i64 a0_4,.int .i64 a0_5,.int .i64 a0_6,.int .i64 a0_7,.int .i64 a0_8,.int .i64 a0_9]) (t:=35) ?hr ?_;(case hd=>rfl);(case hg=>rfl);(case hr=>first|(go_simp;done)|(go_simp;rfl));intro gb112 hg w19 hbox hb;have n0_:=Aside0.mk (below_step zhb hb);have n1_:=Aside0.mk (hbox);have n2_:=Aside0.mk ((by rw [hg];exact (below_size zhb):w.heap.size≤gb112));have n3_:=Aside0.mk ((by rw [hg];exact (below_size zhb):w.heap.size≤gb112));clear HB;have HB:=n0_;have BK112:=n1_;have GW112:=n2_;have GE112:=n3_;clear n0_ n1_ n2_ n3_;clear hb hbox hg;have hcz20_0:w19.cell? ⟨gb112,0,none⟩=some (.int .i64 a0_0):=(blk_cell BK112.out 0).trans rfl;have hcz20_1:w19.cell? ⟨gb112,1,none⟩=some (.bool a0_1):=(blk_cell BK112.out 1).trans rfl;have hcz20_2:w19.cell? ⟨gb112,2,none⟩=some (.int .i64 a0_2):=(blk_cell BK112.out 2).trans rfl;have hcz20_3:w19.cell? ⟨gb112,3,none⟩=some (.int .i64 a0_3):=(blk_cell BK112.out 3).trans rfl;have hcz20_4:w19.cell? ⟨gb112,4,none⟩=some (.int .i64 a0_4):=(blk_cell BK112.out 4).trans rfl;have hcz20_5:w19.cell? ⟨gb112,5,none⟩=some (.int .i64 a0_5):=(blk_cell BK112.out 5).trans rfl;have hcz20_6:w19.cell? ⟨gb112,6,none⟩=some (.int .i64 a0_6):=(blk_cell BK112.out 6).trans rfl;have hcz20_7:w19.cell? ⟨gb112,7,none⟩=some (.int .i64 a0_7):=(blk_cell BK112.out 7).trans rfl;have hcz20_8:w19.cell? ⟨gb112,8,none⟩=some (.int .i64 a0_8):=(blk_cell BK112.out 8).trans rfl;have hcz20_9:w19.cell? ⟨gb112,9,none⟩=some (.int .i64 a0_9):=(blk_cell BK112.out 9).trans rfl;have hfz20_0:=blk_frozen BK112.out 0;have hfz20_1:=blk_frozen BK112.out 1;have hfz20_2:=blk_frozen BK112.out 2;have hfz20_3:=blk_frozen BK112.out 3;have hfz20_4:=blk_frozen BK112.out 4;have hfz20_5:=blk_frozen BK112.out 5;have hfz20_6:=blk_frozen BK112.out 6;have hfz20_7:=blk_frozen BK112.out 7;have hfz20_8:=blk_frozen BK112.out 8;have hfz20_9:=blk_frozen BK112.out 9)|(go_at_call 59;(with_reducible refine (spec_CellOk.calls a0_2 a0_3 a0_4 a0_5 a1 true _ A16.out).mono ?_);rintro e w21 ⟨rfl,hb⟩;have n0_:=Aside0.mk (blk_below (g:=gb112) (o:=.cells #[.int .i64 a0_0,.bool a0_1,.int .i64 a0_2,.int .i64 a0_3,.int .i64 a0_4,.int .i64 a0_5,.int .i64 a0_6,.int .i64 a0_7,.int .i64 a0_8,.int .i64 a0_9] 35 (0,0)) (by (with_reducible repeat (first|refine blk_drewN ?_ _|refine blk_drew ?_|refine blk_alloc ?_ _));exact BK112.out) hb);have n1_:=Aside0.mk (below_step (by repeat (first|(with_reducible first|exact HB.out|apply below_alloc|apply pw_below_drewN|apply below_drew1|refine below_set ?_ GE112.out)|exact HB.out)) hb);clear BK112;clear HB;have BK112:=n0_;have HB:=n1_;clear n0_ n1_;(try clear hb);(try clear hb2);(try clear hk);(try clear hi);have hcz22_0:w21.cell? ⟨gb112,0,none⟩=some (.int .i64 a0_0):=(blk_cell BK112.out 0).trans rfl;have hcz22_1:w21.cell? ⟨gb112,1,none⟩=some (.bool a0_1):=(blk_cell BK112.out 1).trans rfl;have hcz22_2:w21.cell? ⟨gb112,2,none⟩=some (.int .i64 a0_2):=(blk_cell BK112.out 2).trans rfl;have hcz22_3:w21.cell? ⟨gb112,3,none⟩=some (.int .i64 a0_3):=(blk_cell BK112.out 3).trans rfl;have hcz22_4:w21.cell? ⟨gb112,4,none⟩=some (.int .i64 a0_4):=(blk_cell BK112.out 4).trans rfl;have hcz22_5:w21.cell? ⟨gb112,5,none⟩=some (.int .i64 a0_5):=(blk_cell BK112.out 5).trans rfl;have hcz22_6:w21.cell? ⟨gb112,6,none⟩=some (.int .i64 a0_6):=(blk_cell BK112.out 6).trans rfl;have hcz22_7:w21.cell? ⟨gb112,7,none⟩=some (.int .i64 a0_7):=(blk_cell BK112.out 7).trans rfl;have hcz22_8:w21.cell? ⟨gb112,8,none⟩=some (.int .i64 a0_8):=(blk_cell BK112.out 8).trans rfl;have hcz22_9:w21.cell? ⟨gb112,9,none⟩=some (.int .i64 a0_9):=(blk_cell BK112.out 9).trans rfl;have hfz22_0:=blk_frozen BK112.out 0;have hfz22_1:=blk_frozen BK112.out 1;have hfz22_2:=blk_frozen BK112.out 2;have hfz22_3:=blk_frozen BK112.out 3;have hfz22_4:=blk_frozen BK112.out 4;have hfz22_5:=blk_frozen BK112.out 5;have hfz22_6:=blk_frozen BK112.out 6;have hfz22_7:=blk_frozen BK112.out 7;have hfz22_8:=blk_frozen BK112.out 8;have hfz22_9:=blk_frozen BK112.out 9)|(go_at_call 59;(with_reducible refine (spec_CellOk.calls a0_6 a0_7 a0_8 a0_9 a1 t116 _ A18.out).mono ?_);rintro e w23 ⟨rfl,hb⟩;have n0_:=Aside0.mk (blk_below (g:=gb112) (o:=.cells #[.int .i64 a0_0,.bool a0_1,.int .i64 a0_2,.int .i64 a0_3,.int .i64 a0_4,.int .i64 a0_5,.int .i64 a0_6,.int .i64 a0_7,.int .i64 a0_8,.int .i64 a0_9] 35 (0,0)) (by (with_reducible repeat (first|refine blk_drewN ?_ _|refine blk_drew ?_|refine blk_alloc ?_ _));exact BK112.out) hb);have n1_:=Aside0.mk (below_step (by repeat (first|(with_reducible first|exact HB.out|apply below_alloc|apply pw_below_drewN|apply below_drew1|refine below_set ?_ GE112.out)|exact HB.out)) hb);clear BK112;clear HB;have BK112:=n0_;have HB:=n1_;clear n0_ n1_;(try clear hb);(try clear hb2);(try clear hk);(try clear hi)))
    go_ret
    exact ⟨by first|rfl|(simp [errW_none,errW_some] <;> rfl)|(simp [*,errW_none,errW_some] <;> rfl),by repeat (first|(with_reducible first|exact HB.out|apply below_alloc|apply pw_below_drewN|apply below_drew1|refine below_set ?_ GE112.out)|exact HB.out)⟩
   ·replace c17:=Bool.eq_false_iff.mpr c17
    subst c17
    have H1:(some false)=some r:=by rw [if_neg (show ¬ (false=true) by decide)] at H;exact H
    clear H
    have H:=H1
    clear H1
    obtain rfl:=Option.some.inj H
    go_enter Tryz.func51,Tryz.ntmps51
    go_wp2_with (first|((with_reducible refine gate_dst (N:=2) rfl ?_);refine box_event ?hg (N:=2) ?hd (cs:=#[.int .i64 a0_0,.bool a0_1,.int .i64 a0_2,.int .i64 a0_3,.int .i64 a0_4,.int .i64 a0_5,.int .i64 a0_6,.int .i64 a0_7,.int .i64 a0_8,.int .i64 a0_9]) (t:=35) ?hr ?_;(case hd=>rfl);(case hg=>rfl);(case hr=>first|(go_simp;done)|(go_simp;rfl));intro gb112 hg w24 hbox hb;have n0_:=Aside0.mk (below_step zhb hb);have n1_:=Aside0.mk (hbox);have n2_:=Aside0.mk ((by rw [hg];exact (below_size zhb):w.heap.size≤gb112));have n3_:=Aside0.mk ((by rw [hg];exact (below_size zhb):w.heap.size≤gb112));clear HB;have HB:=n0_;have BK112:=n1_;have GW112:=n2_;have GE112:=n3_;clear n0_ n1_ n2_ n3_;clear hb hbox hg;have hcz25_0:w24.cell? ⟨gb112,0,none⟩=some (.int .i64 a0_0):=(blk_cell BK112.out 0).trans rfl;have hcz25_1:w24.cell? ⟨gb112,1,none⟩=some (.bool a0_1):=(blk_cell BK112.out 1).trans rfl;have hcz25_2:w24.cell? ⟨gb112,2,none⟩=some (.int .i64 a0_2):=(blk_cell BK112.out 2).trans rfl;have hcz25_3:w24.cell? ⟨gb112,3,none⟩=some (.int .i64 a0_3):=(blk_cell BK112.out 3).trans rfl;have hcz25_4:w24.cell? ⟨gb112,4,none⟩=some (.int .i64 a0_4):=(blk_cell BK112.out 4).trans rfl;have hcz25_5:w24.cell? ⟨gb112,5,none⟩=some (.int .i64 a0_5):=(blk_cell BK112.out 5).trans rfl;have hcz25_6:w24.cell? ⟨gb112,6,none⟩=some (.int .i64 a0_6):=(blk_cell BK112.out 6).trans rfl;have hcz25_7:w24.cell? ⟨gb112,7,none⟩=some (.int .i64 a0_7):=(blk_cell BK112.out 7).trans rfl;have hcz25_8:w24.cell? ⟨gb112,8,none⟩=some (.int .i64 a0_8):=(blk_cell BK112.out 8).trans rfl;have hcz25_9:w24.cell? ⟨gb112,9,none⟩=some (.int .i64 a0_9):=(blk_cell BK112.out 9).trans rfl;have hfz25_0:=blk_frozen BK112.out 0;have hfz25_1:=blk_frozen BK112.out 1;have hfz25_2:=blk_frozen BK112.out 2;have hfz25_3:=blk_frozen BK112.out 3;have hfz25_4:=blk_frozen BK112.out 4;have hfz25_5:=blk_frozen BK112.out 5;have hfz25_6:=blk_frozen BK112.out 6;have hfz25_7:=blk_frozen BK112.out 7;have hfz25_8:=blk_frozen BK112.out 8;have hfz25_9:=blk_frozen BK112.out 9)|(go_at_call 59;(with_reducible refine (spec_CellOk.calls a0_2 a0_3 a0_4 a0_5 a1 false _ A16.out).mono ?_);rintro e w26 ⟨rfl,hb⟩;have n0_:=Aside0.mk (blk_below (g:=gb112) (o:=.cells #[.int .i64 a0_0,.bool a0_1,.int .i64 a0_2,.int .i64 a0_3,.int .i64 a0_4,.int .i64 a0_5,.int .i64 a0_6,.int .i64 a0_7,.int .i64 a0_8,.int .i64 a0_9] 35 (0,0)) (by (with_reducible repeat (first|refine blk_drewN ?_ _|refine blk_drew ?_|refine blk_alloc ?_ _));exact BK112.out) hb);have n1_:=Aside0.mk (below_step (by repeat (first|(with_reducible first|exact HB.out|apply below_alloc|apply pw_below_drewN|apply below_drew1|refine below_set ?_ GE112.out)|exact HB.out)) hb);clear BK112;clear HB;have BK112:=n0_;have HB:=n1_;clear n0_ n1_;(try clear hb);(try clear hb2);(try clear hk);(try clear hi)))
    go_ret
    exact ⟨by first|rfl|(simp [errW_none,errW_some] <;> rfl)|(simp [*,errW_none,errW_some] <;> rfl),by repeat (first|(with_reducible first|exact HB.out|apply below_alloc|apply pw_below_drewN|apply below_drew1|refine below_set ?_ GE112.out)|exact HB.out)⟩
  ·rw [if_neg c15] at H
   have c15b0:(a0_0 == 2)=false:=beq_eq_false_iff_ne.mpr c15
   have c15b1:(a0_0 != 2)=true:=bne_iff_ne.mpr c15
   obtain rfl:=Option.some.inj H
   go_enter Tryz.func51,Tryz.ntmps51
   go_wp2_with (first|((with_reducible refine gate_dst (N:=2) rfl ?_);refine box_event ?hg (N:=2) ?hd (cs:=#[.int .i64 a0_0,.bool a0_1,.int .i64 a0_2,.int .i64 a0_3,.int .i64 a0_4,.int .i64 a0_5,.int .i64 a0_6,.int .i64 a0_7,.int .i64 a0_8,.int .i64 a0_9]) (t:=35) ?hr ?_;(case hd=>rfl);(case hg=>rfl);(case hr=>first|(go_simp;done)|(go_simp;rfl));intro gb112 hg w27 hbox hb;have n0_:=Aside0.mk (below_step zhb hb);have n1_:=Aside0.mk (hbox);have n2_:=Aside0.mk ((by rw [hg];exact (below_size zhb):w.heap.size≤gb112));have n3_:=Aside0.mk ((by rw [hg];exact (below_size zhb):w.heap.size≤gb112));clear HB;have HB:=n0_;have BK112:=n1_;have GW112:=n2_;have GE112:=n3_;clear n0_ n1_ n2_ n3_;clear hb hbox hg;have hcz28_0:w27.cell? ⟨gb112,0,none⟩=some (.int .i64 a0_0):=(blk_cell BK112.out 0).trans rfl;have hcz28_1:w27.cell? ⟨gb112,1,none⟩=some (.bool a0_1):=(blk_cell BK112.out 1).trans rfl;have hcz28_2:w27.cell? ⟨gb112,2,none⟩=some (.int .i64 a0_2):=(blk_cell BK112.out 2).trans rfl;have hcz28_3:w27.cell? ⟨gb112,3,none⟩=some (.int .i64 a0_3):=(blk_cell BK112.out 3).trans rfl;have hcz28_4:w27.cell? ⟨gb112,4,none⟩=some (.int .i64 a0_4):=(blk_cell BK112.out 4).trans rfl;have hcz28_5:w27.cell? ⟨gb112,5,none⟩=some (.int .i64 a0_5):=(blk_cell BK112.out 5).trans rfl;have hcz28_6:w27.cell? ⟨gb112,6,none⟩=some (.int .i64 a0_6):=(blk_cell BK112.out 6).trans rfl;have hcz28_7:w27.cell? ⟨gb112,7,none⟩=some (.int .i64 a0_7):=(blk_cell BK112.out 7).trans rfl;have hcz28_8:w27.cell? ⟨gb112,8,none⟩=some (.int .i64 a0_8):=(blk_cell BK112.out 8).trans rfl;have hcz28_9:w27.cell? ⟨gb112,9,none⟩=some (.int .i64 a0_9):=(blk_cell BK112.out 9).trans rfl;have hfz28_0:=blk_frozen BK112.out 0;have hfz28_1:=blk_frozen BK112.out 1;have hfz28_2:=blk_frozen BK112.out 2;have hfz28_3:=blk_frozen BK112.out 3;have hfz28_4:=blk_frozen BK112.out 4;have hfz28_5:=blk_frozen BK112.out 5;have hfz28_6:=blk_frozen BK112.out 6;have hfz28_7:=blk_frozen BK112.out 7;have hfz28_8:=blk_frozen BK112.out 8;have hfz28_9:=blk_frozen BK112.out 9))
   go_ret
   exact ⟨by first|rfl|(simp [errW_none,errW_some] <;> rfl)|(simp [*,errW_none,errW_some] <;> rfl),by repeat (first|(with_reducible first|exact HB.out|apply below_alloc|apply pw_below_drewN|apply below_drew1|refine below_set ?_ GE112.out)|exact HB.out)⟩

/-! ### spec_l4Cells: function 52 -/
def spec_l4Cells.l0:Nat→List (S33)→Int→Int→Option (Bool)
 | 0,_,_,_=>none
 | k + 1,x0,x1,x5=>if x5 < (x0.length:Int) then (if 0≤x5 then ((spec_CellOk.f ((rd_T33 x0 x5).f0) ((rd_T33 x0 x5).f1) ((rd_T33 x0 x5).f2) ((rd_T33 x0 x5).f3) x1).bind fun t118=>(if t118=true then (spec_l4Cells.l0 k x0 x1 (wrap64 (x5 + 1))) else (some false))) else (none)) else (if (x0.length:Int) ≥ 1 then (some (decide ((x0.length:Int)≤6))) else (some false))
def spec_l4Cells.f (k:Nat) (l0:List (S33)) (a1:Int):Option (Bool):=spec_l4Cells.l0 k l0 a1 0
theorem spec_l4Cells.mono_l : ∀ k,(∀ y0 y1 y2,LeO (spec_l4Cells.l0 k y0 y1 y2) (spec_l4Cells.l0 (k + 1) y0 y1 y2))
 | 0=>fun _ _ _ r h=>by simp [spec_l4Cells.l0] at h
 | k + 1=>by
  have ih0:=spec_l4Cells.mono_l k
  ·intro y0 y1 y2
   unfold spec_l4Cells.l0
   repeat' first
   | (with_reducible exact ih0 _ _ _)
   | (with_reducible exact LeO.refl _)
   | (with_reducible exact LeO.none _)
   | (with_reducible refine LeO.ite ?_ ?_)
   | (with_reducible refine LeO.bind ?_ (fun _=>?_))
   | exact LeO.none _
   | refine LeO.ite ?_ ?_
   | refine LeO.bind ?_ (fun _=>?_)
theorem spec_l4Cells.mono : ∀ a0 a1 k,LeO (spec_l4Cells.f k a0 a1) (spec_l4Cells.f (k + 1) a0 a1):=by
 intro a0 a1 k
 have ih0:=spec_l4Cells.mono_l k
 unfold spec_l4Cells.f
 repeat' first
   | (with_reducible exact ih0 _ _ _)
   | (with_reducible exact LeO.refl _)
   | (with_reducible exact LeO.none _)
   | (with_reducible refine LeO.ite ?_ ?_)
   | (with_reducible refine LeO.bind ?_ (fun _=>?_))
   | exact LeO.none _
   | refine LeO.ite ?_ ?_
   | refine LeO.bind ?_ (fun _=>?_)
set_option maxHeartbeats 8000000 in
set_option maxRecDepth 100000 in
theorem spec_l4Cells.calls (k:Nat) (A0:Option Addr) (c0:Nat) (l0:List (S33)) (a1:Int) (r:Bool) (w:World) (hr0:Kd.C k33 w A0 l0.length l0) (hc0:l0.length≤c0) (h:spec_l4Cells.f k l0 a1=some r) :
  Calls Tryz.prog 52 #[.slice A0 l0.length c0,.int .i64 a1] w fun e w'=>e=.returned (.bool r)∧Below w.heap.size w w':=by
 have hu33:=Tryz.underlying33
 have HR0:=Aside0.mk hr0
 have HC0:=Aside0.mk hc0
 clear hr0 hc0
 have HB:=Aside0.mk (Below.refl w.heap.size w)
 have H:(spec_l4Cells.l0 k l0 a1 0)=some r:=h
 clear h
 have H':=Aside0.mk H
 clear H
 go_enter Tryz.func52,Tryz.ntmps52
 go_wp2
 go_loopg [5] k (fun kq v5 w'=>∃ (x5_1:Int),v5=.int .i64 x5_1∧Aside0 (spec_l4Cells.l0 kq l0 a1 x5_1=some r)∧Aside0 (kq≤k)∧Aside0 (Below w.heap.size w w'))
 case atStart=>exact ⟨(0),(by first|rfl|(simp;done)|(simp [*];done)),H',⟨Nat.le_refl _⟩,⟨zhb⟩⟩
 case round =>
  clear H'
  try clear p2
  obtain ⟨x5_1,rfl,HA,HK1,HB⟩:=hrel
  cases gk with
  | zero=>exact absurd HA.out (by simp [spec_l4Cells.l0])
  | succ k1 =>
   have H:=HA.out
   clear HA
   simp only [spec_l4Cells.l0] at H
   by_cases c3:x5_1 < (l0.length:Int)
   ·rw [if_pos c3] at H
    have c3b0:decide (x5_1 < (l0.length:Int))=true:=decide_eq_true c3
    clear c3
    by_cases c4:0≤x5_1
    ·rw [if_pos c4] at H
     have c4b0:decide (0≤x5_1)=true:=decide_eq_true c4
     clear c4
     replace H:=Option.bind_eq_some_iff.mp H
     obtain ⟨t118,A50,H⟩:=H
     (try dsimp only at H)
     have A5:=Aside0.mk A50
     clear A50
     by_cases c6:t118=true
     ·subst c6
      have H1:(spec_l4Cells.l0 k1 l0 a1 (wrap64 (x5_1 + 1)))=some r:=by rw [if_pos rfl] at H;exact H
      clear H
      have H:=H1
      clear H1
      have H':=Aside0.mk H
      clear H
      have p117:0≤(x5_1:Int):=zod
      have q117:x5_1 < (l0.length:Int):=zod
      obtain ⟨ad117,e117,hx117_0,hx117_1,hx117_2,hx117_3⟩:=at_T33 HR0.out x5_1 p117 q117
      cases e117
      replace hx117_0:=(HB.out.cell (World.block_lt_of_cell? w _ hx117_0)).trans hx117_0
      replace hx117_1:=(HB.out.cell (World.block_lt_of_cell? w _ hx117_1)).trans hx117_1
      replace hx117_2:=(HB.out.cell (World.block_lt_of_cell? w _ hx117_2)).trans hx117_2
      replace hx117_3:=(HB.out.cell (World.block_lt_of_cell? w _ hx117_3)).trans hx117_3
      replace p117:=eq_true p117
      replace q117:=eq_true q117
      go_wp2_with (first|((with_reducible refine gate_callee (f:=59) rfl ?_);refine goesL_ (some 17) rfl rfl Tryz.func59 (by kernel_rfl) rfl #[.agg #[.int .i64 ((rd_T33 l0 x5_1).f0),.int .i64 ((rd_T33 l0 x5_1).f1),.int .i64 ((rd_T33 l0 x5_1).f2),.int .i64 ((rd_T33 l0 x5_1).f3)],.int .i64 a1] rfl zar ?_;(with_reducible refine (spec_CellOk.calls ((rd_T33 l0 x5_1).f0) ((rd_T33 l0 x5_1).f1) ((rd_T33 l0 x5_1).f2) ((rd_T33 l0 x5_1).f3) a1 true _ A5.out).mono ?_);rintro e w7 ⟨rfl,hb⟩;refine ⟨_,rfl,?_⟩;have n0_:=Aside0.mk (below_step zhb hb);clear HB;have HB:=n0_;clear n0_;(try clear hb);(try clear hb2);(try clear hk);(try clear hi)))
      go_roundg k1
      case measure=>have:=HK1.out;omega
      case rel=>exact ⟨(wrap64 (x5_1 + 1)),(by first|rfl|(simp;done)|(simp [*];done)),H',⟨by have:=HK1.out;omega⟩,⟨zhb⟩⟩
     ·replace c6:=Bool.eq_false_iff.mpr c6
      subst c6
      have H1:(some false)=some r:=by rw [if_neg (show ¬ (false=true) by decide)] at H;exact H
      clear H
      have H:=H1
      clear H1
      obtain rfl:=Option.some.inj H
      have p117:0≤(x5_1:Int):=zod
      have q117:x5_1 < (l0.length:Int):=zod
      obtain ⟨ad117,e117,hx117_0,hx117_1,hx117_2,hx117_3⟩:=at_T33 HR0.out x5_1 p117 q117
      cases e117
      replace hx117_0:=(HB.out.cell (World.block_lt_of_cell? w _ hx117_0)).trans hx117_0
      replace hx117_1:=(HB.out.cell (World.block_lt_of_cell? w _ hx117_1)).trans hx117_1
      replace hx117_2:=(HB.out.cell (World.block_lt_of_cell? w _ hx117_2)).trans hx117_2
      replace hx117_3:=(HB.out.cell (World.block_lt_of_cell? w _ hx117_3)).trans hx117_3
      replace p117:=eq_true p117
      replace q117:=eq_true q117
      go_wp2_with (first|((with_reducible refine gate_callee (f:=59) rfl ?_);refine goesL_ (some 17) rfl rfl Tryz.func59 (by kernel_rfl) rfl #[.agg #[.int .i64 ((rd_T33 l0 x5_1).f0),.int .i64 ((rd_T33 l0 x5_1).f1),.int .i64 ((rd_T33 l0 x5_1).f2),.int .i64 ((rd_T33 l0 x5_1).f3)],.int .i64 a1] rfl zar ?_;(with_reducible refine (spec_CellOk.calls ((rd_T33 l0 x5_1).f0) ((rd_T33 l0 x5_1).f1) ((rd_T33 l0 x5_1).f2) ((rd_T33 l0 x5_1).f3) a1 false _ A5.out).mono ?_);rintro e w8 ⟨rfl,hb⟩;refine ⟨_,rfl,?_⟩;have n0_:=Aside0.mk (below_step zhb hb);clear HB;have HB:=n0_;clear n0_;(try clear hb);(try clear hb2);(try clear hk);(try clear hi)))
      go_ret
      exact ⟨by first|rfl|(simp [errW_none,errW_some] <;> rfl)|(simp [*,errW_none,errW_some] <;> rfl),zhb⟩
    ·rw [if_neg c4] at H
     exact absurd H (by simp)
   ·rw [if_neg c3] at H
    have c3b0:decide (x5_1 < (l0.length:Int))=false:=decide_eq_false c3
    clear c3
    by_cases c9:(l0.length:Int) ≥ 1
    ·rw [if_pos c9] at H
     have c9b0:decide (1≤(l0.length:Int))=true:=decide_eq_true c9
     have c9b1:decide (1≤l0.length)=true:=decide_eq_true (by omega)
     clear c9
     obtain rfl:=Option.some.inj H
     go_wp2
     go_ret
     exact ⟨by first|rfl|(simp [errW_none,errW_some] <;> rfl)|(simp [*,errW_none,errW_some] <;> rfl),zhb⟩
    ·rw [if_neg c9] at H
     have c9b0:decide (1≤(l0.length:Int))=false:=decide_eq_false c9
     have c9b1:decide (1≤l0.length)=false:=decide_eq_false (by omega)
     clear c9
     obtain rfl:=Option.some.inj H
     go_wp2
     go_ret
     exact ⟨by first|rfl|(simp [errW_none,errW_some] <;> rfl)|(simp [*,errW_none,errW_some] <;> rfl),zhb⟩

/-! ### spec_l4Keys: function 54 -/
mutual
def spec_l4Keys.l0:Nat→List Int→Int→Int→Option (Bool)
 | 0,_,_,_=>none
 | k + 1,x0,x1,x5=>if x5 < (x0.length:Int) then (if 0≤x5 then ((spec_l3Col.f (rd x0 x5) x1).bind fun t120=>(if t120=true then (spec_l4Keys.l1 k x0 x1 x5 0) else (some false))) else (none)) else (some (decide ((x0.length:Int) < 6)))
def spec_l4Keys.l1:Nat→List Int→Int→Int→Int→Option (Bool)
 | 0,_,_,_,_=>none
 | k + 1,x0,x1,x5,x6=>if x6 < x5 then (if 0≤x6 then (if x6 < (x0.length:Int) then (if 0≤x5 then (if x5 < (x0.length:Int) then (if (rd x0 x6)=(rd x0 x5) then (some false) else (spec_l4Keys.l1 k x0 x1 x5 (wrap64 (x6 + 1)))) else (none)) else (none)) else (none)) else (none)) else (spec_l4Keys.l0 k x0 x1 (wrap64 (x5 + 1)))
end
def spec_l4Keys.f (k:Nat) (l0:List Int) (a1:Int):Option (Bool):=spec_l4Keys.l0 k l0 a1 0
theorem spec_l4Keys.mono_l : ∀ k,(∀ y0 y1 y2,LeO (spec_l4Keys.l0 k y0 y1 y2) (spec_l4Keys.l0 (k + 1) y0 y1 y2))∧(∀ y0 y1 y2 y3,LeO (spec_l4Keys.l1 k y0 y1 y2 y3) (spec_l4Keys.l1 (k + 1) y0 y1 y2 y3))
 | 0=>⟨fun _ _ _ r h=>by simp [spec_l4Keys.l0] at h,fun _ _ _ _ r h=>by simp [spec_l4Keys.l1] at h⟩
 | k + 1=>by
  obtain ⟨ih0,ih1⟩:=spec_l4Keys.mono_l k
  refine ⟨?_,?_⟩
  ·intro y0 y1 y2
   unfold spec_l4Keys.l0
   repeat' first
   | (with_reducible exact ih0 _ _ _)
   | (with_reducible exact ih1 _ _ _ _)
   | (with_reducible exact LeO.refl _)
   | (with_reducible exact LeO.none _)
   | (with_reducible refine LeO.ite ?_ ?_)
   | (with_reducible refine LeO.bind ?_ (fun _=>?_))
   | exact LeO.none _
   | refine LeO.ite ?_ ?_
   | refine LeO.bind ?_ (fun _=>?_)
  ·intro y0 y1 y2 y3
   unfold spec_l4Keys.l1
   repeat' first
   | (with_reducible exact ih0 _ _ _)
   | (with_reducible exact ih1 _ _ _ _)
   | (with_reducible exact LeO.refl _)
   | (with_reducible exact LeO.none _)
   | (with_reducible refine LeO.ite ?_ ?_)
   | (with_reducible refine LeO.bind ?_ (fun _=>?_))
   | exact LeO.none _
   | refine LeO.ite ?_ ?_
   | refine LeO.bind ?_ (fun _=>?_)
theorem spec_l4Keys.mono : ∀ a0 a1 k,LeO (spec_l4Keys.f k a0 a1) (spec_l4Keys.f (k + 1) a0 a1):=by
 intro a0 a1 k
 obtain ⟨ih0,ih1⟩:=spec_l4Keys.mono_l k
 unfold spec_l4Keys.f
 repeat' first
   | (with_reducible exact ih0 _ _ _)
   | (with_reducible exact ih1 _ _ _ _)
   | (with_reducible exact LeO.refl _)
   | (with_reducible exact LeO.none _)
   | (with_reducible refine LeO.ite ?_ ?_)
   | (with_reducible refine LeO.bind ?_ (fun _=>?_))
   | exact LeO.none _
   | refine LeO.ite ?_ ?_
   | refine LeO.bind ?_ (fun _=>?_)
set_option maxHeartbeats 8000000 in
set_option maxRecDepth 100000 in
theorem spec_l4Keys.calls (k:Nat) (A0:Option Addr) (c0:Nat) (l0:List Int) (a1:Int) (r:Bool) (w:World) (hr0:Kd.C (Kd.int .i64) w A0 l0.length l0) (hc0:l0.length≤c0) (h:spec_l4Keys.f k l0 a1=some r) :
  Calls Tryz.prog 54 #[.slice A0 l0.length c0,.int .i64 a1] w fun e w'=>e=.returned (.bool r)∧Drawn0 w w':=by
 have HR0:=Aside0.mk hr0
 have HC0:=Aside0.mk hc0
 clear hr0 hc0
 have H:(spec_l4Keys.l0 k l0 a1 0)=some r:=h
 clear h
 have H':=Aside0.mk H
 clear H
 go_enter Tryz.func54,Tryz.ntmps54
 go_wp2
 repeat (go_quiet (fail);try go_wp2)
 go_loopg [5] k (fun kq v5 w'=>∃ (x5_1:Int),v5=.int .i64 x5_1∧Aside0 (spec_l4Keys.l0 kq l0 a1 x5_1=some r)∧Aside0 (kq≤k)∧Drawn0 w w')
 case atStart=>exact ⟨(0),(by first|rfl|(simp;done)|(simp [*];done)),H',⟨Nat.le_refl _⟩,zdw⟩
 case round =>
  clear H'
  try clear p2
  obtain ⟨x5_1,rfl,HA,HK1,⟨m1,rfl⟩⟩:=hrel
  cases gk with
  | zero=>exact absurd HA.out (by simp [spec_l4Keys.l0])
  | succ k1 =>
   have H:=HA.out
   clear HA
   simp only [spec_l4Keys.l0] at H
   by_cases c3:x5_1 < (l0.length:Int)
   ·rw [if_pos c3] at H
    have c3b0:decide (x5_1 < (l0.length:Int))=true:=decide_eq_true c3
    clear c3
    by_cases c4:0≤x5_1
    ·rw [if_pos c4] at H
     have c4b0:decide (0≤x5_1)=true:=decide_eq_true c4
     clear c4
     replace H:=Option.bind_eq_some_iff.mp H
     obtain ⟨t120,A50,H⟩:=H
     (try dsimp only at H)
     have A5:=Aside0.mk A50
     clear A50
     by_cases c6:t120=true
     ·subst c6
      have H1:(spec_l4Keys.l1 k1 l0 a1 x5_1 0)=some r:=by rw [if_pos rfl] at H;exact H
      clear H
      have H:=H1
      clear H1
      have H':=Aside0.mk H
      clear H
      have p119:0≤(x5_1:Int):=zod
      have q119:x5_1 < (l0.length:Int):=zod
      obtain ⟨ad119,e119,hx119_0⟩:=Kd.at_int HR0.out x5_1 p119 q119
      cases e119
      replace p119:=eq_true p119
      replace q119:=eq_true q119
      go_wp2_with (first|(go_at_call 53;(with_reducible refine (spec_l3Col.calls (rd l0 x5_1) a1 true _ A5.out).mono ?_);rintro e w' ⟨rfl,⟨nd,rfl⟩⟩;(try first|exact ⟨rfl,_,World.drewN_drewN _ _ _⟩|exact ⟨rfl,_,Eq.trans (World.drewN_drewN _ _ _) (congrArg (World.drewN _) (Nat.add_assoc _ _ _))⟩)))
      repeat (go_quiet (first|(go_at_call 53;(with_reducible refine (spec_l3Col.calls (rd l0 x5_1) a1 true _ A5.out).mono ?_);rintro e w' ⟨rfl,⟨nd,rfl⟩⟩;(try first|exact ⟨rfl,_,World.drewN_drewN _ _ _⟩|exact ⟨rfl,_,Eq.trans (World.drewN_drewN _ _ _) (congrArg (World.drewN _) (Nat.add_assoc _ _ _))⟩)));try go_wp2_with (first|(go_at_call 53;(with_reducible refine (spec_l3Col.calls (rd l0 x5_1) a1 true _ A5.out).mono ?_);rintro e w' ⟨rfl,⟨nd,rfl⟩⟩;(try first|exact ⟨rfl,_,World.drewN_drewN _ _ _⟩|exact ⟨rfl,_,Eq.trans (World.drewN_drewN _ _ _) (congrArg (World.drewN _) (Nat.add_assoc _ _ _))⟩))))
      go_loopg [6] k1 (fun kq v6 w'=>∃ (x6_2:Int),v6=.int .i64 x6_2∧Aside0 (spec_l4Keys.l1 kq l0 a1 x5_1 x6_2=some r)∧Aside0 (kq≤k1)∧Drawn0 w w')
      case atStart=>exact ⟨(0),(by first|rfl|(simp;done)|(simp [*];done)),H',⟨Nat.le_refl _⟩,zdw⟩
      case round =>
       clear H'
       try clear p1
       try clear q1
       try clear hx1
       try clear p2
       try clear c3
       try clear c3b0
       try clear c4
       try clear c4b0
       try clear c5
       try clear c6
       try clear hx119_0
       try clear p119
       try clear p2
       try clear q119
       obtain ⟨x6_2,rfl,HA,HK2,⟨m2,rfl⟩⟩:=hrel
       cases gk with
       | zero=>exact absurd HA.out (by simp [spec_l4Keys.l1])
       | succ k2 =>
        have H:=HA.out
        clear HA
        simp only [spec_l4Keys.l1] at H
        by_cases c7:x6_2 < x5_1
        ·rw [if_pos c7] at H
         have c7b0:decide (x6_2 < x5_1)=true:=decide_eq_true c7
         clear c7
         by_cases c8:0≤x6_2
         ·rw [if_pos c8] at H
          have c8b0:decide (0≤x6_2)=true:=decide_eq_true c8
          clear c8
          by_cases c9:x6_2 < (l0.length:Int)
          ·rw [if_pos c9] at H
           have c9b0:decide (x6_2 < (l0.length:Int))=true:=decide_eq_true c9
           clear c9
           by_cases c10:0≤x5_1
           ·rw [if_pos c10] at H
            have c10b0:decide (0≤x5_1)=true:=decide_eq_true c10
            clear c10
            by_cases c11:x5_1 < (l0.length:Int)
            ·rw [if_pos c11] at H
             have c11b0:decide (x5_1 < (l0.length:Int))=true:=decide_eq_true c11
             clear c11
             by_cases c12:(rd l0 x6_2)=(rd l0 x5_1)
             ·rw [if_pos c12] at H
              have c12b0:((rd l0 x6_2) == (rd l0 x5_1))=true:=beq_iff_eq.mpr c12
              have c12b1:((rd l0 x6_2) != (rd l0 x5_1))=false:=bne_eq_false_iff_eq.mpr c12
              clear c12
              obtain rfl:=Option.some.inj H
              have p121:0≤(x6_2:Int):=zod
              have q121:x6_2 < (l0.length:Int):=zod
              obtain ⟨ad121,e121,hx121_0⟩:=Kd.at_int HR0.out x6_2 p121 q121
              obtain rfl:ad119=ad121:=(by injection e121)
              replace p121:=eq_true p121
              replace q121:=eq_true q121
              have p122:0≤(x5_1:Int):=zod
              have q122:x5_1 < (l0.length:Int):=zod
              obtain ⟨ad122,e122,hx122_0⟩:=Kd.at_int HR0.out x5_1 p122 q122
              obtain rfl:ad119=ad122:=(by injection e122)
              replace p122:=eq_true p122
              replace q122:=eq_true q122
              go_wp2
              repeat (go_quiet (fail);try go_wp2)
              go_ret
              exact ⟨by first|rfl|(simp;done)|(simp [*];done),zdw⟩
             ·rw [if_neg c12] at H
              have c12b0:((rd l0 x6_2) == (rd l0 x5_1))=false:=beq_eq_false_iff_ne.mpr c12
              have c12b1:((rd l0 x6_2) != (rd l0 x5_1))=true:=bne_iff_ne.mpr c12
              have H':=Aside0.mk H
              clear H
              have p121:0≤(x6_2:Int):=zod
              have q121:x6_2 < (l0.length:Int):=zod
              obtain ⟨ad121,e121,hx121_0⟩:=Kd.at_int HR0.out x6_2 p121 q121
              obtain rfl:ad119=ad121:=(by injection e121)
              replace p121:=eq_true p121
              replace q121:=eq_true q121
              have p122:0≤(x5_1:Int):=zod
              have q122:x5_1 < (l0.length:Int):=zod
              obtain ⟨ad122,e122,hx122_0⟩:=Kd.at_int HR0.out x5_1 p122 q122
              obtain rfl:ad119=ad122:=(by injection e122)
              replace p122:=eq_true p122
              replace q122:=eq_true q122
              go_wp2
              repeat (go_quiet (fail);try go_wp2)
              go_roundg k2
              case measure=>have:=HK1.out;have:=HK2.out;omega
              case rel=>exact ⟨(wrap64 (x6_2 + 1)),(by first|rfl|(simp;done)|(simp [*];done)),H',⟨by have:=HK1.out;have:=HK2.out;omega⟩,zdw⟩
            ·rw [if_neg c11] at H
             exact absurd H (by simp)
           ·rw [if_neg c10] at H
            exact absurd H (by simp)
          ·rw [if_neg c9] at H
           exact absurd H (by simp)
         ·rw [if_neg c8] at H
          exact absurd H (by simp)
        ·rw [if_neg c7] at H
         have c7b0:decide (x6_2 < x5_1)=false:=decide_eq_false c7
         clear c7
         have H':=Aside0.mk H
         clear H
         go_wp2
         repeat (go_quiet (fail);try go_wp2)
         go_roundg k2
         case measure=>have:=HK1.out;have:=HK2.out;omega
         case rel=>exact ⟨(wrap64 (x5_1 + 1)),(by first|rfl|(simp;done)|(simp [*];done)),H',⟨by have:=HK1.out;have:=HK2.out;omega⟩,zdw⟩
     ·replace c6:=Bool.eq_false_iff.mpr c6
      subst c6
      have H1:(some false)=some r:=by rw [if_neg (show ¬ (false=true) by decide)] at H;exact H
      clear H
      have H:=H1
      clear H1
      obtain rfl:=Option.some.inj H
      have p119:0≤(x5_1:Int):=zod
      have q119:x5_1 < (l0.length:Int):=zod
      obtain ⟨ad119,e119,hx119_0⟩:=Kd.at_int HR0.out x5_1 p119 q119
      cases e119
      replace p119:=eq_true p119
      replace q119:=eq_true q119
      go_wp2_with (first|(go_at_call 53;(with_reducible refine (spec_l3Col.calls (rd l0 x5_1) a1 false _ A5.out).mono ?_);rintro e w' ⟨rfl,⟨nd,rfl⟩⟩;(try first|exact ⟨rfl,_,World.drewN_drewN _ _ _⟩|exact ⟨rfl,_,Eq.trans (World.drewN_drewN _ _ _) (congrArg (World.drewN _) (Nat.add_assoc _ _ _))⟩)))
      repeat (go_quiet (first|(go_at_call 53;(with_reducible refine (spec_l3Col.calls (rd l0 x5_1) a1 false _ A5.out).mono ?_);rintro e w' ⟨rfl,⟨nd,rfl⟩⟩;(try first|exact ⟨rfl,_,World.drewN_drewN _ _ _⟩|exact ⟨rfl,_,Eq.trans (World.drewN_drewN _ _ _) (congrArg (World.drewN _) (Nat.add_assoc _ _ _))⟩)));try go_wp2_with (first|(go_at_call 53;(with_reducible refine (spec_l3Col.calls (rd l0 x5_1) a1 false _ A5.out).mono ?_);rintro e w' ⟨rfl,⟨nd,rfl⟩⟩;(try first|exact ⟨rfl,_,World.drewN_drewN _ _ _⟩|exact ⟨rfl,_,Eq.trans (World.drewN_drewN _ _ _) (congrArg (World.drewN _) (Nat.add_assoc _ _ _))⟩))))
      go_ret
      exact ⟨by first|rfl|(simp;done)|(simp [*];done),zdw⟩
    ·rw [if_neg c4] at H
     exact absurd H (by simp)
   ·rw [if_neg c3] at H
    have c3b0:decide (x5_1 < (l0.length:Int))=false:=decide_eq_false c3
    clear c3
    obtain rfl:=Option.some.inj H
    go_wp2
    repeat (go_quiet (fail);try go_wp2)
    go_ret
    exact ⟨by first|rfl|(simp;done)|(simp [*];done),zdw⟩

/-! ### laws_toCell: function 39 -/
def laws_toCell.f (a0_0:Int) (a0_1:Int) (a0_2:Int) (a0_3:Int):Option (Int × Int × Int × Int):=some (a0_0,a0_1,a0_2,a0_3)
set_option maxHeartbeats 8000000 in
set_option maxRecDepth 100000 in
theorem laws_toCell.calls (a0_0:Int) (a0_1:Int) (a0_2:Int) (a0_3:Int) (r1:Int) (r2:Int) (r3:Int) (r4:Int) (w:World) (h:laws_toCell.f a0_0 a0_1 a0_2 a0_3=some (r1,r2,r3,r4)) :
  Calls Tryz.prog 39 #[.agg #[.int .i64 a0_0,.int .i64 a0_1,.int .i64 a0_2,.int .i64 a0_3]] w fun e w'=>e=.returned (.agg #[.int .i64 r1,.int .i64 r2,.int .i64 r3,.int .i64 r4])∧Below w.heap.size w w':=by
 have hu23:=Tryz.underlying23
 have hu33:=Tryz.underlying33
 have HB:=Aside0.mk (Below.refl w.heap.size w)
 have H:(some (a0_0,a0_1,a0_2,a0_3))=some (r1,r2,r3,r4):=h
 clear h
 simp only [Option.some.injEq,Prod.mk.injEq] at H
 obtain ⟨rfl,rfl,rfl,rfl⟩:=H
 go_enter Tryz.func39,Tryz.ntmps39
 go_wp2_with (first|((with_reducible refine gate_dst (N:=1) rfl ?_);refine box_event ?hg (N:=1) ?hd (cs:=#[.int .i64 a0_0,.int .i64 a0_1,.int .i64 a0_2,.int .i64 a0_3]) (t:=23) ?hr ?_;(case hd=>rfl);(case hg=>rfl);(case hr=>first|(go_simp;done)|(go_simp;rfl));intro gb123 hg w2 hbox hb;have n0_:=Aside0.mk (below_step zhb hb);have n1_:=Aside0.mk (hbox);have n2_:=Aside0.mk ((by rw [hg];exact (below_size zhb):w.heap.size≤gb123));have n3_:=Aside0.mk ((by rw [hg];exact (below_size zhb):w.heap.size≤gb123));clear HB;have HB:=n0_;have BK123:=n1_;have GW123:=n2_;have GE123:=n3_;clear n0_ n1_ n2_ n3_;clear hb hbox hg)|((with_reducible refine gate_dst (N:=2) rfl ?_);refine box_event ?hg (N:=2) ?hd (cs:=#[.int .i64 0,.int .i64 0,.int .i64 0,.int .i64 0]) (t:=33) ?hr ?_;(case hd=>rfl);(case hg=>rfl);(case hr=>first|(go_simp;done)|(go_simp;rfl));intro gb124 hg w3 hbox hb;have n0_:=Aside0.mk (blk_below (g:=gb123) (o:=.cells #[.int .i64 a0_0,.int .i64 a0_1,.int .i64 a0_2,.int .i64 a0_3] 23 (0,0)) (by (with_reducible repeat (first|refine blk_drewN ?_ _|refine blk_drew ?_|refine blk_alloc ?_ _));exact BK123.out) hb);have n1_:=Aside0.mk (below_step (by repeat (first|(with_reducible first|exact HB.out|apply below_alloc|apply pw_below_drewN|apply below_drew1|refine below_set ?_ GE123.out)|exact HB.out)) hb);have n2_:=Aside0.mk (hbox);have n3_:=Aside0.mk ((by rw [hg];exact (below_size (by repeat (first|(with_reducible first|exact HB.out|apply below_alloc|apply pw_below_drewN|apply below_drew1|refine below_set ?_ GE123.out)|exact HB.out))):w.heap.size≤gb124));have n4_:=Aside0.mk ((by rw [hg];exact (below_size (by repeat (first|(with_reducible first|exact HB.out|apply below_alloc|apply pw_below_drewN|apply below_drew1|refine below_set ?_ GE123.out)|exact HB.out))):w.heap.size≤gb124));have n5_:=Aside0.mk ((by rw [hg];exact Nat.ne_of_lt (blk_lt (g:=gb123) (o:=.cells #[.int .i64 a0_0,.int .i64 a0_1,.int .i64 a0_2,.int .i64 a0_3] 23 (0,0)) (by (with_reducible repeat (first|refine blk_drewN ?_ _|refine blk_drew ?_|refine blk_alloc ?_ _));exact BK123.out)):gb123≠gb124));have n6_:=Aside0.mk ((by rw [hg];exact Nat.ne_of_gt (blk_lt (g:=gb123) (o:=.cells #[.int .i64 a0_0,.int .i64 a0_1,.int .i64 a0_2,.int .i64 a0_3] 23 (0,0)) (by (with_reducible repeat (first|refine blk_drewN ?_ _|refine blk_drew ?_|refine blk_alloc ?_ _));exact BK123.out)):gb124≠gb123));clear BK123;clear HB;have BK123:=n0_;have HB:=n1_;have BK124:=n2_;have GW124:=n3_;have GE124:=n4_;have NB123_124:=n5_;have NB124_123:=n6_;clear n0_ n1_ n2_ n3_ n4_ n5_ n6_;clear hb hbox hg)|((with_reducible refine gate_dst (N:=3) rfl ?_);refine box_event ?hg (N:=3) ?hd (cs:=#[.int .i64 0,.int .i64 0,.int .i64 0,.int .i64 0]) (t:=33) ?hr ?_;(case hd=>rfl);(case hg=>rfl);(case hr=>first|(go_simp;done)|(go_simp;rfl));intro gb125 hg w4 hbox hb;have n0_:=Aside0.mk (blk_below (g:=gb123) (o:=.cells #[.int .i64 a0_0,.int .i64 a0_1,.int .i64 a0_2,.int .i64 a0_3] 23 (0,0)) (by (with_reducible repeat (first|refine blk_drewN ?_ _|refine blk_drew ?_|refine blk_alloc ?_ _));exact BK123.out) hb);have n1_:=Aside0.mk (blk_below (g:=gb124) (o:=.cells #[.int .i64 0,.int .i64 0,.int .i64 0,.int .i64 0] 33 (0,0)) (by (with_reducible repeat (first|refine blk_drewN ?_ _|refine blk_drew ?_|refine blk_alloc ?_ _));exact BK124.out) hb);have n2_:=Aside0.mk (below_step (by repeat (first|(with_reducible first|exact HB.out|apply below_alloc|apply pw_below_drewN|apply below_drew1|refine below_set ?_ GE123.out|refine below_set ?_ GE124.out)|exact HB.out)) hb);have n3_:=Aside0.mk (hbox);have n4_:=Aside0.mk ((by rw [hg];exact (below_size (by repeat (first|(with_reducible first|exact HB.out|apply below_alloc|apply pw_below_drewN|apply below_drew1|refine below_set ?_ GE123.out|refine below_set ?_ GE124.out)|exact HB.out))):w.heap.size≤gb125));have n5_:=Aside0.mk ((by rw [hg];exact (below_size (by repeat (first|(with_reducible first|exact HB.out|apply below_alloc|apply pw_below_drewN|apply below_drew1|refine below_set ?_ GE123.out|refine below_set ?_ GE124.out)|exact HB.out))):w.heap.size≤gb125));have n6_:=Aside0.mk ((by rw [hg];exact Nat.ne_of_lt (blk_lt (g:=gb123) (o:=.cells #[.int .i64 a0_0,.int .i64 a0_1,.int .i64 a0_2,.int .i64 a0_3] 23 (0,0)) (by (with_reducible repeat (first|refine blk_drewN ?_ _|refine blk_drew ?_|refine blk_alloc ?_ _));exact BK123.out)):gb123≠gb125));have n7_:=Aside0.mk ((by rw [hg];exact Nat.ne_of_gt (blk_lt (g:=gb123) (o:=.cells #[.int .i64 a0_0,.int .i64 a0_1,.int .i64 a0_2,.int .i64 a0_3] 23 (0,0)) (by (with_reducible repeat (first|refine blk_drewN ?_ _|refine blk_drew ?_|refine blk_alloc ?_ _));exact BK123.out)):gb125≠gb123));have n8_:=Aside0.mk ((by rw [hg];exact Nat.ne_of_lt (blk_lt (g:=gb124) (o:=.cells #[.int .i64 0,.int .i64 0,.int .i64 0,.int .i64 0] 33 (0,0)) (by (with_reducible repeat (first|refine blk_drewN ?_ _|refine blk_drew ?_|refine blk_alloc ?_ _));exact BK124.out)):gb124≠gb125));have n9_:=Aside0.mk ((by rw [hg];exact Nat.ne_of_gt (blk_lt (g:=gb124) (o:=.cells #[.int .i64 0,.int .i64 0,.int .i64 0,.int .i64 0] 33 (0,0)) (by (with_reducible repeat (first|refine blk_drewN ?_ _|refine blk_drew ?_|refine blk_alloc ?_ _));exact BK124.out)):gb125≠gb124));clear BK123;clear BK124;clear HB;have BK123:=n0_;have BK124:=n1_;have HB:=n2_;have BK125:=n3_;have GW125:=n4_;have GE125:=n5_;have NB123_125:=n6_;have NB125_123:=n7_;have NB124_125:=n8_;have NB125_124:=n9_;clear n0_ n1_ n2_ n3_ n4_ n5_ n6_ n7_ n8_ n9_;clear hb hbox hg;have hnb5:=NB123_124.out;have hnc5:=NB124_123.out;have hnb6:=NB123_125.out;have hnc6:=NB125_123.out;have hcz7_0:w4.cell? ⟨gb123,0,none⟩=some (.int .i64 a0_0):=(blk_cell BK123.out 0).trans rfl;have hcz7_1:w4.cell? ⟨gb123,1,none⟩=some (.int .i64 a0_1):=(blk_cell BK123.out 1).trans rfl;have hcz7_2:w4.cell? ⟨gb123,2,none⟩=some (.int .i64 a0_2):=(blk_cell BK123.out 2).trans rfl;have hcz7_3:w4.cell? ⟨gb123,3,none⟩=some (.int .i64 a0_3):=(blk_cell BK123.out 3).trans rfl;have hfz7_0:=blk_frozen BK123.out 0;have hfz7_1:=blk_frozen BK123.out 1;have hfz7_2:=blk_frozen BK123.out 2;have hfz7_3:=blk_frozen BK123.out 3;have hnb8:=NB125_124.out;have hnc8:=NB124_125.out;have hcz9_0:w4.cell? ⟨gb125,0,none⟩=some (.int .i64 0):=(blk_cell BK125.out 0).trans rfl;have hcz9_1:w4.cell? ⟨gb125,1,none⟩=some (.int .i64 0):=(blk_cell BK125.out 1).trans rfl;have hcz9_2:w4.cell? ⟨gb125,2,none⟩=some (.int .i64 0):=(blk_cell BK125.out 2).trans rfl;have hcz9_3:w4.cell? ⟨gb125,3,none⟩=some (.int .i64 0):=(blk_cell BK125.out 3).trans rfl;have hfz9_0:=blk_frozen BK125.out 0;have hfz9_1:=blk_frozen BK125.out 1;have hfz9_2:=blk_frozen BK125.out 2;have hfz9_3:=blk_frozen BK125.out 3;have hcz10_0:w4.cell? ⟨gb124,0,none⟩=some (.int .i64 0):=(blk_cell BK124.out 0).trans rfl;have hcz10_1:w4.cell? ⟨gb124,1,none⟩=some (.int .i64 0):=(blk_cell BK124.out 1).trans rfl;have hcz10_2:w4.cell? ⟨gb124,2,none⟩=some (.int .i64 0):=(blk_cell BK124.out 2).trans rfl;have hcz10_3:w4.cell? ⟨gb124,3,none⟩=some (.int .i64 0):=(blk_cell BK124.out 3).trans rfl;have hfz10_0:=blk_frozen BK124.out 0;have hfz10_1:=blk_frozen BK124.out 1;have hfz10_2:=blk_frozen BK124.out 2;have hfz10_3:=blk_frozen BK124.out 3))
 refine bodyPost_ret (results_cell_row rfl _ _ gb124 33 #[.int .i64 a0_0,.int .i64 a0_1,.int .i64 a0_2,.int .i64 a0_3] (0,0) _ rfl (by (with_reducible repeat (first|refine blk_drewN ?_ _|refine blk_drew ?_|refine blk_alloc ?_ _));refine blk_put (cs:=#[.int .i64 a0_0,.int .i64 a0_1,.int .i64 a0_2,.int .i64 0]) ?_ 3 _ rfl;(with_reducible repeat (first|refine blk_drewN ?_ _|refine blk_drew ?_|refine blk_alloc ?_ _));refine blk_put (cs:=#[.int .i64 a0_0,.int .i64 a0_1,.int .i64 0,.int .i64 0]) ?_ 2 _ rfl;(with_reducible repeat (first|refine blk_drewN ?_ _|refine blk_drew ?_|refine blk_alloc ?_ _));refine blk_put (cs:=#[.int .i64 a0_0,.int .i64 0,.int .i64 0,.int .i64 0]) ?_ 1 _ rfl;(with_reducible repeat (first|refine blk_drewN ?_ _|refine blk_drew ?_|refine blk_alloc ?_ _));refine blk_put (cs:=#[.int .i64 0,.int .i64 0,.int .i64 0,.int .i64 0]) ?_ 0 _ rfl;(with_reducible repeat (first|refine blk_drewN ?_ _|refine blk_drew ?_|refine blk_alloc ?_ _));refine blk_far ?_ NB124_125.out _;(with_reducible repeat (first|refine blk_drewN ?_ _|refine blk_drew ?_|refine blk_alloc ?_ _));refine blk_far ?_ NB124_125.out _;(with_reducible repeat (first|refine blk_drewN ?_ _|refine blk_drew ?_|refine blk_alloc ?_ _));refine blk_far ?_ NB124_125.out _;(with_reducible repeat (first|refine blk_drewN ?_ _|refine blk_drew ?_|refine blk_alloc ?_ _));refine blk_far ?_ NB124_125.out _;(with_reducible repeat (first|refine blk_drewN ?_ _|refine blk_drew ?_|refine blk_alloc ?_ _));exact BK124.out) Tryz.underlying33 rfl (by kernel_rfl)) rfl ?_
 exact ⟨by first|rfl|(simp [errW_none,errW_some] <;> rfl)|(simp [*,errW_none,errW_some] <;> rfl),by repeat (first|(with_reducible first|exact HB.out|apply below_alloc|apply pw_below_drewN|apply below_drew1|refine below_set ?_ GE123.out|refine below_set ?_ GE124.out|refine below_set ?_ GE125.out)|exact HB.out)⟩

/-! ### laws_toTest: function 20 -/
def laws_toTest.f (a0_0:Int) (a0_1:Bool) (a0_2:Int) (a0_3:Int) (a0_4:Int) (a0_5:Int) (a0_6:Int) (a0_7:Int) (a0_8:Int) (a0_9:Int):Option (Int × Bool × Int × Int × Int × Int × Int × Int × Int × Int):=(laws_toCell.f a0_2 a0_3 a0_4 a0_5).bind fun bt129=>((laws_toCell.f a0_6 a0_7 a0_8 a0_9).bind fun bt133=>(some (a0_0,a0_1,bt129.1,bt129.2.1,bt129.2.2.1,bt129.2.2.2,bt133.1,bt133.2.1,bt133.2.2.1,bt133.2.2.2)))
set_option maxHeartbeats 8000000 in
set_option maxRecDepth 100000 in
theorem laws_toTest.calls (a0_0:Int) (a0_1:Bool) (a0_2:Int) (a0_3:Int) (a0_4:Int) (a0_5:Int) (a0_6:Int) (a0_7:Int) (a0_8:Int) (a0_9:Int) (r1:Int) (r2:Bool) (r3:Int) (r4:Int) (r5:Int) (r6:Int) (r7:Int) (r8:Int) (r9:Int) (r10:Int) (w:World) (h:laws_toTest.f a0_0 a0_1 a0_2 a0_3 a0_4 a0_5 a0_6 a0_7 a0_8 a0_9=some (r1,r2,r3,r4,r5,r6,r7,r8,r9,r10)) :
  Calls Tryz.prog 20 #[.agg #[.int .i64 a0_0,.bool a0_1,.int .i64 a0_2,.int .i64 a0_3,.int .i64 a0_4,.int .i64 a0_5,.int .i64 a0_6,.int .i64 a0_7,.int .i64 a0_8,.int .i64 a0_9]] w fun e w'=>e=.returned (.agg #[.int .i64 r1,.bool r2,.int .i64 r3,.int .i64 r4,.int .i64 r5,.int .i64 r6,.int .i64 r7,.int .i64 r8,.int .i64 r9,.int .i64 r10])∧Below w.heap.size w w':=by
 have hu25:=Tryz.underlying25
 have hu35:=Tryz.underlying35
 have hu23:=Tryz.underlying23
 have hu33:=Tryz.underlying33
 have HB:=Aside0.mk (Below.refl w.heap.size w)
 have H:((laws_toCell.f a0_2 a0_3 a0_4 a0_5).bind fun bt129=>((laws_toCell.f a0_6 a0_7 a0_8 a0_9).bind fun bt133=>(some (a0_0,a0_1,bt129.1,bt129.2.1,bt129.2.2.1,bt129.2.2.2,bt133.1,bt133.2.1,bt133.2.2.1,bt133.2.2.2))))=some (r1,r2,r3,r4,r5,r6,r7,r8,r9,r10):=h
 clear h
 replace H:=Option.bind_eq_some_iff.mp H
 obtain ⟨⟨t129,t130,t131,t132⟩,A20,H⟩:=H
 (try dsimp only at H)
 have A2:=Aside0.mk A20
 clear A20
 replace H:=Option.bind_eq_some_iff.mp H
 obtain ⟨⟨t133,t134,t135,t136⟩,A30,H⟩:=H
 (try dsimp only at H)
 have A3:=Aside0.mk A30
 clear A30
 simp only [Option.some.injEq,Prod.mk.injEq] at H
 obtain ⟨rfl,rfl,rfl,rfl,rfl,rfl,rfl,rfl,rfl,rfl⟩:=H
 go_enter Tryz.func20,Tryz.ntmps20
 go_wp2_with (first|((with_reducible refine gate_dst (N:=1) rfl ?_);refine box_event ?hg (N:=1) ?hd (cs:=#[.int .i64 a0_0,.bool a0_1,.int .i64 a0_2,.int .i64 a0_3,.int .i64 a0_4,.int .i64 a0_5,.int .i64 a0_6,.int .i64 a0_7,.int .i64 a0_8,.int .i64 a0_9]) (t:=25) ?hr ?_;(case hd=>rfl);(case hg=>rfl);(case hr=>first|(go_simp;done)|(go_simp;rfl));intro gb126 hg w4 hbox hb;have n0_:=Aside0.mk (below_step zhb hb);have n1_:=Aside0.mk (hbox);have n2_:=Aside0.mk ((by rw [hg];exact (below_size zhb):w.heap.size≤gb126));have n3_:=Aside0.mk ((by rw [hg];exact (below_size zhb):w.heap.size≤gb126));clear HB;have HB:=n0_;have BK126:=n1_;have GW126:=n2_;have GE126:=n3_;clear n0_ n1_ n2_ n3_;clear hb hbox hg)|((with_reducible refine gate_dst (N:=2) rfl ?_);refine box_event ?hg (N:=2) ?hd (cs:=#[.int .i64 0,.bool false,.int .i64 0,.int .i64 0,.int .i64 0,.int .i64 0,.int .i64 0,.int .i64 0,.int .i64 0,.int .i64 0]) (t:=35) ?hr ?_;(case hd=>rfl);(case hg=>rfl);(case hr=>first|(go_simp;done)|(go_simp;rfl));intro gb127 hg w5 hbox hb;have n0_:=Aside0.mk (blk_below (g:=gb126) (o:=.cells #[.int .i64 a0_0,.bool a0_1,.int .i64 a0_2,.int .i64 a0_3,.int .i64 a0_4,.int .i64 a0_5,.int .i64 a0_6,.int .i64 a0_7,.int .i64 a0_8,.int .i64 a0_9] 25 (0,0)) (by (with_reducible repeat (first|refine blk_drewN ?_ _|refine blk_drew ?_|refine blk_alloc ?_ _));exact BK126.out) hb);have n1_:=Aside0.mk (below_step (by repeat (first|(with_reducible first|exact HB.out|apply below_alloc|apply pw_below_drewN|apply below_drew1|refine below_set ?_ GE126.out)|exact HB.out)) hb);have n2_:=Aside0.mk (hbox);have n3_:=Aside0.mk ((by rw [hg];exact (below_size (by repeat (first|(with_reducible first|exact HB.out|apply below_alloc|apply pw_below_drewN|apply below_drew1|refine below_set ?_ GE126.out)|exact HB.out))):w.heap.size≤gb127));have n4_:=Aside0.mk ((by rw [hg];exact (below_size (by repeat (first|(with_reducible first|exact HB.out|apply below_alloc|apply pw_below_drewN|apply below_drew1|refine below_set ?_ GE126.out)|exact HB.out))):w.heap.size≤gb127));have n5_:=Aside0.mk ((by rw [hg];exact Nat.ne_of_lt (blk_lt (g:=gb126) (o:=.cells #[.int .i64 a0_0,.bool a0_1,.int .i64 a0_2,.int .i64 a0_3,.int .i64 a0_4,.int .i64 a0_5,.int .i64 a0_6,.int .i64 a0_7,.int .i64 a0_8,.int .i64 a0_9] 25 (0,0)) (by (with_reducible repeat (first|refine blk_drewN ?_ _|refine blk_drew ?_|refine blk_alloc ?_ _));exact BK126.out)):gb126≠gb127));have n6_:=Aside0.mk ((by rw [hg];exact Nat.ne_of_gt (blk_lt (g:=gb126) (o:=.cells #[.int .i64 a0_0,.bool a0_1,.int .i64 a0_2,.int .i64 a0_3,.int .i64 a0_4,.int .i64 a0_5,.int .i64 a0_6,.int .i64 a0_7,.int .i64 a0_8,.int .i64 a0_9] 25 (0,0)) (by (with_reducible repeat (first|refine blk_drewN ?_ _|refine blk_drew ?_|refine blk_alloc ?_ _));exact BK126.out)):gb127≠gb126));clear BK126;clear HB;have BK126:=n0_;have HB:=n1_;have BK127:=n2_;have GW127:=n3_;have GE127:=n4_;have NB126_127:=n5_;have NB127_126:=n6_;clear n0_ n1_ n2_ n3_ n4_ n5_ n6_;clear hb hbox hg)|((with_reducible refine gate_dst (N:=3) rfl ?_);refine box_event ?hg (N:=3) ?hd (cs:=#[.int .i64 0,.bool false,.int .i64 0,.int .i64 0,.int .i64 0,.int .i64 0,.int .i64 0,.int .i64 0,.int .i64 0,.int .i64 0]) (t:=35) ?hr ?_;(case hd=>rfl);(case hg=>rfl);(case hr=>first|(go_simp;done)|(go_simp;rfl));intro gb128 hg w6 hbox hb;have n0_:=Aside0.mk (blk_below (g:=gb126) (o:=.cells #[.int .i64 a0_0,.bool a0_1,.int .i64 a0_2,.int .i64 a0_3,.int .i64 a0_4,.int .i64 a0_5,.int .i64 a0_6,.int .i64 a0_7,.int .i64 a0_8,.int .i64 a0_9] 25 (0,0)) (by (with_reducible repeat (first|refine blk_drewN ?_ _|refine blk_drew ?_|refine blk_alloc ?_ _));exact BK126.out) hb);have n1_:=Aside0.mk (blk_below (g:=gb127) (o:=.cells #[.int .i64 0,.bool false,.int .i64 0,.int .i64 0,.int .i64 0,.int .i64 0,.int .i64 0,.int .i64 0,.int .i64 0,.int .i64 0] 35 (0,0)) (by (with_reducible repeat (first|refine blk_drewN ?_ _|refine blk_drew ?_|refine blk_alloc ?_ _));exact BK127.out) hb);have n2_:=Aside0.mk (below_step (by repeat (first|(with_reducible first|exact HB.out|apply below_alloc|apply pw_below_drewN|apply below_drew1|refine below_set ?_ GE126.out|refine below_set ?_ GE127.out)|exact HB.out)) hb);have n3_:=Aside0.mk (hbox);have n4_:=Aside0.mk ((by rw [hg];exact (below_size (by repeat (first|(with_reducible first|exact HB.out|apply below_alloc|apply pw_below_drewN|apply below_drew1|refine below_set ?_ GE126.out|refine below_set ?_ GE127.out)|exact HB.out))):w.heap.size≤gb128));have n5_:=Aside0.mk ((by rw [hg];exact (below_size (by repeat (first|(with_reducible first|exact HB.out|apply below_alloc|apply pw_below_drewN|apply below_drew1|refine below_set ?_ GE126.out|refine below_set ?_ GE127.out)|exact HB.out))):w.heap.size≤gb128));have n6_:=Aside0.mk ((by rw [hg];exact Nat.ne_of_lt (blk_lt (g:=gb126) (o:=.cells #[.int .i64 a0_0,.bool a0_1,.int .i64 a0_2,.int .i64 a0_3,.int .i64 a0_4,.int .i64 a0_5,.int .i64 a0_6,.int .i64 a0_7,.int .i64 a0_8,.int .i64 a0_9] 25 (0,0)) (by (with_reducible repeat (first|refine blk_drewN ?_ _|refine blk_drew ?_|refine blk_alloc ?_ _));exact BK126.out)):gb126≠gb128));have n7_:=Aside0.mk ((by rw [hg];exact Nat.ne_of_gt (blk_lt (g:=gb126) (o:=.cells #[.int .i64 a0_0,.bool a0_1,.int .i64 a0_2,.int .i64 a0_3,.int .i64 a0_4,.int .i64 a0_5,.int .i64 a0_6,.int .i64 a0_7,.int .i64 a0_8,.int .i64 a0_9] 25 (0,0)) (by (with_reducible repeat (first|refine blk_drewN ?_ _|refine blk_drew ?_|refine blk_alloc ?_ _));exact BK126.out)):gb128≠gb126));have n8_:=Aside0.mk ((by rw [hg];exact Nat.ne_of_lt (blk_lt (g:=gb127) (o:=.cells #[.int .i64 0,.bool false,.int .i64 0,.int .i64 0,.int .i64 0,.int .i64 0,.int .i64 0,.int .i64 0,.int .i64 0,.int .i64 0] 35 (0,0)) (by (with_reducible repeat (first|refine blk_drewN ?_ _|refine blk_drew ?_|refine blk_alloc ?_ _));exact BK127.out)):gb127≠gb128));have n9_:=Aside0.mk ((by rw [hg];exact Nat.ne_of_gt (blk_lt (g:=gb127) (o:=.cells #[.int .i64 0,.bool false,.int .i64 0,.int .i64 0,.int .i64 0,.int .i64 0,.int .i64 0,.int .i64 0,.int .i64 0,.int .i64 0] 35 (0,0)) (by (with_reducible repeat (first|refine blk_drewN ?_ _|refine blk_drew ?_|refine blk_alloc ?_ _));exact BK127.out)):gb128≠gb127));clear BK126;clear BK127;clear HB;have BK126:=n0_;have BK127:=n1_;have HB:=n2_;have BK128:=n3_;have GW128:=n4_;have GE128:=n5_;have NB126_128:=n6_;have NB128_126:=n7_;have NB127_128:=n8_;have NB128_127:=n9_;clear n0_ n1_ n2_ n3_ n4_ n5_ n6_ n7_ n8_ n9_;clear hb hbox hg;have hnb7:=NB126_127.out;have hnc7:=NB127_126.out;have hnb8:=NB126_128.out;have hnc8:=NB128_126.out;have hcz9_0:w6.cell? ⟨gb126,0,none⟩=some (.int .i64 a0_0):=(blk_cell BK126.out 0).trans rfl;have hcz9_1:w6.cell? ⟨gb126,1,none⟩=some (.bool a0_1):=(blk_cell BK126.out 1).trans rfl;have hcz9_2:w6.cell? ⟨gb126,2,none⟩=some (.int .i64 a0_2):=(blk_cell BK126.out 2).trans rfl;have hcz9_3:w6.cell? ⟨gb126,3,none⟩=some (.int .i64 a0_3):=(blk_cell BK126.out 3).trans rfl;have hcz9_4:w6.cell? ⟨gb126,4,none⟩=some (.int .i64 a0_4):=(blk_cell BK126.out 4).trans rfl;have hcz9_5:w6.cell? ⟨gb126,5,none⟩=some (.int .i64 a0_5):=(blk_cell BK126.out 5).trans rfl;have hcz9_6:w6.cell? ⟨gb126,6,none⟩=some (.int .i64 a0_6):=(blk_cell BK126.out 6).trans rfl;have hcz9_7:w6.cell? ⟨gb126,7,none⟩=some (.int .i64 a0_7):=(blk_cell BK126.out 7).trans rfl;have hcz9_8:w6.cell? ⟨gb126,8,none⟩=some (.int .i64 a0_8):=(blk_cell BK126.out 8).trans rfl;have hcz9_9:w6.cell? ⟨gb126,9,none⟩=some (.int .i64 a0_9):=(blk_cell BK126.out 9).trans rfl;have hfz9_0:=blk_frozen BK126.out 0;have hfz9_1:=blk_frozen BK126.out 1;have hfz9_2:=blk_frozen BK126.out 2;have hfz9_3:=blk_frozen BK126.out 3;have hfz9_4:=blk_frozen BK126.out 4;have hfz9_5:=blk_frozen BK126.out 5;have hfz9_6:=blk_frozen BK126.out 6;have hfz9_7:=blk_frozen BK126.out 7;have hfz9_8:=blk_frozen BK126.out 8;have hfz9_9:=blk_frozen BK126.out 9;have hnb10:=NB128_127.out;have hnc10:=NB127_128.out;have hcz11_0:w6.cell? ⟨gb128,0,none⟩=some (.int .i64 0):=(blk_cell BK128.out 0).trans rfl;have hcz11_1:w6.cell? ⟨gb128,1,none⟩=some (.bool false):=(blk_cell BK128.out 1).trans rfl;have hcz11_2:w6.cell? ⟨gb128,2,none⟩=some (.int .i64 0):=(blk_cell BK128.out 2).trans rfl;have hcz11_3:w6.cell? ⟨gb128,3,none⟩=some (.int .i64 0):=(blk_cell BK128.out 3).trans rfl;have hcz11_4:w6.cell? ⟨gb128,4,none⟩=some (.int .i64 0):=(blk_cell BK128.out 4).trans rfl;have hcz11_5:w6.cell? ⟨gb128,5,none⟩=some (.int .i64 0):=(blk_cell BK128.out 5).trans rfl;have hcz11_6:w6.cell? ⟨gb128,6,none⟩=some (.int .i64 0):=(blk_cell BK128.out 6).trans rfl;have hcz11_7:w6.cell? ⟨gb128,7,none⟩=some (.int .i64 0):=(blk_cell BK128.out 7).trans rfl;have hcz11_8:w6.cell? ⟨gb128,8,none⟩=some (.int .i64 0):=(blk_cell BK128.out 8).trans rfl;have hcz11_9:w6.cell? ⟨gb128,9,none⟩=some (.int .i64 0):=(blk_cell BK128.out 9).trans rfl;have hfz11_0:=blk_frozen BK128.out 0;have hfz11_1:=blk_frozen BK128.out 1;have hfz11_2:=blk_frozen BK128.out 2;have hfz11_3:=blk_frozen BK128.out 3;have hfz11_4:=blk_frozen BK128.out 4;have hfz11_5:=blk_frozen BK128.out 5;have hfz11_6:=blk_frozen BK128.out 6;have hfz11_7:=blk_frozen BK128.out 7;have hfz11_8:=blk_frozen BK128.out 8;have hfz11_9:=blk_frozen BK128.out 9)|((with_reducible refine gate_callee (f:=39) rfl ?_);refine goesL_ (some 12) rfl rfl Tryz.func39 (by kernel_rfl) rfl #[.agg #[.int .i64 a0_2,.int .i64 a0_3,.int .i64 a0_4,.int .i64 a0_5]] rfl zar ?_;(with_reducible refine (laws_toCell.calls a0_2 a0_3 a0_4 a0_5 t129 t130 t131 t132 _ A2.out).mono ?_);rintro e w12 ⟨rfl,hb⟩;refine ⟨_,rfl,?_⟩;have n0_:=Aside0.mk (blk_below (g:=gb126) (o:=.cells #[.int .i64 a0_0,.bool a0_1,.int .i64 a0_2,.int .i64 a0_3,.int .i64 a0_4,.int .i64 a0_5,.int .i64 a0_6,.int .i64 a0_7,.int .i64 a0_8,.int .i64 a0_9] 25 (0,0)) (by (with_reducible repeat (first|refine blk_drewN ?_ _|refine blk_drew ?_|refine blk_alloc ?_ _));refine blk_far ?_ NB126_128.out _;(with_reducible repeat (first|refine blk_drewN ?_ _|refine blk_drew ?_|refine blk_alloc ?_ _));refine blk_far ?_ NB126_128.out _;(with_reducible repeat (first|refine blk_drewN ?_ _|refine blk_drew ?_|refine blk_alloc ?_ _));exact BK126.out) hb);have n1_:=Aside0.mk (blk_below (g:=gb127) (o:=.cells #[.int .i64 0,.bool false,.int .i64 0,.int .i64 0,.int .i64 0,.int .i64 0,.int .i64 0,.int .i64 0,.int .i64 0,.int .i64 0] 35 (0,0)) (by (with_reducible repeat (first|refine blk_drewN ?_ _|refine blk_drew ?_|refine blk_alloc ?_ _));refine blk_far ?_ NB127_128.out _;(with_reducible repeat (first|refine blk_drewN ?_ _|refine blk_drew ?_|refine blk_alloc ?_ _));refine blk_far ?_ NB127_128.out _;(with_reducible repeat (first|refine blk_drewN ?_ _|refine blk_drew ?_|refine blk_alloc ?_ _));exact BK127.out) hb);have n2_:=Aside0.mk (blk_below (g:=gb128) (o:=.cells #[.int .i64 a0_0,.bool a0_1,.int .i64 0,.int .i64 0,.int .i64 0,.int .i64 0,.int .i64 0,.int .i64 0,.int .i64 0,.int .i64 0] 35 (0,0)) (by (with_reducible repeat (first|refine blk_drewN ?_ _|refine blk_drew ?_|refine blk_alloc ?_ _));refine blk_put (cs:=#[.int .i64 a0_0,.bool false,.int .i64 0,.int .i64 0,.int .i64 0,.int .i64 0,.int .i64 0,.int .i64 0,.int .i64 0,.int .i64 0]) ?_ 1 _ rfl;(with_reducible repeat (first|refine blk_drewN ?_ _|refine blk_drew ?_|refine blk_alloc ?_ _));refine blk_put (cs:=#[.int .i64 0,.bool false,.int .i64 0,.int .i64 0,.int .i64 0,.int .i64 0,.int .i64 0,.int .i64 0,.int .i64 0,.int .i64 0]) ?_ 0 _ rfl;(with_reducible repeat (first|refine blk_drewN ?_ _|refine blk_drew ?_|refine blk_alloc ?_ _));exact BK128.out) hb);have n3_:=Aside0.mk (below_step (by repeat (first|(with_reducible first|exact HB.out|apply below_alloc|apply pw_below_drewN|apply below_drew1|refine below_set ?_ GE126.out|refine below_set ?_ GE127.out|refine below_set ?_ GE128.out)|exact HB.out)) hb);clear BK126;clear BK127;clear BK128;clear HB;have BK126:=n0_;have BK127:=n1_;have BK128:=n2_;have HB:=n3_;clear n0_ n1_ n2_ n3_;(try clear hb);(try clear hb2);(try clear hk);(try clear hi);have hcz13_0:w12.cell? ⟨gb128,0,none⟩=some (.int .i64 a0_0):=(blk_cell BK128.out 0).trans rfl;have hcz13_1:w12.cell? ⟨gb128,1,none⟩=some (.bool a0_1):=(blk_cell BK128.out 1).trans rfl;have hcz13_2:w12.cell? ⟨gb128,2,none⟩=some (.int .i64 0):=(blk_cell BK128.out 2).trans rfl;have hcz13_3:w12.cell? ⟨gb128,3,none⟩=some (.int .i64 0):=(blk_cell BK128.out 3).trans rfl;have hcz13_4:w12.cell? ⟨gb128,4,none⟩=some (.int .i64 0):=(blk_cell BK128.out 4).trans rfl;have hcz13_5:w12.cell? ⟨gb128,5,none⟩=some (.int .i64 0):=(blk_cell BK128.out 5).trans rfl;have hcz13_6:w12.cell? ⟨gb128,6,none⟩=some (.int .i64 0):=(blk_cell BK128.out 6).trans rfl;have hcz13_7:w12.cell? ⟨gb128,7,none⟩=some (.int .i64 0):=(blk_cell BK128.out 7).trans rfl;have hcz13_8:w12.cell? ⟨gb128,8,none⟩=some (.int .i64 0):=(blk_cell BK128.out 8).trans rfl;have hcz13_9:w12.cell? ⟨gb128,9,none⟩=some (.int .i64 0):=(blk_cell BK128.out 9).trans rfl;have hfz13_0:=blk_frozen BK128.out 0;have hfz13_1:=blk_frozen BK128.out 1;have hfz13_2:=blk_frozen BK128.out 2;have hfz13_3:=blk_frozen BK128.out 3;have hfz13_4:=blk_frozen BK128.out 4;have hfz13_5:=blk_frozen BK128.out 5;have hfz13_6:=blk_frozen BK128.out 6;have hfz13_7:=blk_frozen BK128.out 7;have hfz13_8:=blk_frozen BK128.out 8;have hfz13_9:=blk_frozen BK128.out 9;have hcz14_0:w12.cell? ⟨gb126,0,none⟩=some (.int .i64 a0_0):=(blk_cell BK126.out 0).trans rfl;have hcz14_1:w12.cell? ⟨gb126,1,none⟩=some (.bool a0_1):=(blk_cell BK126.out 1).trans rfl;have hcz14_2:w12.cell? ⟨gb126,2,none⟩=some (.int .i64 a0_2):=(blk_cell BK126.out 2).trans rfl;have hcz14_3:w12.cell? ⟨gb126,3,none⟩=some (.int .i64 a0_3):=(blk_cell BK126.out 3).trans rfl;have hcz14_4:w12.cell? ⟨gb126,4,none⟩=some (.int .i64 a0_4):=(blk_cell BK126.out 4).trans rfl;have hcz14_5:w12.cell? ⟨gb126,5,none⟩=some (.int .i64 a0_5):=(blk_cell BK126.out 5).trans rfl;have hcz14_6:w12.cell? ⟨gb126,6,none⟩=some (.int .i64 a0_6):=(blk_cell BK126.out 6).trans rfl;have hcz14_7:w12.cell? ⟨gb126,7,none⟩=some (.int .i64 a0_7):=(blk_cell BK126.out 7).trans rfl;have hcz14_8:w12.cell? ⟨gb126,8,none⟩=some (.int .i64 a0_8):=(blk_cell BK126.out 8).trans rfl;have hcz14_9:w12.cell? ⟨gb126,9,none⟩=some (.int .i64 a0_9):=(blk_cell BK126.out 9).trans rfl;have hfz14_0:=blk_frozen BK126.out 0;have hfz14_1:=blk_frozen BK126.out 1;have hfz14_2:=blk_frozen BK126.out 2;have hfz14_3:=blk_frozen BK126.out 3;have hfz14_4:=blk_frozen BK126.out 4;have hfz14_5:=blk_frozen BK126.out 5;have hfz14_6:=blk_frozen BK126.out 6;have hfz14_7:=blk_frozen BK126.out 7;have hfz14_8:=blk_frozen BK126.out 8;have hfz14_9:=blk_frozen BK126.out 9)|((with_reducible refine gate_callee (f:=39) rfl ?_);refine goesL_ (some 16) rfl rfl Tryz.func39 (by kernel_rfl) rfl #[.agg #[.int .i64 a0_6,.int .i64 a0_7,.int .i64 a0_8,.int .i64 a0_9]] rfl zar ?_;(with_reducible refine (laws_toCell.calls a0_6 a0_7 a0_8 a0_9 t133 t134 t135 t136 _ A3.out).mono ?_);rintro e w15 ⟨rfl,hb⟩;refine ⟨_,rfl,?_⟩;have n0_:=Aside0.mk (blk_below (g:=gb126) (o:=.cells #[.int .i64 a0_0,.bool a0_1,.int .i64 a0_2,.int .i64 a0_3,.int .i64 a0_4,.int .i64 a0_5,.int .i64 a0_6,.int .i64 a0_7,.int .i64 a0_8,.int .i64 a0_9] 25 (0,0)) (by (with_reducible repeat (first|refine blk_drewN ?_ _|refine blk_drew ?_|refine blk_alloc ?_ _));refine blk_far ?_ NB126_128.out _;(with_reducible repeat (first|refine blk_drewN ?_ _|refine blk_drew ?_|refine blk_alloc ?_ _));refine blk_far ?_ NB126_128.out _;(with_reducible repeat (first|refine blk_drewN ?_ _|refine blk_drew ?_|refine blk_alloc ?_ _));refine blk_far ?_ NB126_128.out _;(with_reducible repeat (first|refine blk_drewN ?_ _|refine blk_drew ?_|refine blk_alloc ?_ _));refine blk_far ?_ NB126_128.out _;(with_reducible repeat (first|refine blk_drewN ?_ _|refine blk_drew ?_|refine blk_alloc ?_ _));exact BK126.out) hb);have n1_:=Aside0.mk (blk_below (g:=gb127) (o:=.cells #[.int .i64 0,.bool false,.int .i64 0,.int .i64 0,.int .i64 0,.int .i64 0,.int .i64 0,.int .i64 0,.int .i64 0,.int .i64 0] 35 (0,0)) (by (with_reducible repeat (first|refine blk_drewN ?_ _|refine blk_drew ?_|refine blk_alloc ?_ _));refine blk_far ?_ NB127_128.out _;(with_reducible repeat (first|refine blk_drewN ?_ _|refine blk_drew ?_|refine blk_alloc ?_ _));refine blk_far ?_ NB127_128.out _;(with_reducible repeat (first|refine blk_drewN ?_ _|refine blk_drew ?_|refine blk_alloc ?_ _));refine blk_far ?_ NB127_128.out _;(with_reducible repeat (first|refine blk_drewN ?_ _|refine blk_drew ?_|refine blk_alloc ?_ _));refine blk_far ?_ NB127_128.out _;(with_reducible repeat (first|refine blk_drewN ?_ _|refine blk_drew ?_|refine blk_alloc ?_ _));exact BK127.out) hb);have n2_:=Aside0.mk (blk_below (g:=gb128) (o:=.cells #[.int .i64 a0_0,.bool a0_1,.int .i64 t129,.int .i64 t130,.int .i64 t131,.int .i64 t132,.int .i64 0,.int .i64 0,.int .i64 0,.int .i64 0] 35 (0,0)) (by (with_reducible repeat (first|refine blk_drewN ?_ _|refine blk_drew ?_|refine blk_alloc ?_ _));refine blk_put (cs:=#[.int .i64 a0_0,.bool a0_1,.int .i64 t129,.int .i64 t130,.int .i64 t131,.int .i64 0,.int .i64 0,.int .i64 0,.int .i64 0,.int .i64 0]) ?_ 5 _ rfl;(with_reducible repeat (first|refine blk_drewN ?_ _|refine blk_drew ?_|refine blk_alloc ?_ _));refine blk_put (cs:=#[.int .i64 a0_0,.bool a0_1,.int .i64 t129,.int .i64 t130,.int .i64 0,.int .i64 0,.int .i64 0,.int .i64 0,.int .i64 0,.int .i64 0]) ?_ 4 _ rfl;(with_reducible repeat (first|refine blk_drewN ?_ _|refine blk_drew ?_|refine blk_alloc ?_ _));refine blk_put (cs:=#[.int .i64 a0_0,.bool a0_1,.int .i64 t129,.int .i64 0,.int .i64 0,.int .i64 0,.int .i64 0,.int .i64 0,.int .i64 0,.int .i64 0]) ?_ 3 _ rfl;(with_reducible repeat (first|refine blk_drewN ?_ _|refine blk_drew ?_|refine blk_alloc ?_ _));refine blk_put (cs:=#[.int .i64 a0_0,.bool a0_1,.int .i64 0,.int .i64 0,.int .i64 0,.int .i64 0,.int .i64 0,.int .i64 0,.int .i64 0,.int .i64 0]) ?_ 2 _ rfl;(with_reducible repeat (first|refine blk_drewN ?_ _|refine blk_drew ?_|refine blk_alloc ?_ _));exact BK128.out) hb);have n3_:=Aside0.mk (below_step (by repeat (first|(with_reducible first|exact HB.out|apply below_alloc|apply pw_below_drewN|apply below_drew1|refine below_set ?_ GE126.out|refine below_set ?_ GE127.out|refine below_set ?_ GE128.out)|exact HB.out)) hb);clear BK126;clear BK127;clear BK128;clear HB;have BK126:=n0_;have BK127:=n1_;have BK128:=n2_;have HB:=n3_;clear n0_ n1_ n2_ n3_;(try clear hb);(try clear hb2);(try clear hk);(try clear hi);have hcz16_0:w15.cell? ⟨gb128,0,none⟩=some (.int .i64 a0_0):=(blk_cell BK128.out 0).trans rfl;have hcz16_1:w15.cell? ⟨gb128,1,none⟩=some (.bool a0_1):=(blk_cell BK128.out 1).trans rfl;have hcz16_2:w15.cell? ⟨gb128,2,none⟩=some (.int .i64 t129):=(blk_cell BK128.out 2).trans rfl;have hcz16_3:w15.cell? ⟨gb128,3,none⟩=some (.int .i64 t130):=(blk_cell BK128.out 3).trans rfl;have hcz16_4:w15.cell? ⟨gb128,4,none⟩=some (.int .i64 t131):=(blk_cell BK128.out 4).trans rfl;have hcz16_5:w15.cell? ⟨gb128,5,none⟩=some (.int .i64 t132):=(blk_cell BK128.out 5).trans rfl;have hcz16_6:w15.cell? ⟨gb128,6,none⟩=some (.int .i64 0):=(blk_cell BK128.out 6).trans rfl;have hcz16_7:w15.cell? ⟨gb128,7,none⟩=some (.int .i64 0):=(blk_cell BK128.out 7).trans rfl;have hcz16_8:w15.cell? ⟨gb128,8,none⟩=some (.int .i64 0):=(blk_cell BK128.out 8).trans rfl;have hcz16_9:w15.cell? ⟨gb128,9,none⟩=some (.int .i64 0):=(blk_cell BK128.out 9).trans rfl;have hfz16_0:=blk_frozen BK128.out 0;have hfz16_1:=blk_frozen BK128.out 1;have hfz16_2:=blk_frozen BK128.out 2;have hfz16_3:=blk_frozen BK128.out 3;have hfz16_4:=blk_frozen BK128.out 4;have hfz16_5:=blk_frozen BK128.out 5;have hfz16_6:=blk_frozen BK128.out 6;have hfz16_7:=blk_frozen BK128.out 7;have hfz16_8:=blk_frozen BK128.out 8;have hfz16_9:=blk_frozen BK128.out 9;have hcz17_0:w15.cell? ⟨gb127,0,none⟩=some (.int .i64 0):=(blk_cell BK127.out 0).trans rfl;have hcz17_1:w15.cell? ⟨gb127,1,none⟩=some (.bool false):=(blk_cell BK127.out 1).trans rfl;have hcz17_2:w15.cell? ⟨gb127,2,none⟩=some (.int .i64 0):=(blk_cell BK127.out 2).trans rfl;have hcz17_3:w15.cell? ⟨gb127,3,none⟩=some (.int .i64 0):=(blk_cell BK127.out 3).trans rfl;have hcz17_4:w15.cell? ⟨gb127,4,none⟩=some (.int .i64 0):=(blk_cell BK127.out 4).trans rfl;have hcz17_5:w15.cell? ⟨gb127,5,none⟩=some (.int .i64 0):=(blk_cell BK127.out 5).trans rfl;have hcz17_6:w15.cell? ⟨gb127,6,none⟩=some (.int .i64 0):=(blk_cell BK127.out 6).trans rfl;have hcz17_7:w15.cell? ⟨gb127,7,none⟩=some (.int .i64 0):=(blk_cell BK127.out 7).trans rfl;have hcz17_8:w15.cell? ⟨gb127,8,none⟩=some (.int .i64 0):=(blk_cell BK127.out 8).trans rfl;have hcz17_9:w15.cell? ⟨gb127,9,none⟩=some (.int .i64 0):=(blk_cell BK127.out 9).trans rfl;have hfz17_0:=blk_frozen BK127.out 0;have hfz17_1:=blk_frozen BK127.out 1;have hfz17_2:=blk_frozen BK127.out 2;have hfz17_3:=blk_frozen BK127.out 3;have hfz17_4:=blk_frozen BK127.out 4;have hfz17_5:=blk_frozen BK127.out 5;have hfz17_6:=blk_frozen BK127.out 6;have hfz17_7:=blk_frozen BK127.out 7;have hfz17_8:=blk_frozen BK127.out 8;have hfz17_9:=blk_frozen BK127.out 9))
 refine bodyPost_ret (results_cell_row rfl _ _ gb127 35 #[.int .i64 a0_0,.bool a0_1,.int .i64 t129,.int .i64 t130,.int .i64 t131,.int .i64 t132,.int .i64 t133,.int .i64 t134,.int .i64 t135,.int .i64 t136] (0,0) _ rfl (by (with_reducible repeat (first|refine blk_drewN ?_ _|refine blk_drew ?_|refine blk_alloc ?_ _));refine blk_put (cs:=#[.int .i64 a0_0,.bool a0_1,.int .i64 t129,.int .i64 t130,.int .i64 t131,.int .i64 t132,.int .i64 t133,.int .i64 t134,.int .i64 t135,.int .i64 0]) ?_ 9 _ rfl;(with_reducible repeat (first|refine blk_drewN ?_ _|refine blk_drew ?_|refine blk_alloc ?_ _));refine blk_put (cs:=#[.int .i64 a0_0,.bool a0_1,.int .i64 t129,.int .i64 t130,.int .i64 t131,.int .i64 t132,.int .i64 t133,.int .i64 t134,.int .i64 0,.int .i64 0]) ?_ 8 _ rfl;(with_reducible repeat (first|refine blk_drewN ?_ _|refine blk_drew ?_|refine blk_alloc ?_ _));refine blk_put (cs:=#[.int .i64 a0_0,.bool a0_1,.int .i64 t129,.int .i64 t130,.int .i64 t131,.int .i64 t132,.int .i64 t133,.int .i64 0,.int .i64 0,.int .i64 0]) ?_ 7 _ rfl;(with_reducible repeat (first|refine blk_drewN ?_ _|refine blk_drew ?_|refine blk_alloc ?_ _));refine blk_put (cs:=#[.int .i64 a0_0,.bool a0_1,.int .i64 t129,.int .i64 t130,.int .i64 t131,.int .i64 t132,.int .i64 0,.int .i64 0,.int .i64 0,.int .i64 0]) ?_ 6 _ rfl;(with_reducible repeat (first|refine blk_drewN ?_ _|refine blk_drew ?_|refine blk_alloc ?_ _));refine blk_put (cs:=#[.int .i64 a0_0,.bool a0_1,.int .i64 t129,.int .i64 t130,.int .i64 t131,.int .i64 0,.int .i64 0,.int .i64 0,.int .i64 0,.int .i64 0]) ?_ 5 _ rfl;(with_reducible repeat (first|refine blk_drewN ?_ _|refine blk_drew ?_|refine blk_alloc ?_ _));refine blk_put (cs:=#[.int .i64 a0_0,.bool a0_1,.int .i64 t129,.int .i64 t130,.int .i64 0,.int .i64 0,.int .i64 0,.int .i64 0,.int .i64 0,.int .i64 0]) ?_ 4 _ rfl;(with_reducible repeat (first|refine blk_drewN ?_ _|refine blk_drew ?_|refine blk_alloc ?_ _));refine blk_put (cs:=#[.int .i64 a0_0,.bool a0_1,.int .i64 t129,.int .i64 0,.int .i64 0,.int .i64 0,.int .i64 0,.int .i64 0,.int .i64 0,.int .i64 0]) ?_ 3 _ rfl;(with_reducible repeat (first|refine blk_drewN ?_ _|refine blk_drew ?_|refine blk_alloc ?_ _));refine blk_put (cs:=#[.int .i64 a0_0,.bool a0_1,.int .i64 0,.int .i64 0,.int .i64 0,.int .i64 0,.int .i64 0,.int .i64 0,.int .i64 0,.int .i64 0]) ?_ 2 _ rfl;(with_reducible repeat (first|refine blk_drewN ?_ _|refine blk_drew ?_|refine blk_alloc ?_ _));refine blk_put (cs:=#[.int .i64 a0_0,.bool false,.int .i64 0,.int .i64 0,.int .i64 0,.int .i64 0,.int .i64 0,.int .i64 0,.int .i64 0,.int .i64 0]) ?_ 1 _ rfl;(with_reducible repeat (first|refine blk_drewN ?_ _|refine blk_drew ?_|refine blk_alloc ?_ _));refine blk_put (cs:=#[.int .i64 0,.bool false,.int .i64 0,.int .i64 0,.int .i64 0,.int .i64 0,.int .i64 0,.int .i64 0,.int .i64 0,.int .i64 0]) ?_ 0 _ rfl;(with_reducible repeat (first|refine blk_drewN ?_ _|refine blk_drew ?_|refine blk_alloc ?_ _));refine blk_far ?_ NB127_128.out _;(with_reducible repeat (first|refine blk_drewN ?_ _|refine blk_drew ?_|refine blk_alloc ?_ _));refine blk_far ?_ NB127_128.out _;(with_reducible repeat (first|refine blk_drewN ?_ _|refine blk_drew ?_|refine blk_alloc ?_ _));refine blk_far ?_ NB127_128.out _;(with_reducible repeat (first|refine blk_drewN ?_ _|refine blk_drew ?_|refine blk_alloc ?_ _));refine blk_far ?_ NB127_128.out _;(with_reducible repeat (first|refine blk_drewN ?_ _|refine blk_drew ?_|refine blk_alloc ?_ _));exact BK127.out) Tryz.underlying35 rfl (by kernel_rfl)) rfl ?_
 exact ⟨by first|rfl|(simp [errW_none,errW_some] <;> rfl)|(simp [*,errW_none,errW_some] <;> rfl),by repeat (first|(with_reducible first|exact HB.out|apply below_alloc|apply pw_below_drewN|apply below_drew1|refine below_set ?_ GE126.out|refine below_set ?_ GE127.out|refine below_set ?_ GE128.out)|exact HB.out)⟩

/-! ### laws_toCellS: function 21 -/
def laws_toCellS.l0:Nat→List (S23)→List (S33)→Int→Option ((List (S33)))
 | 0,_,_,_=>none
 | k + 1,x0,x3,x4=>if x4 < (x0.length:Int) then (if 0≤x4 then ((laws_toCell.f ((rd_T23 x0 x4).f0) ((rd_T23 x0 x4).f1) ((rd_T23 x0 x4).f2) ((rd_T23 x0 x4).f3)).bind fun bt141=>(if x4 < (x3.length:Int) then (laws_toCellS.l0 k x0 (x3.set (x4:Int).toNat (⟨bt141.1,bt141.2.1,bt141.2.2.1,bt141.2.2.2⟩:S33)) (wrap64 (x4 + 1))) else (none))) else (none)) else (some x3)
def laws_toCellS.f (k:Nat) (l0:List (S23)):Option ((List (S33))):=if 0≤(l0.length:Int) then (if ((l0.length:Int):Int).toNat≤8796093022208 then (laws_toCellS.l0 k l0 (List.replicate ((l0.length:Int):Int).toNat z33) 0) else (none)) else (none)
theorem laws_toCellS.mono_l : ∀ k,(∀ y0 y1 y2,LeO (laws_toCellS.l0 k y0 y1 y2) (laws_toCellS.l0 (k + 1) y0 y1 y2))
 | 0=>fun _ _ _ r h=>by simp [laws_toCellS.l0] at h
 | k + 1=>by
  have ih0:=laws_toCellS.mono_l k
  ·intro y0 y1 y2
   unfold laws_toCellS.l0
   repeat' first
   | (with_reducible exact ih0 _ _ _)
   | (with_reducible exact LeO.refl _)
   | (with_reducible exact LeO.none _)
   | (with_reducible refine LeO.ite ?_ ?_)
   | (with_reducible refine LeO.bind ?_ (fun _=>?_))
   | exact LeO.none _
   | refine LeO.ite ?_ ?_
   | refine LeO.bind ?_ (fun _=>?_)
theorem laws_toCellS.mono : ∀ a0 k,LeO (laws_toCellS.f k a0) (laws_toCellS.f (k + 1) a0):=by
 intro a0 k
 have ih0:=laws_toCellS.mono_l k
 unfold laws_toCellS.f
 repeat' first
   | (with_reducible exact ih0 _ _ _)
   | (with_reducible exact LeO.refl _)
   | (with_reducible exact LeO.none _)
   | (with_reducible refine LeO.ite ?_ ?_)
   | (with_reducible refine LeO.bind ?_ (fun _=>?_))
   | exact LeO.none _
   | refine LeO.ite ?_ ?_
   | refine LeO.bind ?_ (fun _=>?_)
set_option maxHeartbeats 8000000 in
set_option maxRecDepth 100000 in
theorem laws_toCellS.calls (k:Nat) (A0:Option Addr) (c0:Nat) (l0:List (S23)) (r:List (S33)) (w:World) (hr0:Kd.C k23 w A0 l0.length l0) (hc0:l0.length≤c0) (h:laws_toCellS.f k l0=some r) :
  Calls Tryz.prog 21 #[.slice A0 l0.length c0] w fun e w'=>∃ v0_:Value,e=.returned (v0_)∧Kd.R k33 33 w' w.heap.size (fun _=>True) v0_ r∧Below w.heap.size w w':=by
 have hu23:=Tryz.underlying23
 have hu33:=Tryz.underlying33
 have HR0:=Aside0.mk hr0
 have HC0:=Aside0.mk hc0
 clear hr0 hc0
 have HB:=Aside0.mk (Below.refl w.heap.size w)
 have H:(if 0≤(l0.length:Int) then (if ((l0.length:Int):Int).toNat≤8796093022208 then (laws_toCellS.l0 k l0 (List.replicate ((l0.length:Int):Int).toNat z33) 0) else (none)) else (none))=some r:=h
 clear h
 by_cases c2:0≤(l0.length:Int)
 ·rw [if_pos c2] at H
  have c2b0:=eq_true c2
  have c2b1:decide (0≤(l0.length:Int))=true:=decide_eq_true c2
  clear c2
  by_cases c3:((l0.length:Int):Int).toNat≤8796093022208
  ·rw [if_pos c3] at H
   have c3b0:=eq_true c3
   have c3b1:decide (((l0.length:Int):Int).toNat≤8796093022208)=true:=decide_eq_true c3
   clear c3
   obtain ⟨y137,hy137⟩ : ∃ y_:List (S33),y_=(List.replicate ((l0.length:Int):Int).toNat z33):=⟨_,rfl⟩
   replace H:(laws_toCellS.l0 k l0 y137 0)=some r:=by first|(rw [hy137];with_reducible exact H)|(have H2_:=(Option.bind_some _ _).symm.trans H;rw [hy137];with_reducible exact H2_)|(have H2_:=(Option.bind_some _ _).symm.trans H;with_reducible exact H2_)|with_reducible exact H|(rw [hy137];exact H)|exact H
   have Ny137:=Aside0.mk hy137
   clear hy137
   have H':=Aside0.mk H
   clear H
   go_enter Tryz.func21,Tryz.ntmps21
   go_wp2_with (first|((with_reducible refine gate_dst (N:=7) rfl ?_);refine Kd.R_make k33 _ 33 rfl (N:=7) rfl 36 _ _ rfl (l0.length:Int) rfl rfl Tryz.underlying36 (.agg #[(.int .i64 0),(.int .i64 0),(.int .i64 0),(.int .i64 0)]) 32 info33 rfl (by decide) (by omega) z33 (ok:=fun _=>True) (okp:=fun _=>True) (k33_mkM _ _ _ z33 ) (fun _ hk=>hk) trivial (zod) (Nat.le_trans (Nat.mul_le_mul_right _ (zod:(l0.length:Int).toNat≤8796093022208)) (by omega)) (Below.refl _ _) (Nat.le_refl _) ?_;intro v138 w4 ho5 hb hg_ hnew_;clear hg_ hnew_;(first|rw [← Ny137.out] at ho5|(simp only [Int.reduceToNat] at ho5;rw [← Ny137.out] at ho5));have n0_:=Aside0.mk (Kd.R_lower ho5 (below_size zhb));have n1_:=Aside0.mk (below_step zhb hb);clear HB;have HO139:=n0_;have HB:=n1_;clear n0_ n1_;clear hb ho5))
   go_loopg [4] k (fun kq v4 w'=>∃ (x3_1:List (S33)) (x4_1:Int),v4=.int .i64 x4_1∧Aside0 (laws_toCellS.l0 kq l0 x3_1 x4_1=some r)∧Aside0 (kq≤k)∧Aside0 (Kd.R k33 33 w' w.heap.size (fun _=>True) v138 x3_1)∧Aside0 (Below w.heap.size w w'))
   case atStart=>exact ⟨(y137),(0),(by first|rfl|(simp;done)|(simp [*];done)),H',⟨Nat.le_refl _⟩,⟨by (with_reducible repeat (first|apply Kd.R_alloc|apply Kd.R_drewN|apply Kd.R_drew));exact HO139.out⟩,⟨zhb⟩⟩
   case round =>
    clear H'
    try clear c2
    try clear c2b0
    try clear c2b1
    try clear p2
    try clear c3
    try clear c3b0
    try clear c3b1
    obtain ⟨x3_1,x4_1,rfl,HA,HK1,HO_3,HB⟩:=hrel
    cases gk with
    | zero=>exact absurd HA.out (by simp [laws_toCellS.l0])
    | succ k1 =>
     have H:=HA.out
     clear HA
     simp only [laws_toCellS.l0] at H
     by_cases c6:x4_1 < (l0.length:Int)
     ·rw [if_pos c6] at H
      have c6b0:decide (x4_1 < (l0.length:Int))=true:=decide_eq_true c6
      clear c6
      by_cases c7:0≤x4_1
      ·rw [if_pos c7] at H
       have c7b0:decide (0≤x4_1)=true:=decide_eq_true c7
       clear c7
       replace H:=Option.bind_eq_some_iff.mp H
       obtain ⟨⟨t141,t142,t143,t144⟩,A80,H⟩:=H
       (try dsimp only at H)
       have A8:=Aside0.mk A80
       clear A80
       by_cases c9:x4_1 < (x3_1.length:Int)
       ·rw [if_pos c9] at H
        have c9b0:decide (x4_1 < (x3_1.length:Int))=true:=decide_eq_true c9
        clear c9
        obtain ⟨y145,hy145⟩ : ∃ y_:List (S33),y_=(x3_1.set (x4_1:Int).toNat (⟨t141,t142,t143,t144⟩:S33)):=⟨_,rfl⟩
        replace H:(laws_toCellS.l0 k1 l0 y145 (wrap64 (x4_1 + 1)))=some r:=by first|(rw [hy145];with_reducible exact H)|(have H2_:=(Option.bind_some _ _).symm.trans H;rw [hy145];with_reducible exact H2_)|(have H2_:=(Option.bind_some _ _).symm.trans H;with_reducible exact H2_)|with_reducible exact H|(rw [hy145];exact H)|exact H
        have Ny145:=Aside0.mk hy145
        clear hy145
        have H':=Aside0.mk H
        clear H
        have p140:0≤(x4_1:Int):=zod
        have q140:x4_1 < (l0.length:Int):=zod
        obtain ⟨ad140,e140,hx140_0,hx140_1,hx140_2,hx140_3⟩:=at_T23 HR0.out x4_1 p140 q140
        cases e140
        replace hx140_0:=(HB.out.cell (World.block_lt_of_cell? w _ hx140_0)).trans hx140_0
        replace hx140_1:=(HB.out.cell (World.block_lt_of_cell? w _ hx140_1)).trans hx140_1
        replace hx140_2:=(HB.out.cell (World.block_lt_of_cell? w _ hx140_2)).trans hx140_2
        replace hx140_3:=(HB.out.cell (World.block_lt_of_cell? w _ hx140_3)).trans hx140_3
        replace p140:=eq_true p140
        replace q140:=eq_true q140
        go_wp2_with (first|((with_reducible refine gate_callee (f:=39) rfl ?_);refine goesL_ (some 20) rfl rfl Tryz.func39 (by kernel_rfl) rfl #[.agg #[.int .i64 ((rd_T23 l0 x4_1).f0),.int .i64 ((rd_T23 l0 x4_1).f1),.int .i64 ((rd_T23 l0 x4_1).f2),.int .i64 ((rd_T23 l0 x4_1).f3)]] rfl zar ?_;(with_reducible refine (laws_toCell.calls ((rd_T23 l0 x4_1).f0) ((rd_T23 l0 x4_1).f1) ((rd_T23 l0 x4_1).f2) ((rd_T23 l0 x4_1).f3) t141 t142 t143 t144 _ A8.out).mono ?_);rintro e w11 ⟨rfl,hb⟩;refine ⟨_,rfl,?_⟩;have n0_:=Aside0.mk (Kd.R_below (by (with_reducible repeat (first|apply Kd.R_alloc|apply Kd.R_drewN|apply Kd.R_drew));exact HO_3.out) hb);have n1_:=Aside0.mk (below_step zhb hb);clear HO_3;clear HB;have HO_3:=n0_;have HB:=n1_;clear n0_ n1_;(try clear hb);(try clear hb2);(try clear hk);(try clear hi);have p10:0≤(x4_1:Int):=zod;have q10:(x4_1:Int) < ((x3_1.length:Int):Int):=zod;obtain ⟨go10,co10,eo10,gb10,gl10,cl10,HG10⟩:=Kd.R_form HO_3.out (by omega);(first|cases eo10|(injection eo10 with ea_ en_ ec_;(first|subst ea_|(injection ea_ with ea_;subst ea_));subst ec_;clear en_));have GB10:=Aside0.mk gb10;have GG10:=Aside0.mk HG10;clear gb10 gl10 HG10;obtain ⟨ce10,hcl10,hM10,hcc10,hfr10⟩:=Kd.R_elem HO_3.out z33 (x4_1:Int) p10 q10;obtain rfl:=k33_openM hM10;have hx10_0:w11.cell? ⟨go10,(x4_1:Int).toNat * 4,none⟩=some (.int .i64 ((rd_T33 x3_1 x4_1).f0)):=hcc10 0 _ rfl;have hx10_1:w11.cell? ⟨go10,(x4_1:Int).toNat * 4 + 1,none⟩=some (.int .i64 ((rd_T33 x3_1 x4_1).f1)):=hcc10 1 _ rfl;have hx10_2:w11.cell? ⟨go10,(x4_1:Int).toNat * 4 + 2,none⟩=some (.int .i64 ((rd_T33 x3_1 x4_1).f2)):=hcc10 2 _ rfl;have hx10_3:w11.cell? ⟨go10,(x4_1:Int).toNat * 4 + 3,none⟩=some (.int .i64 ((rd_T33 x3_1 x4_1).f3)):=hcc10 3 _ rfl;have hf10_0:w11.frozen? ⟨go10,(x4_1:Int).toNat * 4,none⟩=false:=hfr10 0;have hf10_1:w11.frozen? ⟨go10,(x4_1:Int).toNat * 4 + 1,none⟩=false:=hfr10 1;have hf10_2:w11.frozen? ⟨go10,(x4_1:Int).toNat * 4 + 2,none⟩=false:=hfr10 2;have hf10_3:w11.frozen? ⟨go10,(x4_1:Int).toNat * 4 + 3,none⟩=false:=hfr10 3;clear hcl10 hcc10 hfr10 hM10;replace p10:=eq_true p10;replace q10:=eq_true q10;have HX12:=Aside0.mk (show Kd.R k33 33 w11 w.heap.size (fun _=>True) (.slice (some ⟨go10,0,none⟩) x3_1.length co10) x3_1 from (by (with_reducible repeat (first|apply Kd.R_alloc|apply Kd.R_drewN|apply Kd.R_drew));exact HO_3.out));obtain ⟨ce12,hcl12,hM12,hcc12,hfr12⟩:=Kd.R_elem HX12.out z33 (x4_1:Int) (zod) (by have h_:(x4_1:Int) < ((x3_1.length:Int):Int):=zod;first|exact h_|(have e_:=(Kd.R_reads' HO_3.out).1;omega)|simpa using h_);obtain rfl:=k33_openM hM12;have HP12:=Kd.R_seg HX12.out (x4_1:Int) (zod) (by have h_:(x4_1:Int) < ((x3_1.length:Int):Int):=zod;first|exact h_|(have e_:=(Kd.R_reads' HO_3.out).1;omega)|simpa using h_) (seg:=[.int .i64 t141,.int .i64 t142,.int .i64 t143,.int .i64 t144]) (j:=0) hcl12 hcc12 (show 4≤4 from by decide) (x':=(⟨t141,t142,t143,t144⟩:S33)) (k33_mkM _ _ _ (⟨t141,t142,t143,t144⟩:S33) ) (fun _ hk=>hk);have hx12_0:=hcc12 0 _ rfl;(try simp only [show (k33).sz=4 from rfl,Nat.mul_one,Nat.add_zero] at hx12_0);have hf12_0:=hfr12 0;(try simp only [show (k33).sz=4 from rfl,Nat.mul_one,Nat.add_zero] at hf12_0);have hx12_1:=hcc12 1 _ rfl;(try simp only [show (k33).sz=4 from rfl,Nat.mul_one,Nat.add_zero] at hx12_1);have hf12_1:=hfr12 1;(try simp only [show (k33).sz=4 from rfl,Nat.mul_one,Nat.add_zero] at hf12_1);have hx12_2:=hcc12 2 _ rfl;(try simp only [show (k33).sz=4 from rfl,Nat.mul_one,Nat.add_zero] at hx12_2);have hf12_2:=hfr12 2;(try simp only [show (k33).sz=4 from rfl,Nat.mul_one,Nat.add_zero] at hf12_2);have hx12_3:=hcc12 3 _ rfl;(try simp only [show (k33).sz=4 from rfl,Nat.mul_one,Nat.add_zero] at hx12_3);have hf12_3:=hfr12 3;(try simp only [show (k33).sz=4 from rfl,Nat.mul_one,Nat.add_zero] at hf12_3);clear hcl12 hcc12 hfr12 hM12)|((with_reducible refine gate_store (t:=33) (p:=21) rfl ?_);refine store_event (t:=33) (p:=21) (v:=?vo_w13) (w1:=((((w11.setCell ⟨go10,(x4_1:Int).toNat * 4,none⟩ (.int .i64 t141)).setCell ⟨go10,(x4_1:Int).toNat * 4 + 1,none⟩ (.int .i64 t142)).setCell ⟨go10,(x4_1:Int).toNat * 4 + 2,none⟩ (.int .i64 t143)).setCell ⟨go10,(x4_1:Int).toNat * 4 + 3,none⟩ (.int .i64 t144))) ?hg ?ho ?hn ?hr ?_;(case ho=>rfl);(case hg=>rfl);(case hn=>rfl);(case hr=>first|(go_simp;done)|(go_simp;rfl));intro w13 hw;have hg:w11.grownBy w13 (some go10):=(by rw [hw];exact HP12.2);have hp_:Kd.R k33 33 w13 w.heap.size (fun _=>True) (.slice (some ⟨go10,0,none⟩) x3_1.length co10) y145:=(by rw [hw,Ny145.out];exact HP12.1);clear HP12;have n0_:=Aside0.mk (hp_);have n1_:=Aside0.mk ((by rw [hw];exact below_set (below_set (below_set (below_set (HB.out) GB10.out) GB10.out) GB10.out) GB10.out:Below w.heap.size w w13));clear HO_3;clear HB;have HO_3:=n0_;have HB:=n1_;clear n0_ n1_;clear hg hw hp_))
        go_roundg k1
        case measure=>have:=HK1.out;omega
        case rel=>exact ⟨(y145),(wrap64 (x4_1 + 1)),(by first|rfl|(simp;done)|(simp [*];done)),H',⟨by have:=HK1.out;omega⟩,⟨by (with_reducible repeat (first|apply Kd.R_alloc|apply Kd.R_drewN|apply Kd.R_drew));exact HO_3.out⟩,⟨zhb⟩⟩
       ·rw [if_neg c9] at H
        exact absurd H (by simp)
      ·rw [if_neg c7] at H
       exact absurd H (by simp)
     ·rw [if_neg c6] at H
      have c6b0:decide (x4_1 < (l0.length:Int))=false:=decide_eq_false c6
      clear c6
      obtain rfl:=Option.some.inj H
      go_wp2
      go_ret
      exact ⟨_,by first|rfl|(simp [errW_none,errW_some] <;> rfl)|(simp [*,errW_none,errW_some] <;> rfl),by (with_reducible repeat (first|apply Kd.R_alloc|apply Kd.R_drewN|apply Kd.R_drew));exact HO_3.out,zhb⟩
  ·rw [if_neg c3] at H
   exact absurd H (by simp)
 ·rw [if_neg c2] at H
  exact absurd H (by simp)

/-! ### laws_toIntS: function 22 -/
def laws_toIntS.l0:Nat→List Int→List Int→Int→Option (List Int)
 | 0,_,_,_=>none
 | k + 1,x0,x3,x4=>if x4 < (x0.length:Int) then (if 0≤x4 then (if x4 < (x3.length:Int) then (laws_toIntS.l0 k x0 (x3.set (x4:Int).toNat (rd x0 x4)) (wrap64 (x4 + 1))) else (none)) else (none)) else (some x3)
def laws_toIntS.f (k:Nat) (l0:List Int):Option (List Int):=if 0≤(l0.length:Int) then (if ((l0.length:Int):Int).toNat≤35184372088832 then (laws_toIntS.l0 k l0 (List.replicate ((l0.length:Int):Int).toNat 0) 0) else (none)) else (none)
theorem laws_toIntS.mono_l : ∀ k,(∀ y0 y1 y2,LeO (laws_toIntS.l0 k y0 y1 y2) (laws_toIntS.l0 (k + 1) y0 y1 y2))
 | 0=>fun _ _ _ r h=>by simp [laws_toIntS.l0] at h
 | k + 1=>by
  have ih0:=laws_toIntS.mono_l k
  ·intro y0 y1 y2
   unfold laws_toIntS.l0
   repeat' first
   | (with_reducible exact ih0 _ _ _)
   | (with_reducible exact LeO.refl _)
   | (with_reducible exact LeO.none _)
   | (with_reducible refine LeO.ite ?_ ?_)
   | (with_reducible refine LeO.bind ?_ (fun _=>?_))
   | exact LeO.none _
   | refine LeO.ite ?_ ?_
   | refine LeO.bind ?_ (fun _=>?_)
theorem laws_toIntS.mono : ∀ a0 k,LeO (laws_toIntS.f k a0) (laws_toIntS.f (k + 1) a0):=by
 intro a0 k
 have ih0:=laws_toIntS.mono_l k
 unfold laws_toIntS.f
 repeat' first
   | (with_reducible exact ih0 _ _ _)
   | (with_reducible exact LeO.refl _)
   | (with_reducible exact LeO.none _)
   | (with_reducible refine LeO.ite ?_ ?_)
   | (with_reducible refine LeO.bind ?_ (fun _=>?_))
   | exact LeO.none _
   | refine LeO.ite ?_ ?_
   | refine LeO.bind ?_ (fun _=>?_)
set_option maxHeartbeats 8000000 in
set_option maxRecDepth 100000 in
theorem laws_toIntS.calls (k:Nat) (A0:Option Addr) (c0:Nat) (l0:List Int) (r:List Int) (w:World) (hr0:Kd.C (Kd.int .i64) w A0 l0.length l0) (hc0:l0.length≤c0) (h:laws_toIntS.f k l0=some r) :
  Calls Tryz.prog 22 #[.slice A0 l0.length c0] w fun e w'=>∃ v0_:Value,e=.returned (v0_)∧Kd.R (Kd.int .i64) 3 w' w.heap.size (fun _=>True) v0_ r∧Below w.heap.size w w':=by
 have HR0:=Aside0.mk hr0
 have HC0:=Aside0.mk hc0
 clear hr0 hc0
 have HB:=Aside0.mk (Below.refl w.heap.size w)
 have H:(if 0≤(l0.length:Int) then (if ((l0.length:Int):Int).toNat≤35184372088832 then (laws_toIntS.l0 k l0 (List.replicate ((l0.length:Int):Int).toNat 0) 0) else (none)) else (none))=some r:=h
 clear h
 by_cases c2:0≤(l0.length:Int)
 ·rw [if_pos c2] at H
  have c2b0:=eq_true c2
  have c2b1:decide (0≤(l0.length:Int))=true:=decide_eq_true c2
  clear c2
  by_cases c3:((l0.length:Int):Int).toNat≤35184372088832
  ·rw [if_pos c3] at H
   have c3b0:=eq_true c3
   have c3b1:decide (((l0.length:Int):Int).toNat≤35184372088832)=true:=decide_eq_true c3
   clear c3
   obtain ⟨y146,hy146⟩ : ∃ y_:List Int,y_=(List.replicate ((l0.length:Int):Int).toNat 0):=⟨_,rfl⟩
   replace H:(laws_toIntS.l0 k l0 y146 0)=some r:=by first|(rw [hy146];with_reducible exact H)|(have H2_:=(Option.bind_some _ _).symm.trans H;rw [hy146];with_reducible exact H2_)|(have H2_:=(Option.bind_some _ _).symm.trans H;with_reducible exact H2_)|with_reducible exact H|(rw [hy146];exact H)|exact H
   have Ny146:=Aside0.mk hy146
   clear hy146
   have H':=Aside0.mk H
   clear H
   go_enter Tryz.func22,Tryz.ntmps22
   go_wp2_with (first|((with_reducible refine gate_dst (N:=7) rfl ?_);refine Kd.R_make (Kd.int .i64) _ 3 rfl (N:=7) rfl 27 _ _ rfl (l0.length:Int) rfl rfl Tryz.underlying27 (.int .i64 0) 8 info3 rfl (by decide) (by omega) 0 (ok:=fun _=>True) (okp:=fun _=>True) rfl (fun _ hk=>hk) trivial (zod) (Nat.le_trans (Nat.mul_le_mul_right _ (zod:(l0.length:Int).toNat≤35184372088832)) (by omega)) (Below.refl _ _) (Nat.le_refl _) ?_;intro v147 w4 ho5 hb hg_ hnew_;clear hg_ hnew_;(first|rw [← Ny146.out] at ho5|(simp only [Int.reduceToNat] at ho5;rw [← Ny146.out] at ho5));have n0_:=Aside0.mk (Kd.R_lower ho5 (below_size zhb));have n1_:=Aside0.mk (below_step zhb hb);clear HB;have HO148:=n0_;have HB:=n1_;clear n0_ n1_;clear hb ho5))
   go_loopg [4] k (fun kq v4 w'=>∃ (x3_1:List Int) (x4_1:Int),v4=.int .i64 x4_1∧Aside0 (laws_toIntS.l0 kq l0 x3_1 x4_1=some r)∧Aside0 (kq≤k)∧Aside0 (Kd.R (Kd.int .i64) 3 w' w.heap.size (fun _=>True) v147 x3_1)∧Aside0 (Below w.heap.size w w'))
   case atStart=>exact ⟨(y146),(0),(by first|rfl|(simp;done)|(simp [*];done)),H',⟨Nat.le_refl _⟩,⟨by (with_reducible repeat (first|apply Kd.R_alloc|apply Kd.R_drewN|apply Kd.R_drew));exact HO148.out⟩,⟨zhb⟩⟩
   case round =>
    clear H'
    try clear c2
    try clear c2b0
    try clear c2b1
    try clear p2
    try clear c3
    try clear c3b0
    try clear c3b1
    obtain ⟨x3_1,x4_1,rfl,HA,HK1,HO_3,HB⟩:=hrel
    cases gk with
    | zero=>exact absurd HA.out (by simp [laws_toIntS.l0])
    | succ k1 =>
     have H:=HA.out
     clear HA
     simp only [laws_toIntS.l0] at H
     by_cases c6:x4_1 < (l0.length:Int)
     ·rw [if_pos c6] at H
      have c6b0:decide (x4_1 < (l0.length:Int))=true:=decide_eq_true c6
      clear c6
      by_cases c7:0≤x4_1
      ·rw [if_pos c7] at H
       have c7b0:decide (0≤x4_1)=true:=decide_eq_true c7
       clear c7
       by_cases c8:x4_1 < (x3_1.length:Int)
       ·rw [if_pos c8] at H
        have c8b0:decide (x4_1 < (x3_1.length:Int))=true:=decide_eq_true c8
        clear c8
        obtain ⟨y150,hy150⟩ : ∃ y_:List Int,y_=(x3_1.set (x4_1:Int).toNat (rd l0 x4_1)):=⟨_,rfl⟩
        replace H:(laws_toIntS.l0 k1 l0 y150 (wrap64 (x4_1 + 1)))=some r:=by first|(rw [hy150];with_reducible exact H)|(have H2_:=(Option.bind_some _ _).symm.trans H;rw [hy150];with_reducible exact H2_)|(have H2_:=(Option.bind_some _ _).symm.trans H;with_reducible exact H2_)|with_reducible exact H|(rw [hy150];exact H)|exact H
        have Ny150:=Aside0.mk hy150
        clear hy150
        have H':=Aside0.mk H
        clear H
        have p149:0≤(x4_1:Int):=zod
        have q149:x4_1 < (l0.length:Int):=zod
        obtain ⟨ad149,e149,hx149_0⟩:=Kd.at_int HR0.out x4_1 p149 q149
        cases e149
        replace hx149_0:=(HB.out.cell (World.block_lt_of_cell? w _ hx149_0)).trans hx149_0
        replace p149:=eq_true p149
        replace q149:=eq_true q149
        have p9:0≤(x4_1:Int):=zod
        have q9:(x4_1:Int) < ((x3_1.length:Int):Int):=zod
        obtain ⟨go9,co9,eo9,gb9,gl9,cl9,HG9⟩:=Kd.R_form HO_3.out (by omega)
        (first|cases eo9|(injection eo9 with ea_ en_ ec_;(first|subst ea_|(injection ea_ with ea_;subst ea_));subst ec_;clear en_))
        have GB9:=Aside0.mk gb9
        have GG9:=Aside0.mk HG9
        clear gb9 gl9 HG9
        obtain ⟨hx9_0,hf9_0⟩:=Kd.R_celln 0 HO_3.out (x4_1:Int) p9 q9
        replace p9:=eq_true p9
        replace q9:=eq_true q9
        have HP10:=Kd.R_putg HO_3.out (x4_1:Int) (rd l0 x4_1)
        go_wp2_with (first|((with_reducible refine gate_store (t:=3) (p:=20) rfl ?_);refine store_event (t:=3) (p:=20) (v:=?vo_w11) (w1:=(wr.setCell ⟨go9,(x4_1:Int).toNat,none⟩ (.int .i64 (rd l0 x4_1)))) ?hg ?ho ?hn ?hr ?_;(case ho=>rfl);(case hg=>rfl);(case hn=>rfl);(case hr=>first|(go_simp;done)|(go_simp;rfl));intro w11 hw;have hg:wr.grownBy w11 (some go9):=(by rw [hw];exact HP10.2);have hp_:Kd.R (Kd.int .i64) 3 w11 w.heap.size (fun _=>True) (.slice (some ⟨go9,0,none⟩) x3_1.length co9) y150:=(by rw [hw,Ny150.out];exact HP10.1);clear HP10;have n0_:=Aside0.mk (hp_);have n1_:=Aside0.mk ((by rw [hw];exact below_set (HB.out) GB9.out:Below w.heap.size w w11));clear HO_3;clear HB;have HO_3:=n0_;have HB:=n1_;clear n0_ n1_;clear hg hw hp_))
        go_roundg k1
        case measure=>have:=HK1.out;omega
        case rel=>exact ⟨(y150),(wrap64 (x4_1 + 1)),(by first|rfl|(simp;done)|(simp [*];done)),H',⟨by have:=HK1.out;omega⟩,⟨by (with_reducible repeat (first|apply Kd.R_alloc|apply Kd.R_drewN|apply Kd.R_drew));exact HO_3.out⟩,⟨zhb⟩⟩
       ·rw [if_neg c8] at H
        exact absurd H (by simp)
      ·rw [if_neg c7] at H
       exact absurd H (by simp)
     ·rw [if_neg c6] at H
      have c6b0:decide (x4_1 < (l0.length:Int))=false:=decide_eq_false c6
      clear c6
      obtain rfl:=Option.some.inj H
      go_wp2
      go_ret
      exact ⟨_,by first|rfl|(simp [errW_none,errW_some] <;> rfl)|(simp [*,errW_none,errW_some] <;> rfl),by (with_reducible repeat (first|apply Kd.R_alloc|apply Kd.R_drewN|apply Kd.R_drew));exact HO_3.out,zhb⟩
  ·rw [if_neg c3] at H
   exact absurd H (by simp)
 ·rw [if_neg c2] at H
  exact absurd H (by simp)


/-! ### impl_wideIf: function 37 -/
def impl_wideIf.f (a0:Bool) (a1:Int):Option (Int):=if a0=true then (some a1) else (some (-1))
set_option maxHeartbeats 8000000 in
set_option maxRecDepth 100000 in
theorem impl_wideIf.calls (a0:Bool) (a1:Int) (r:Int) (w:World) (h:impl_wideIf.f a0 a1=some r) :
  Calls Tryz.prog 37 #[.bool a0,.int .i64 a1] w fun e w'=>e=.returned (.int .i64 r)∧Drawn0 w w':=by
 have H:(if a0=true then (some a1) else (some (-1)))=some r:=h
 clear h
 by_cases c3:a0=true
 ·subst c3
  have H1:(some a1)=some r:=by rw [if_pos rfl] at H;exact H
  clear H
  have H:=H1
  clear H1
  obtain rfl:=Option.some.inj H
  go_enter Tryz.func37,Tryz.ntmps37
  go_wp2
  go_ret
  exact ⟨by first|rfl|(simp;done)|(simp [*];done),zdw⟩
 ·replace c3:=Bool.eq_false_iff.mpr c3
  subst c3
  have H1:(some (-1))=some r:=by rw [if_neg (show ¬ (false=true) by decide)] at H;exact H
  clear H
  have H:=H1
  clear H1
  obtain rfl:=Option.some.inj H
  go_enter Tryz.func37,Tryz.ntmps37
  go_wp2
  go_ret
  exact ⟨by first|rfl|(simp;done)|(simp [*];done),zdw⟩

section
attribute [local go_sem high] eqA33
/-! ### slices_Equal_impl_Cell_impl_Cell: function 64 -/
def slices_Equal_impl_Cell_impl_Cell.l0:Nat→List (S33)→List (S33)→Int→Int→Option (Bool)
 | 0,_,_,_,_=>none
 | k + 1,x0,x1,x12,x13=>if x13 < x12 then (if 0≤x13 then (if x13 < (x0.length:Int) then (if x13 < (x1.length:Int) then (if (!(((rd_T33 x0 x13).f0) == ((rd_T33 x1 x13).f0)) || (!(((rd_T33 x0 x13).f1) == ((rd_T33 x1 x13).f1)) || (!(((rd_T33 x0 x13).f2) == ((rd_T33 x1 x13).f2)) || (!(((rd_T33 x0 x13).f3) == ((rd_T33 x1 x13).f3))))))=true then (some false) else (slices_Equal_impl_Cell_impl_Cell.l0 k x0 x1 x12 (wrap64 (x13 + 1)))) else (none)) else (none)) else (none)) else (some true)
def slices_Equal_impl_Cell_impl_Cell.f (k:Nat) (l0:List (S33)) (l1:List (S33)):Option (Bool):=if (l0.length:Int)=(l1.length:Int) then (slices_Equal_impl_Cell_impl_Cell.l0 k l0 l1 (l0.length:Int) 0) else (some false)
theorem slices_Equal_impl_Cell_impl_Cell.mono_l : ∀ k,(∀ y0 y1 y2 y3,LeO (slices_Equal_impl_Cell_impl_Cell.l0 k y0 y1 y2 y3) (slices_Equal_impl_Cell_impl_Cell.l0 (k + 1) y0 y1 y2 y3))
 | 0=>fun _ _ _ _ r h=>by simp [slices_Equal_impl_Cell_impl_Cell.l0] at h
 | k + 1=>by
  have ih0:=slices_Equal_impl_Cell_impl_Cell.mono_l k
  ·intro y0 y1 y2 y3
   unfold slices_Equal_impl_Cell_impl_Cell.l0
   repeat' first
   | (with_reducible exact ih0 _ _ _ _)
   | (with_reducible exact LeO.refl _)
   | (with_reducible exact LeO.none _)
   | (with_reducible refine LeO.ite ?_ ?_)
   | (with_reducible refine LeO.bind ?_ (fun _=>?_))
   | exact LeO.none _
   | refine LeO.ite ?_ ?_
   | refine LeO.bind ?_ (fun _=>?_)
theorem slices_Equal_impl_Cell_impl_Cell.mono : ∀ a0 a1 k,LeO (slices_Equal_impl_Cell_impl_Cell.f k a0 a1) (slices_Equal_impl_Cell_impl_Cell.f (k + 1) a0 a1):=by
 intro a0 a1 k
 have ih0:=slices_Equal_impl_Cell_impl_Cell.mono_l k
 unfold slices_Equal_impl_Cell_impl_Cell.f
 repeat' first
   | (with_reducible exact ih0 _ _ _ _)
   | (with_reducible exact LeO.refl _)
   | (with_reducible exact LeO.none _)
   | (with_reducible refine LeO.ite ?_ ?_)
   | (with_reducible refine LeO.bind ?_ (fun _=>?_))
   | exact LeO.none _
   | refine LeO.ite ?_ ?_
   | refine LeO.bind ?_ (fun _=>?_)
set_option maxHeartbeats 8000000 in
set_option maxRecDepth 100000 in
theorem slices_Equal_impl_Cell_impl_Cell.calls (k:Nat) (A0:Option Addr) (c0:Nat) (l0:List (S33)) (A1:Option Addr) (c1:Nat) (l1:List (S33)) (r:Bool) (w:World) (hr0:Kd.C k33 w A0 l0.length l0) (hc0:l0.length≤c0) (hr1:Kd.C k33 w A1 l1.length l1) (hc1:l1.length≤c1) (h:slices_Equal_impl_Cell_impl_Cell.f k l0 l1=some r) :
  Calls Tryz.prog 64 #[.slice A0 l0.length c0,.slice A1 l1.length c1] w fun e w'=>e=.returned (.bool r)∧Drawn0 w w':=by
 have hu33:=Tryz.underlying33
 have HR0:=Aside0.mk hr0
 have HC0:=Aside0.mk hc0
 clear hr0 hc0
 have HR1:=Aside0.mk hr1
 have HC1:=Aside0.mk hc1
 clear hr1 hc1
 have H:(if (l0.length:Int)=(l1.length:Int) then (slices_Equal_impl_Cell_impl_Cell.l0 k l0 l1 (l0.length:Int) 0) else (some false))=some r:=h
 clear h
 by_cases c3:(l0.length:Int)=(l1.length:Int)
 ·rw [if_pos c3] at H
  have c3b0:((l0.length:Int) == (l1.length:Int))=true:=beq_iff_eq.mpr c3
  have c3b1:((l0.length:Int) != (l1.length:Int))=false:=bne_eq_false_iff_eq.mpr c3
  have c3b2:(l0.length == l1.length)=true:=by first|simpa using c3|(simp at c3 ⊢;omega)
  clear c3
  have H':=Aside0.mk H
  clear H
  go_enter Tryz.func64,Tryz.ntmps64
  go_wp2
  repeat (go_quiet (fail);try go_wp2)
  go_loopg [13] k (fun kq v13 w'=>∃ (x13_1:Int),v13=.int .i64 x13_1∧Aside0 (slices_Equal_impl_Cell_impl_Cell.l0 kq l0 l1 (l0.length:Int) x13_1=some r)∧Aside0 (kq≤k)∧Drawn0 w w')
  case atStart=>exact ⟨(0),(by first|rfl|(simp;done)|(simp [*];done)),H',⟨Nat.le_refl _⟩,zdw⟩
  case round =>
   clear H'
   try clear c1
   try clear p2
   try clear c3
   try clear c3b0
   try clear c3b1
   try clear c3b2
   obtain ⟨x13_1,rfl,HA,HK1,⟨m1,rfl⟩⟩:=hrel
   cases gk with
   | zero=>exact absurd HA.out (by simp [slices_Equal_impl_Cell_impl_Cell.l0])
   | succ k1 =>
    have H:=HA.out
    clear HA
    simp only [slices_Equal_impl_Cell_impl_Cell.l0] at H
    by_cases c4:x13_1 < (l0.length:Int)
    ·rw [if_pos c4] at H
     have c4b0:decide (x13_1 < (l0.length:Int))=true:=decide_eq_true c4
     clear c4
     by_cases c5:0≤x13_1
     ·rw [if_pos c5] at H
      have c5b0:decide (0≤x13_1)=true:=decide_eq_true c5
      clear c5
      by_cases c6:x13_1 < (l0.length:Int)
      ·rw [if_pos c6] at H
       have c6b0:decide (x13_1 < (l0.length:Int))=true:=decide_eq_true c6
       clear c6
       by_cases c7:x13_1 < (l1.length:Int)
       ·rw [if_pos c7] at H
        have c7b0:decide (x13_1 < (l1.length:Int))=true:=decide_eq_true c7
        clear c7
        by_cases c8:(!(((rd_T33 l0 x13_1).f0) == ((rd_T33 l1 x13_1).f0)) || (!(((rd_T33 l0 x13_1).f1) == ((rd_T33 l1 x13_1).f1)) || (!(((rd_T33 l0 x13_1).f2) == ((rd_T33 l1 x13_1).f2)) || (!(((rd_T33 l0 x13_1).f3) == ((rd_T33 l1 x13_1).f3))))))=true
        ·rw [if_pos c8] at H
         have c8b0:(!(((rd_T33 l0 x13_1).f0) == ((rd_T33 l1 x13_1).f0)) || (!(((rd_T33 l0 x13_1).f1) == ((rd_T33 l1 x13_1).f1)) || (!(((rd_T33 l0 x13_1).f2) == ((rd_T33 l1 x13_1).f2)) || (!(((rd_T33 l0 x13_1).f3) == ((rd_T33 l1 x13_1).f3))))))=true:=c8
         clear c8
         obtain rfl:=Option.some.inj H
         have p203:0≤(x13_1:Int):=zod
         have q203:x13_1 < (l0.length:Int):=zod
         obtain ⟨ad203,e203,hx203_0,hx203_1,hx203_2,hx203_3⟩:=at_T33 HR0.out x13_1 p203 q203
         cases e203
         replace p203:=eq_true p203
         replace q203:=eq_true q203
         have p204:0≤(x13_1:Int):=zod
         have q204:x13_1 < (l1.length:Int):=zod
         obtain ⟨ad204,e204,hx204_0,hx204_1,hx204_2,hx204_3⟩:=at_T33 HR1.out x13_1 p204 q204
         cases e204
         replace p204:=eq_true p204
         replace q204:=eq_true q204
         go_wp2
         repeat (go_quiet (fail);try go_wp2)
         go_ret
         exact ⟨by first|rfl|(simp;done)|(simp [*];done),zdw⟩
        ·rw [if_neg c8] at H
         have c8b0:(!(((rd_T33 l0 x13_1).f0) == ((rd_T33 l1 x13_1).f0)) || (!(((rd_T33 l0 x13_1).f1) == ((rd_T33 l1 x13_1).f1)) || (!(((rd_T33 l0 x13_1).f2) == ((rd_T33 l1 x13_1).f2)) || (!(((rd_T33 l0 x13_1).f3) == ((rd_T33 l1 x13_1).f3))))))=false:=by simpa using c8
         clear c8
         have H':=Aside0.mk H
         clear H
         have p203:0≤(x13_1:Int):=zod
         have q203:x13_1 < (l0.length:Int):=zod
         obtain ⟨ad203,e203,hx203_0,hx203_1,hx203_2,hx203_3⟩:=at_T33 HR0.out x13_1 p203 q203
         cases e203
         replace p203:=eq_true p203
         replace q203:=eq_true q203
         have p204:0≤(x13_1:Int):=zod
         have q204:x13_1 < (l1.length:Int):=zod
         obtain ⟨ad204,e204,hx204_0,hx204_1,hx204_2,hx204_3⟩:=at_T33 HR1.out x13_1 p204 q204
         cases e204
         replace p204:=eq_true p204
         replace q204:=eq_true q204
         go_wp2
         repeat (go_quiet (fail);try go_wp2)
         go_roundg k1
         case measure=>have:=HK1.out;omega
         case rel=>exact ⟨(wrap64 (x13_1 + 1)),(by first|rfl|(simp;done)|(simp [*];done)),H',⟨by have:=HK1.out;omega⟩,zdw⟩
       ·rw [if_neg c7] at H
        exact absurd H (by simp)
      ·rw [if_neg c6] at H
       exact absurd H (by simp)
     ·rw [if_neg c5] at H
      exact absurd H (by simp)
    ·rw [if_neg c4] at H
     have c4b0:decide (x13_1 < (l0.length:Int))=false:=decide_eq_false c4
     clear c4
     obtain rfl:=Option.some.inj H
     go_wp2
     repeat (go_quiet (fail);try go_wp2)
     go_ret
     exact ⟨by first|rfl|(simp;done)|(simp [*];done),zdw⟩
 ·rw [if_neg c3] at H
  have c3b0:((l0.length:Int) == (l1.length:Int))=false:=beq_eq_false_iff_ne.mpr c3
  have c3b1:((l0.length:Int) != (l1.length:Int))=true:=bne_iff_ne.mpr c3
  have c3b2:(l0.length == l1.length)=false:=by first|simpa using c3|(simp at c3 ⊢;omega)
  obtain rfl:=Option.some.inj H
  go_enter Tryz.func64,Tryz.ntmps64
  go_wp2
  repeat (go_quiet (fail);try go_wp2)
  go_ret
  exact ⟨by first|rfl|(simp;done)|(simp [*];done),zdw⟩
end

/-! ### slices_Equal_int_int: function 65 -/
def slices_Equal_int_int.l0:Nat→List Int→List Int→Int→Int→Option (Bool)
 | 0,_,_,_,_=>none
 | k + 1,x0,x1,x12,x13=>if x13 < x12 then (if 0≤x13 then (if x13 < (x0.length:Int) then (if x13 < (x1.length:Int) then (if (rd x0 x13)=(rd x1 x13) then (slices_Equal_int_int.l0 k x0 x1 x12 (wrap64 (x13 + 1))) else (some false)) else (none)) else (none)) else (none)) else (some true)
def slices_Equal_int_int.f (k:Nat) (l0:List Int) (l1:List Int):Option (Bool):=if (l0.length:Int)=(l1.length:Int) then (slices_Equal_int_int.l0 k l0 l1 (l0.length:Int) 0) else (some false)
theorem slices_Equal_int_int.mono_l : ∀ k,(∀ y0 y1 y2 y3,LeO (slices_Equal_int_int.l0 k y0 y1 y2 y3) (slices_Equal_int_int.l0 (k + 1) y0 y1 y2 y3))
 | 0=>fun _ _ _ _ r h=>by simp [slices_Equal_int_int.l0] at h
 | k + 1=>by
  have ih0:=slices_Equal_int_int.mono_l k
  ·intro y0 y1 y2 y3
   unfold slices_Equal_int_int.l0
   repeat' first
   | (with_reducible exact ih0 _ _ _ _)
   | (with_reducible exact LeO.refl _)
   | (with_reducible exact LeO.none _)
   | (with_reducible refine LeO.ite ?_ ?_)
   | (with_reducible refine LeO.bind ?_ (fun _=>?_))
   | exact LeO.none _
   | refine LeO.ite ?_ ?_
   | refine LeO.bind ?_ (fun _=>?_)
theorem slices_Equal_int_int.mono : ∀ a0 a1 k,LeO (slices_Equal_int_int.f k a0 a1) (slices_Equal_int_int.f (k + 1) a0 a1):=by
 intro a0 a1 k
 have ih0:=slices_Equal_int_int.mono_l k
 unfold slices_Equal_int_int.f
 repeat' first
   | (with_reducible exact ih0 _ _ _ _)
   | (with_reducible exact LeO.refl _)
   | (with_reducible exact LeO.none _)
   | (with_reducible refine LeO.ite ?_ ?_)
   | (with_reducible refine LeO.bind ?_ (fun _=>?_))
   | exact LeO.none _
   | refine LeO.ite ?_ ?_
   | refine LeO.bind ?_ (fun _=>?_)
set_option maxHeartbeats 8000000 in
set_option maxRecDepth 100000 in
theorem slices_Equal_int_int.calls (k:Nat) (A0:Option Addr) (c0:Nat) (l0:List Int) (A1:Option Addr) (c1:Nat) (l1:List Int) (r:Bool) (w:World) (hr0:Kd.C (Kd.int .i64) w A0 l0.length l0) (hc0:l0.length≤c0) (hr1:Kd.C (Kd.int .i64) w A1 l1.length l1) (hc1:l1.length≤c1) (h:slices_Equal_int_int.f k l0 l1=some r) :
  Calls Tryz.prog 65 #[.slice A0 l0.length c0,.slice A1 l1.length c1] w fun e w'=>e=.returned (.bool r)∧Drawn0 w w':=by
 have HR0:=Aside0.mk hr0
 have HC0:=Aside0.mk hc0
 clear hr0 hc0
 have HR1:=Aside0.mk hr1
 have HC1:=Aside0.mk hc1
 clear hr1 hc1
 have H:(if (l0.length:Int)=(l1.length:Int) then (slices_Equal_int_int.l0 k l0 l1 (l0.length:Int) 0) else (some false))=some r:=h
 clear h
 by_cases c3:(l0.length:Int)=(l1.length:Int)
 ·rw [if_pos c3] at H
  have c3b0:((l0.length:Int) == (l1.length:Int))=true:=beq_iff_eq.mpr c3
  have c3b1:((l0.length:Int) != (l1.length:Int))=false:=bne_eq_false_iff_eq.mpr c3
  have c3b2:(l0.length == l1.length)=true:=by first|simpa using c3|(simp at c3 ⊢;omega)
  clear c3
  have H':=Aside0.mk H
  clear H
  go_enter Tryz.func65,Tryz.ntmps65
  go_wp2
  repeat (go_quiet (fail);try go_wp2)
  go_loopg [13] k (fun kq v13 w'=>∃ (x13_1:Int),v13=.int .i64 x13_1∧Aside0 (slices_Equal_int_int.l0 kq l0 l1 (l0.length:Int) x13_1=some r)∧Aside0 (kq≤k)∧Drawn0 w w')
  case atStart=>exact ⟨(0),(by first|rfl|(simp;done)|(simp [*];done)),H',⟨Nat.le_refl _⟩,zdw⟩
  case round =>
   clear H'
   try clear c1
   try clear p2
   try clear c3
   try clear c3b0
   try clear c3b1
   try clear c3b2
   obtain ⟨x13_1,rfl,HA,HK1,⟨m1,rfl⟩⟩:=hrel
   cases gk with
   | zero=>exact absurd HA.out (by simp [slices_Equal_int_int.l0])
   | succ k1 =>
    have H:=HA.out
    clear HA
    simp only [slices_Equal_int_int.l0] at H
    by_cases c4:x13_1 < (l0.length:Int)
    ·rw [if_pos c4] at H
     have c4b0:decide (x13_1 < (l0.length:Int))=true:=decide_eq_true c4
     clear c4
     by_cases c5:0≤x13_1
     ·rw [if_pos c5] at H
      have c5b0:decide (0≤x13_1)=true:=decide_eq_true c5
      clear c5
      by_cases c6:x13_1 < (l0.length:Int)
      ·rw [if_pos c6] at H
       have c6b0:decide (x13_1 < (l0.length:Int))=true:=decide_eq_true c6
       clear c6
       by_cases c7:x13_1 < (l1.length:Int)
       ·rw [if_pos c7] at H
        have c7b0:decide (x13_1 < (l1.length:Int))=true:=decide_eq_true c7
        clear c7
        by_cases c8:(rd l0 x13_1)=(rd l1 x13_1)
        ·rw [if_pos c8] at H
         have c8b0:((rd l0 x13_1) == (rd l1 x13_1))=true:=beq_iff_eq.mpr c8
         have c8b1:((rd l0 x13_1) != (rd l1 x13_1))=false:=bne_eq_false_iff_eq.mpr c8
         clear c8
         have H':=Aside0.mk H
         clear H
         have p205:0≤(x13_1:Int):=zod
         have q205:x13_1 < (l0.length:Int):=zod
         obtain ⟨ad205,e205,hx205_0⟩:=Kd.at_int HR0.out x13_1 p205 q205
         cases e205
         replace p205:=eq_true p205
         replace q205:=eq_true q205
         have p206:0≤(x13_1:Int):=zod
         have q206:x13_1 < (l1.length:Int):=zod
         obtain ⟨ad206,e206,hx206_0⟩:=Kd.at_int HR1.out x13_1 p206 q206
         cases e206
         replace p206:=eq_true p206
         replace q206:=eq_true q206
         go_wp2
         repeat (go_quiet (fail);try go_wp2)
         go_roundg k1
         case measure=>have:=HK1.out;omega
         case rel=>exact ⟨(wrap64 (x13_1 + 1)),(by first|rfl|(simp;done)|(simp [*];done)),H',⟨by have:=HK1.out;omega⟩,zdw⟩
        ·rw [if_neg c8] at H
         have c8b0:((rd l0 x13_1) == (rd l1 x13_1))=false:=beq_eq_false_iff_ne.mpr c8
         have c8b1:((rd l0 x13_1) != (rd l1 x13_1))=true:=bne_iff_ne.mpr c8
         obtain rfl:=Option.some.inj H
         have p205:0≤(x13_1:Int):=zod
         have q205:x13_1 < (l0.length:Int):=zod
         obtain ⟨ad205,e205,hx205_0⟩:=Kd.at_int HR0.out x13_1 p205 q205
         cases e205
         replace p205:=eq_true p205
         replace q205:=eq_true q205
         have p206:0≤(x13_1:Int):=zod
         have q206:x13_1 < (l1.length:Int):=zod
         obtain ⟨ad206,e206,hx206_0⟩:=Kd.at_int HR1.out x13_1 p206 q206
         cases e206
         replace p206:=eq_true p206
         replace q206:=eq_true q206
         go_wp2
         repeat (go_quiet (fail);try go_wp2)
         go_ret
         exact ⟨by first|rfl|(simp;done)|(simp [*];done),zdw⟩
       ·rw [if_neg c7] at H
        exact absurd H (by simp)
      ·rw [if_neg c6] at H
       exact absurd H (by simp)
     ·rw [if_neg c5] at H
      exact absurd H (by simp)
    ·rw [if_neg c4] at H
     have c4b0:decide (x13_1 < (l0.length:Int))=false:=decide_eq_false c4
     clear c4
     obtain rfl:=Option.some.inj H
     go_wp2
     repeat (go_quiet (fail);try go_wp2)
     go_ret
     exact ⟨by first|rfl|(simp;done)|(simp [*];done),zdw⟩
 ·rw [if_neg c3] at H
  have c3b0:((l0.length:Int) == (l1.length:Int))=false:=beq_eq_false_iff_ne.mpr c3
  have c3b1:((l0.length:Int) != (l1.length:Int))=true:=bne_iff_ne.mpr c3
  have c3b2:(l0.length == l1.length)=false:=by first|simpa using c3|(simp at c3 ⊢;omega)
  obtain rfl:=Option.some.inj H
  go_enter Tryz.func65,Tryz.ntmps65
  go_wp2
  repeat (go_quiet (fail);try go_wp2)
  go_ret
  exact ⟨by first|rfl|(simp;done)|(simp [*];done),zdw⟩


/-! ### impl_colReckoning_cell: function 130 -/
def impl_colReckoning_cell.f (a0_0:Int):Option (Int × Int × Int × Int):=some (1,a0_0,0,0)
set_option maxHeartbeats 8000000 in
set_option maxRecDepth 100000 in
theorem impl_colReckoning_cell.calls (a0_0:Int) (r1:Int) (r2:Int) (r3:Int) (r4:Int) (w:World) (h:impl_colReckoning_cell.f a0_0=some (r1,r2,r3,r4)) :
  Calls Tryz.prog 130 #[.agg #[.int .i64 a0_0]] w fun e w'=>e=.returned (.agg #[.int .i64 r1,.int .i64 r2,.int .i64 r3,.int .i64 r4])∧Below w.heap.size w w':=by
 have hu128:=Tryz.underlying128
 have hu33:=Tryz.underlying33
 have HB:=Aside0.mk (Below.refl w.heap.size w)
 have H:(some (1,a0_0,0,0))=some (r1,r2,r3,r4):=h
 clear h
 simp only [Option.some.injEq,Prod.mk.injEq] at H
 obtain ⟨rfl,rfl,rfl,rfl⟩:=H
 go_enter Tryz.func130,Tryz.ntmps130
 go_wp2_with (first|((with_reducible refine gate_dst (N:=1) rfl ?_);refine box_event ?hg (N:=1) ?hd (cs:=#[.int .i64 a0_0]) (t:=128) ?hr ?_;(case hd=>rfl);(case hg=>rfl);(case hr=>first|(go_simp;done)|(go_simp;rfl));intro gb207 hg w2 hbox hb;have n0_:=Aside0.mk (below_step zhb hb);have n1_:=Aside0.mk (hbox);have n2_:=Aside0.mk ((by rw [hg];exact (below_size zhb):w.heap.size≤gb207));have n3_:=Aside0.mk ((by rw [hg];exact (below_size zhb):w.heap.size≤gb207));clear HB;have HB:=n0_;have BK207:=n1_;have GW207:=n2_;have GE207:=n3_;clear n0_ n1_ n2_ n3_;clear hb hbox hg)|((with_reducible refine gate_dst (N:=2) rfl ?_);refine box_event ?hg (N:=2) ?hd (cs:=#[.int .i64 0,.int .i64 0,.int .i64 0,.int .i64 0]) (t:=33) ?hr ?_;(case hd=>rfl);(case hg=>rfl);(case hr=>first|(go_simp;done)|(go_simp;rfl));intro gb208 hg w3 hbox hb;have n0_:=Aside0.mk (blk_below (g:=gb207) (o:=.cells #[.int .i64 a0_0] 128 (0,0)) (by (with_reducible repeat (first|refine blk_drewN ?_ _|refine blk_drew ?_|refine blk_alloc ?_ _));exact BK207.out) hb);have n1_:=Aside0.mk (below_step (by repeat (first|(with_reducible first|exact HB.out|apply below_alloc|apply pw_below_drewN|apply below_drew1|refine below_set ?_ GE207.out)|exact HB.out)) hb);have n2_:=Aside0.mk (hbox);have n3_:=Aside0.mk ((by rw [hg];exact (below_size (by repeat (first|(with_reducible first|exact HB.out|apply below_alloc|apply pw_below_drewN|apply below_drew1|refine below_set ?_ GE207.out)|exact HB.out))):w.heap.size≤gb208));have n4_:=Aside0.mk ((by rw [hg];exact (below_size (by repeat (first|(with_reducible first|exact HB.out|apply below_alloc|apply pw_below_drewN|apply below_drew1|refine below_set ?_ GE207.out)|exact HB.out))):w.heap.size≤gb208));have n5_:=Aside0.mk ((by rw [hg];exact Nat.ne_of_lt (blk_lt (g:=gb207) (o:=.cells #[.int .i64 a0_0] 128 (0,0)) (by (with_reducible repeat (first|refine blk_drewN ?_ _|refine blk_drew ?_|refine blk_alloc ?_ _));exact BK207.out)):gb207≠gb208));have n6_:=Aside0.mk ((by rw [hg];exact Nat.ne_of_gt (blk_lt (g:=gb207) (o:=.cells #[.int .i64 a0_0] 128 (0,0)) (by (with_reducible repeat (first|refine blk_drewN ?_ _|refine blk_drew ?_|refine blk_alloc ?_ _));exact BK207.out)):gb208≠gb207));clear BK207;clear HB;have BK207:=n0_;have HB:=n1_;have BK208:=n2_;have GW208:=n3_;have GE208:=n4_;have NB207_208:=n5_;have NB208_207:=n6_;clear n0_ n1_ n2_ n3_ n4_ n5_ n6_;clear hb hbox hg;have hnb4:=NB207_208.out;have hnc4:=NB208_207.out;have hcz5_0:w3.cell? ⟨gb207,0,none⟩=some (.int .i64 a0_0):=(blk_cell BK207.out 0).trans rfl;have hfz5_0:=blk_frozen BK207.out 0;have hcz6_0:w3.cell? ⟨gb208,0,none⟩=some (.int .i64 0):=(blk_cell BK208.out 0).trans rfl;have hcz6_1:w3.cell? ⟨gb208,1,none⟩=some (.int .i64 0):=(blk_cell BK208.out 1).trans rfl;have hcz6_2:w3.cell? ⟨gb208,2,none⟩=some (.int .i64 0):=(blk_cell BK208.out 2).trans rfl;have hcz6_3:w3.cell? ⟨gb208,3,none⟩=some (.int .i64 0):=(blk_cell BK208.out 3).trans rfl;have hfz6_0:=blk_frozen BK208.out 0;have hfz6_1:=blk_frozen BK208.out 1;have hfz6_2:=blk_frozen BK208.out 2;have hfz6_3:=blk_frozen BK208.out 3))
 refine bodyPost_ret (results_cell_row rfl _ _ gb208 33 #[.int .i64 1,.int .i64 a0_0,.int .i64 0,.int .i64 0] (0,0) _ rfl (by (with_reducible repeat (first|refine blk_drewN ?_ _|refine blk_drew ?_|refine blk_alloc ?_ _));refine blk_put (cs:=#[.int .i64 1,.int .i64 a0_0,.int .i64 0,.int .i64 0]) ?_ 3 _ rfl;(with_reducible repeat (first|refine blk_drewN ?_ _|refine blk_drew ?_|refine blk_alloc ?_ _));refine blk_put (cs:=#[.int .i64 1,.int .i64 a0_0,.int .i64 0,.int .i64 0]) ?_ 2 _ rfl;(with_reducible repeat (first|refine blk_drewN ?_ _|refine blk_drew ?_|refine blk_alloc ?_ _));refine blk_put (cs:=#[.int .i64 1,.int .i64 0,.int .i64 0,.int .i64 0]) ?_ 1 _ rfl;(with_reducible repeat (first|refine blk_drewN ?_ _|refine blk_drew ?_|refine blk_alloc ?_ _));refine blk_put (cs:=#[.int .i64 0,.int .i64 0,.int .i64 0,.int .i64 0]) ?_ 0 _ rfl;(with_reducible repeat (first|refine blk_drewN ?_ _|refine blk_drew ?_|refine blk_alloc ?_ _));exact BK208.out) Tryz.underlying33 rfl (by kernel_rfl)) rfl ?_
 exact ⟨by first|rfl|(simp [errW_none,errW_some] <;> rfl)|(simp [*,errW_none,errW_some] <;> rfl),by repeat (first|(with_reducible first|exact HB.out|apply below_alloc|apply pw_below_drewN|apply below_drew1|refine below_set ?_ GE207.out|refine below_set ?_ GE208.out)|exact HB.out)⟩

/-! ### impl_isPlace: function 110 -/
def impl_isPlace.f (a0:Int) (a1:Int):Option (Bool):=if a0 ≥ 0 then (some (decide (a0 < (mn a1 6)))) else (some false)
set_option maxHeartbeats 8000000 in
set_option maxRecDepth 100000 in
theorem impl_isPlace.calls (a0:Int) (a1:Int) (r:Bool) (w:World) (h:impl_isPlace.f a0 a1=some r) :
  Calls Tryz.prog 110 #[.int .i64 a0,.int .i64 a1] w fun e w'=>e=.returned (.bool r)∧Below w.heap.size w w':=by
 have HB:=Aside0.mk (Below.refl w.heap.size w)
 have H:(if a0 ≥ 0 then (some (decide (a0 < (mn a1 6)))) else (some false))=some r:=h
 clear h
 by_cases c3:a0 ≥ 0
 ·rw [if_pos c3] at H
  have c3b0:decide (0≤a0)=true:=decide_eq_true c3
  clear c3
  obtain ⟨ji4,hji4⟩ : ∃ j_:Int,(mn a1 6)=j_:=⟨_,rfl⟩
  replace H:(some (decide (a0 < (ji4))))=some r:=by first|(rw [hji4] at H;exact H)|(simp only [hji4] at H ⊢;exact H)
  (try (have hji4h:ji4≤6:=by (rw [← hji4];unfold mn;(repeat' split) <;> omega)))
  (try (have hji4g:ji4≤64:=by omega))
  have hji4_:(if 6 < a1 then 6 else a1)=ji4:=hji4
  obtain rfl:=Option.some.inj H
  go_enter Tryz.func110,Tryz.ntmps110
  go_wp2
  go_ret
  exact ⟨by first|rfl|(simp [errW_none,errW_some] <;> rfl)|(simp only [← hji4];first|rfl|(simp [errW_none,errW_some] <;> rfl))|(simp [*,errW_none,errW_some] <;> rfl),zhb⟩
 ·rw [if_neg c3] at H
  have c3b0:decide (0≤a0)=false:=decide_eq_false c3
  clear c3
  obtain rfl:=Option.some.inj H
  go_enter Tryz.func110,Tryz.ntmps110
  go_wp2
  go_ret
  exact ⟨by first|rfl|(simp [errW_none,errW_some] <;> rfl)|(simp [*,errW_none,errW_some] <;> rfl),zhb⟩

/-! ### impl_colReckoning_ok: function 132 -/
def impl_colReckoning_ok.f (a0_0:Int) (a1:Int):Option (Bool):=(impl_isPlace.f a0_0 a1).bind fun t210=>(some t210)
set_option maxHeartbeats 8000000 in
set_option maxRecDepth 100000 in
theorem impl_colReckoning_ok.calls (a0_0:Int) (a1:Int) (r:Bool) (w:World) (h:impl_colReckoning_ok.f a0_0 a1=some r) :
  Calls Tryz.prog 132 #[.agg #[.int .i64 a0_0],.int .i64 a1] w fun e w'=>e=.returned (.bool r)∧Below w.heap.size w w':=by
 have hu128:=Tryz.underlying128
 have HB:=Aside0.mk (Below.refl w.heap.size w)
 have H:((impl_isPlace.f a0_0 a1).bind fun t210=>(some t210))=some r:=h
 clear h
 replace H:=Option.bind_eq_some_iff.mp H
 obtain ⟨t210,A30,H⟩:=H
 (try dsimp only at H)
 have A3:=Aside0.mk A30
 clear A30
 obtain rfl:=Option.some.inj H
 go_enter Tryz.func132,Tryz.ntmps132
 go_wp2_with (first|((with_reducible refine gate_dst (N:=2) rfl ?_);refine box_event ?hg (N:=2) ?hd (cs:=#[.int .i64 a0_0]) (t:=128) ?hr ?_;(case hd=>rfl);(case hg=>rfl);(case hr=>first|(go_simp;done)|(go_simp;rfl));intro gb209 hg w4 hbox hb;have n0_:=Aside0.mk (below_step zhb hb);have n1_:=Aside0.mk (hbox);have n2_:=Aside0.mk ((by rw [hg];exact (below_size zhb):w.heap.size≤gb209));have n3_:=Aside0.mk ((by rw [hg];exact (below_size zhb):w.heap.size≤gb209));clear HB;have HB:=n0_;have BK209:=n1_;have GW209:=n2_;have GE209:=n3_;clear n0_ n1_ n2_ n3_;clear hb hbox hg;have hcz5_0:w4.cell? ⟨gb209,0,none⟩=some (.int .i64 a0_0):=(blk_cell BK209.out 0).trans rfl;have hfz5_0:=blk_frozen BK209.out 0)|((with_reducible refine gate_callee (f:=110) rfl ?_);refine goesL_ (some 8) rfl rfl Tryz.func110 (by kernel_rfl) rfl #[.int .i64 a0_0,.int .i64 a1] rfl zar ?_;(with_reducible refine (impl_isPlace.calls a0_0 a1 t210 _ A3.out).mono ?_);rintro e w6 ⟨rfl,hb⟩;refine ⟨_,rfl,?_⟩;have n0_:=Aside0.mk (blk_below (g:=gb209) (o:=.cells #[.int .i64 a0_0] 128 (0,0)) (by (with_reducible repeat (first|refine blk_drewN ?_ _|refine blk_drew ?_|refine blk_alloc ?_ _));exact BK209.out) hb);have n1_:=Aside0.mk (below_step (by repeat (first|(with_reducible first|exact HB.out|apply below_alloc|apply pw_below_drewN|apply below_drew1|refine below_set ?_ GE209.out)|exact HB.out)) hb);clear BK209;clear HB;have BK209:=n0_;have HB:=n1_;clear n0_ n1_;(try clear hb);(try clear hb2);(try clear hk);(try clear hi)))
 go_ret
 exact ⟨by first|rfl|(simp [errW_none,errW_some] <;> rfl)|(simp [*,errW_none,errW_some] <;> rfl),by repeat (first|(with_reducible first|exact HB.out|apply below_alloc|apply pw_below_drewN|apply below_drew1|refine below_set ?_ GE209.out)|exact HB.out)⟩

/-! ### impl_numReckoning_cell: function 134 -/
def impl_numReckoning_cell.f (a0_0:Int):Option (Int × Int × Int × Int):=some (2,0,0,a0_0)
set_option maxHeartbeats 8000000 in
set_option maxRecDepth 100000 in
theorem impl_numReckoning_cell.calls (a0_0:Int) (r1:Int) (r2:Int) (r3:Int) (r4:Int) (w:World) (h:impl_numReckoning_cell.f a0_0=some (r1,r2,r3,r4)) :
  Calls Tryz.prog 134 #[.agg #[.int .i64 a0_0]] w fun e w'=>e=.returned (.agg #[.int .i64 r1,.int .i64 r2,.int .i64 r3,.int .i64 r4])∧Below w.heap.size w w':=by
 have hu130:=Tryz.underlying130
 have hu33:=Tryz.underlying33
 have HB:=Aside0.mk (Below.refl w.heap.size w)
 have H:(some (2,0,0,a0_0))=some (r1,r2,r3,r4):=h
 clear h
 simp only [Option.some.injEq,Prod.mk.injEq] at H
 obtain ⟨rfl,rfl,rfl,rfl⟩:=H
 go_enter Tryz.func134,Tryz.ntmps134
 go_wp2_with (first|((with_reducible refine gate_dst (N:=1) rfl ?_);refine box_event ?hg (N:=1) ?hd (cs:=#[.int .i64 a0_0]) (t:=130) ?hr ?_;(case hd=>rfl);(case hg=>rfl);(case hr=>first|(go_simp;done)|(go_simp;rfl));intro gb211 hg w2 hbox hb;have n0_:=Aside0.mk (below_step zhb hb);have n1_:=Aside0.mk (hbox);have n2_:=Aside0.mk ((by rw [hg];exact (below_size zhb):w.heap.size≤gb211));have n3_:=Aside0.mk ((by rw [hg];exact (below_size zhb):w.heap.size≤gb211));clear HB;have HB:=n0_;have BK211:=n1_;have GW211:=n2_;have GE211:=n3_;clear n0_ n1_ n2_ n3_;clear hb hbox hg)|((with_reducible refine gate_dst (N:=2) rfl ?_);refine box_event ?hg (N:=2) ?hd (cs:=#[.int .i64 0,.int .i64 0,.int .i64 0,.int .i64 0]) (t:=33) ?hr ?_;(case hd=>rfl);(case hg=>rfl);(case hr=>first|(go_simp;done)|(go_simp;rfl));intro gb212 hg w3 hbox hb;have n0_:=Aside0.mk (blk_below (g:=gb211) (o:=.cells #[.int .i64 a0_0] 130 (0,0)) (by (with_reducible repeat (first|refine blk_drewN ?_ _|refine blk_drew ?_|refine blk_alloc ?_ _));exact BK211.out) hb);have n1_:=Aside0.mk (below_step (by repeat (first|(with_reducible first|exact HB.out|apply below_alloc|apply pw_below_drewN|apply below_drew1|refine below_set ?_ GE211.out)|exact HB.out)) hb);have n2_:=Aside0.mk (hbox);have n3_:=Aside0.mk ((by rw [hg];exact (below_size (by repeat (first|(with_reducible first|exact HB.out|apply below_alloc|apply pw_below_drewN|apply below_drew1|refine below_set ?_ GE211.out)|exact HB.out))):w.heap.size≤gb212));have n4_:=Aside0.mk ((by rw [hg];exact (below_size (by repeat (first|(with_reducible first|exact HB.out|apply below_alloc|apply pw_below_drewN|apply below_drew1|refine below_set ?_ GE211.out)|exact HB.out))):w.heap.size≤gb212));have n5_:=Aside0.mk ((by rw [hg];exact Nat.ne_of_lt (blk_lt (g:=gb211) (o:=.cells #[.int .i64 a0_0] 130 (0,0)) (by (with_reducible repeat (first|refine blk_drewN ?_ _|refine blk_drew ?_|refine blk_alloc ?_ _));exact BK211.out)):gb211≠gb212));have n6_:=Aside0.mk ((by rw [hg];exact Nat.ne_of_gt (blk_lt (g:=gb211) (o:=.cells #[.int .i64 a0_0] 130 (0,0)) (by (with_reducible repeat (first|refine blk_drewN ?_ _|refine blk_drew ?_|refine blk_alloc ?_ _));exact BK211.out)):gb212≠gb211));clear BK211;clear HB;have BK211:=n0_;have HB:=n1_;have BK212:=n2_;have GW212:=n3_;have GE212:=n4_;have NB211_212:=n5_;have NB212_211:=n6_;clear n0_ n1_ n2_ n3_ n4_ n5_ n6_;clear hb hbox hg;have hnb4:=NB211_212.out;have hnc4:=NB212_211.out;have hcz5_0:w3.cell? ⟨gb211,0,none⟩=some (.int .i64 a0_0):=(blk_cell BK211.out 0).trans rfl;have hfz5_0:=blk_frozen BK211.out 0;have hcz6_0:w3.cell? ⟨gb212,0,none⟩=some (.int .i64 0):=(blk_cell BK212.out 0).trans rfl;have hcz6_1:w3.cell? ⟨gb212,1,none⟩=some (.int .i64 0):=(blk_cell BK212.out 1).trans rfl;have hcz6_2:w3.cell? ⟨gb212,2,none⟩=some (.int .i64 0):=(blk_cell BK212.out 2).trans rfl;have hcz6_3:w3.cell? ⟨gb212,3,none⟩=some (.int .i64 0):=(blk_cell BK212.out 3).trans rfl;have hfz6_0:=blk_frozen BK212.out 0;have hfz6_1:=blk_frozen BK212.out 1;have hfz6_2:=blk_frozen BK212.out 2;have hfz6_3:=blk_frozen BK212.out 3))
 refine bodyPost_ret (results_cell_row rfl _ _ gb212 33 #[.int .i64 2,.int .i64 0,.int .i64 0,.int .i64 a0_0] (0,0) _ rfl (by (with_reducible repeat (first|refine blk_drewN ?_ _|refine blk_drew ?_|refine blk_alloc ?_ _));refine blk_put (cs:=#[.int .i64 2,.int .i64 0,.int .i64 0,.int .i64 0]) ?_ 3 _ rfl;(with_reducible repeat (first|refine blk_drewN ?_ _|refine blk_drew ?_|refine blk_alloc ?_ _));refine blk_put (cs:=#[.int .i64 2,.int .i64 0,.int .i64 0,.int .i64 0]) ?_ 2 _ rfl;(with_reducible repeat (first|refine blk_drewN ?_ _|refine blk_drew ?_|refine blk_alloc ?_ _));refine blk_put (cs:=#[.int .i64 2,.int .i64 0,.int .i64 0,.int .i64 0]) ?_ 1 _ rfl;(with_reducible repeat (first|refine blk_drewN ?_ _|refine blk_drew ?_|refine blk_alloc ?_ _));refine blk_put (cs:=#[.int .i64 0,.int .i64 0,.int .i64 0,.int .i64 0]) ?_ 0 _ rfl;(with_reducible repeat (first|refine blk_drewN ?_ _|refine blk_drew ?_|refine blk_alloc ?_ _));exact BK212.out) Tryz.underlying33 rfl (by kernel_rfl)) rfl ?_
 exact ⟨by first|rfl|(simp [errW_none,errW_some] <;> rfl)|(simp [*,errW_none,errW_some] <;> rfl),by repeat (first|(with_reducible first|exact HB.out|apply below_alloc|apply pw_below_drewN|apply below_drew1|refine below_set ?_ GE211.out|refine below_set ?_ GE212.out)|exact HB.out)⟩

/-! ### impl_isCell: function 138 -/
def impl_isCell.f (a0:Int):Option (Bool):=if a0 ≥ (-1000000000) then (some (decide (a0≤1000000000))) else (some false)
set_option maxHeartbeats 8000000 in
set_option maxRecDepth 100000 in
theorem impl_isCell.calls (a0:Int) (r:Bool) (w:World) (h:impl_isCell.f a0=some r) :
  Calls Tryz.prog 138 #[.int .i64 a0] w fun e w'=>e=.returned (.bool r)∧Drawn0 w w':=by
 have H:(if a0 ≥ (-1000000000) then (some (decide (a0≤1000000000))) else (some false))=some r:=h
 clear h
 by_cases c2:a0 ≥ (-1000000000)
 ·rw [if_pos c2] at H
  have c2b0:decide ((-1000000000)≤a0)=true:=decide_eq_true c2
  clear c2
  obtain rfl:=Option.some.inj H
  go_enter Tryz.func138,Tryz.ntmps138
  go_wp2
  go_ret
  exact ⟨by first|rfl|(simp;done)|(simp [*];done),zdw⟩
 ·rw [if_neg c2] at H
  have c2b0:decide ((-1000000000)≤a0)=false:=decide_eq_false c2
  clear c2
  obtain rfl:=Option.some.inj H
  go_enter Tryz.func138,Tryz.ntmps138
  go_wp2
  go_ret
  exact ⟨by first|rfl|(simp;done)|(simp [*];done),zdw⟩

/-! ### impl_numReckoning_ok: function 136 -/
def impl_numReckoning_ok.f (a0_0:Int) (a1:Int):Option (Bool):=(impl_isCell.f a0_0).bind fun t214=>(some t214)
set_option maxHeartbeats 8000000 in
set_option maxRecDepth 100000 in
theorem impl_numReckoning_ok.calls (a0_0:Int) (a1:Int) (r:Bool) (w:World) (h:impl_numReckoning_ok.f a0_0 a1=some r) :
  Calls Tryz.prog 136 #[.agg #[.int .i64 a0_0],.int .i64 a1] w fun e w'=>e=.returned (.bool r)∧Below w.heap.size w w':=by
 have hu130:=Tryz.underlying130
 have HB:=Aside0.mk (Below.refl w.heap.size w)
 have H:((impl_isCell.f a0_0).bind fun t214=>(some t214))=some r:=h
 clear h
 replace H:=Option.bind_eq_some_iff.mp H
 obtain ⟨t214,A30,H⟩:=H
 (try dsimp only at H)
 have A3:=Aside0.mk A30
 clear A30
 obtain rfl:=Option.some.inj H
 go_enter Tryz.func136,Tryz.ntmps136
 go_wp2_with (first|((with_reducible refine gate_dst (N:=2) rfl ?_);refine box_event ?hg (N:=2) ?hd (cs:=#[.int .i64 a0_0]) (t:=130) ?hr ?_;(case hd=>rfl);(case hg=>rfl);(case hr=>first|(go_simp;done)|(go_simp;rfl));intro gb213 hg w4 hbox hb;have n0_:=Aside0.mk (below_step zhb hb);have n1_:=Aside0.mk (hbox);have n2_:=Aside0.mk ((by rw [hg];exact (below_size zhb):w.heap.size≤gb213));have n3_:=Aside0.mk ((by rw [hg];exact (below_size zhb):w.heap.size≤gb213));clear HB;have HB:=n0_;have BK213:=n1_;have GW213:=n2_;have GE213:=n3_;clear n0_ n1_ n2_ n3_;clear hb hbox hg;have hcz5_0:w4.cell? ⟨gb213,0,none⟩=some (.int .i64 a0_0):=(blk_cell BK213.out 0).trans rfl;have hfz5_0:=blk_frozen BK213.out 0)|((with_reducible refine gate_callee (f:=138) rfl ?_);refine goesL_ (some 7) rfl rfl Tryz.func138 (by kernel_rfl) rfl #[.int .i64 a0_0] rfl zar ?_;(with_reducible refine (impl_isCell.calls a0_0 t214 _ A3.out).mono ?_);rintro e w' ⟨rfl,⟨nd,rfl⟩⟩;refine ⟨_,rfl,?_⟩))
 go_ret
 exact ⟨by first|rfl|(simp [errW_none,errW_some] <;> rfl)|(simp [*,errW_none,errW_some] <;> rfl),by repeat (first|(with_reducible first|exact HB.out|apply below_alloc|apply pw_below_drewN|apply below_drew1|refine below_set ?_ GE213.out)|exact HB.out)⟩

/-! ### impl_sumReckoning_cell: function 139 -/
def impl_sumReckoning_cell.f (a0_0:Int) (a0_1:Int):Option (Int × Int × Int × Int):=some (3,a0_0,a0_1,0)
set_option maxHeartbeats 8000000 in
set_option maxRecDepth 100000 in
theorem impl_sumReckoning_cell.calls (a0_0:Int) (a0_1:Int) (r1:Int) (r2:Int) (r3:Int) (r4:Int) (w:World) (h:impl_sumReckoning_cell.f a0_0 a0_1=some (r1,r2,r3,r4)) :
  Calls Tryz.prog 139 #[.agg #[.int .i64 a0_0,.int .i64 a0_1]] w fun e w'=>e=.returned (.agg #[.int .i64 r1,.int .i64 r2,.int .i64 r3,.int .i64 r4])∧Below w.heap.size w w':=by
 have hu132:=Tryz.underlying132
 have hu33:=Tryz.underlying33
 have HB:=Aside0.mk (Below.refl w.heap.size w)
 have H:(some (3,a0_0,a0_1,0))=some (r1,r2,r3,r4):=h
 clear h
 simp only [Option.some.injEq,Prod.mk.injEq] at H
 obtain ⟨rfl,rfl,rfl,rfl⟩:=H
 go_enter Tryz.func139,Tryz.ntmps139
 go_wp2_with (first|((with_reducible refine gate_dst (N:=1) rfl ?_);refine box_event ?hg (N:=1) ?hd (cs:=#[.int .i64 a0_0,.int .i64 a0_1]) (t:=132) ?hr ?_;(case hd=>rfl);(case hg=>rfl);(case hr=>first|(go_simp;done)|(go_simp;rfl));intro gb215 hg w2 hbox hb;have n0_:=Aside0.mk (below_step zhb hb);have n1_:=Aside0.mk (hbox);have n2_:=Aside0.mk ((by rw [hg];exact (below_size zhb):w.heap.size≤gb215));have n3_:=Aside0.mk ((by rw [hg];exact (below_size zhb):w.heap.size≤gb215));clear HB;have HB:=n0_;have BK215:=n1_;have GW215:=n2_;have GE215:=n3_;clear n0_ n1_ n2_ n3_;clear hb hbox hg)|((with_reducible refine gate_dst (N:=2) rfl ?_);refine box_event ?hg (N:=2) ?hd (cs:=#[.int .i64 0,.int .i64 0,.int .i64 0,.int .i64 0]) (t:=33) ?hr ?_;(case hd=>rfl);(case hg=>rfl);(case hr=>first|(go_simp;done)|(go_simp;rfl));intro gb216 hg w3 hbox hb;have n0_:=Aside0.mk (blk_below (g:=gb215) (o:=.cells #[.int .i64 a0_0,.int .i64 a0_1] 132 (0,0)) (by (with_reducible repeat (first|refine blk_drewN ?_ _|refine blk_drew ?_|refine blk_alloc ?_ _));exact BK215.out) hb);have n1_:=Aside0.mk (below_step (by repeat (first|(with_reducible first|exact HB.out|apply below_alloc|apply pw_below_drewN|apply below_drew1|refine below_set ?_ GE215.out)|exact HB.out)) hb);have n2_:=Aside0.mk (hbox);have n3_:=Aside0.mk ((by rw [hg];exact (below_size (by repeat (first|(with_reducible first|exact HB.out|apply below_alloc|apply pw_below_drewN|apply below_drew1|refine below_set ?_ GE215.out)|exact HB.out))):w.heap.size≤gb216));have n4_:=Aside0.mk ((by rw [hg];exact (below_size (by repeat (first|(with_reducible first|exact HB.out|apply below_alloc|apply pw_below_drewN|apply below_drew1|refine below_set ?_ GE215.out)|exact HB.out))):w.heap.size≤gb216));have n5_:=Aside0.mk ((by rw [hg];exact Nat.ne_of_lt (blk_lt (g:=gb215) (o:=.cells #[.int .i64 a0_0,.int .i64 a0_1] 132 (0,0)) (by (with_reducible repeat (first|refine blk_drewN ?_ _|refine blk_drew ?_|refine blk_alloc ?_ _));exact BK215.out)):gb215≠gb216));have n6_:=Aside0.mk ((by rw [hg];exact Nat.ne_of_gt (blk_lt (g:=gb215) (o:=.cells #[.int .i64 a0_0,.int .i64 a0_1] 132 (0,0)) (by (with_reducible repeat (first|refine blk_drewN ?_ _|refine blk_drew ?_|refine blk_alloc ?_ _));exact BK215.out)):gb216≠gb215));clear BK215;clear HB;have BK215:=n0_;have HB:=n1_;have BK216:=n2_;have GW216:=n3_;have GE216:=n4_;have NB215_216:=n5_;have NB216_215:=n6_;clear n0_ n1_ n2_ n3_ n4_ n5_ n6_;clear hb hbox hg;have hnb4:=NB215_216.out;have hnc4:=NB216_215.out;have hcz5_0:w3.cell? ⟨gb215,0,none⟩=some (.int .i64 a0_0):=(blk_cell BK215.out 0).trans rfl;have hcz5_1:w3.cell? ⟨gb215,1,none⟩=some (.int .i64 a0_1):=(blk_cell BK215.out 1).trans rfl;have hfz5_0:=blk_frozen BK215.out 0;have hfz5_1:=blk_frozen BK215.out 1;have hcz6_0:w3.cell? ⟨gb216,0,none⟩=some (.int .i64 0):=(blk_cell BK216.out 0).trans rfl;have hcz6_1:w3.cell? ⟨gb216,1,none⟩=some (.int .i64 0):=(blk_cell BK216.out 1).trans rfl;have hcz6_2:w3.cell? ⟨gb216,2,none⟩=some (.int .i64 0):=(blk_cell BK216.out 2).trans rfl;have hcz6_3:w3.cell? ⟨gb216,3,none⟩=some (.int .i64 0):=(blk_cell BK216.out 3).trans rfl;have hfz6_0:=blk_frozen BK216.out 0;have hfz6_1:=blk_frozen BK216.out 1;have hfz6_2:=blk_frozen BK216.out 2;have hfz6_3:=blk_frozen BK216.out 3))
 refine bodyPost_ret (results_cell_row rfl _ _ gb216 33 #[.int .i64 3,.int .i64 a0_0,.int .i64 a0_1,.int .i64 0] (0,0) _ rfl (by (with_reducible repeat (first|refine blk_drewN ?_ _|refine blk_drew ?_|refine blk_alloc ?_ _));refine blk_put (cs:=#[.int .i64 3,.int .i64 a0_0,.int .i64 a0_1,.int .i64 0]) ?_ 3 _ rfl;(with_reducible repeat (first|refine blk_drewN ?_ _|refine blk_drew ?_|refine blk_alloc ?_ _));refine blk_put (cs:=#[.int .i64 3,.int .i64 a0_0,.int .i64 0,.int .i64 0]) ?_ 2 _ rfl;(with_reducible repeat (first|refine blk_drewN ?_ _|refine blk_drew ?_|refine blk_alloc ?_ _));refine blk_put (cs:=#[.int .i64 3,.int .i64 0,.int .i64 0,.int .i64 0]) ?_ 1 _ rfl;(with_reducible repeat (first|refine blk_drewN ?_ _|refine blk_drew ?_|refine blk_alloc ?_ _));refine blk_put (cs:=#[.int .i64 0,.int .i64 0,.int .i64 0,.int .i64 0]) ?_ 0 _ rfl;(with_reducible repeat (first|refine blk_drewN ?_ _|refine blk_drew ?_|refine blk_alloc ?_ _));exact BK216.out) Tryz.underlying33 rfl (by kernel_rfl)) rfl ?_
 exact ⟨by first|rfl|(simp [errW_none,errW_some] <;> rfl)|(simp [*,errW_none,errW_some] <;> rfl),by repeat (first|(with_reducible first|exact HB.out|apply below_alloc|apply pw_below_drewN|apply below_drew1|refine below_set ?_ GE215.out|refine below_set ?_ GE216.out)|exact HB.out)⟩

/-! ### impl_sumReckoning_ok: function 141 -/
def impl_sumReckoning_ok.f (a0_0:Int) (a0_1:Int) (a1:Int):Option (Bool):=(impl_isPlace.f a0_0 a1).bind fun t218=>(if t218=true then ((impl_isPlace.f a0_1 a1).bind fun t219=>(some t219)) else (some false))
set_option maxHeartbeats 8000000 in
set_option maxRecDepth 100000 in
theorem impl_sumReckoning_ok.calls (a0_0:Int) (a0_1:Int) (a1:Int) (r:Bool) (w:World) (h:impl_sumReckoning_ok.f a0_0 a0_1 a1=some r) :
  Calls Tryz.prog 141 #[.agg #[.int .i64 a0_0,.int .i64 a0_1],.int .i64 a1] w fun e w'=>e=.returned (.bool r)∧Below w.heap.size w w':=by
 have hu132:=Tryz.underlying132
 have HB:=Aside0.mk (Below.refl w.heap.size w)
 have H:((impl_isPlace.f a0_0 a1).bind fun t218=>(if t218=true then ((impl_isPlace.f a0_1 a1).bind fun t219=>(some t219)) else (some false)))=some r:=h
 clear h
 replace H:=Option.bind_eq_some_iff.mp H
 obtain ⟨t218,A30,H⟩:=H
 (try dsimp only at H)
 have A3:=Aside0.mk A30
 clear A30
 by_cases c4:t218=true
 ·subst c4
  have H1:((impl_isPlace.f a0_1 a1).bind fun t219=>(some t219))=some r:=by rw [if_pos rfl] at H;exact H
  clear H
  have H:=H1
  clear H1
  replace H:=Option.bind_eq_some_iff.mp H
  obtain ⟨t219,A50,H⟩:=H
  (try dsimp only at H)
  have A5:=Aside0.mk A50
  clear A50
  obtain rfl:=Option.some.inj H
  go_enter Tryz.func141,Tryz.ntmps141
  go_wp2_with (first|((with_reducible refine gate_dst (N:=2) rfl ?_);refine box_event ?hg (N:=2) ?hd (cs:=#[.int .i64 a0_0,.int .i64 a0_1]) (t:=132) ?hr ?_;(case hd=>rfl);(case hg=>rfl);(case hr=>first|(go_simp;done)|(go_simp;rfl));intro gb217 hg w6 hbox hb;have n0_:=Aside0.mk (below_step zhb hb);have n1_:=Aside0.mk (hbox);have n2_:=Aside0.mk ((by rw [hg];exact (below_size zhb):w.heap.size≤gb217));have n3_:=Aside0.mk ((by rw [hg];exact (below_size zhb):w.heap.size≤gb217));clear HB;have HB:=n0_;have BK217:=n1_;have GW217:=n2_;have GE217:=n3_;clear n0_ n1_ n2_ n3_;clear hb hbox hg;have hcz7_0:w6.cell? ⟨gb217,0,none⟩=some (.int .i64 a0_0):=(blk_cell BK217.out 0).trans rfl;have hcz7_1:w6.cell? ⟨gb217,1,none⟩=some (.int .i64 a0_1):=(blk_cell BK217.out 1).trans rfl;have hfz7_0:=blk_frozen BK217.out 0;have hfz7_1:=blk_frozen BK217.out 1)|((with_reducible refine gate_callee (f:=110) rfl ?_);refine goesL_ (some 8) rfl rfl Tryz.func110 (by kernel_rfl) rfl #[.int .i64 a0_0,.int .i64 a1] rfl zar ?_;(with_reducible refine (impl_isPlace.calls a0_0 a1 true _ A3.out).mono ?_);rintro e w8 ⟨rfl,hb⟩;refine ⟨_,rfl,?_⟩;have n0_:=Aside0.mk (blk_below (g:=gb217) (o:=.cells #[.int .i64 a0_0,.int .i64 a0_1] 132 (0,0)) (by (with_reducible repeat (first|refine blk_drewN ?_ _|refine blk_drew ?_|refine blk_alloc ?_ _));exact BK217.out) hb);have n1_:=Aside0.mk (below_step (by repeat (first|(with_reducible first|exact HB.out|apply below_alloc|apply pw_below_drewN|apply below_drew1|refine below_set ?_ GE217.out)|exact HB.out)) hb);clear BK217;clear HB;have BK217:=n0_;have HB:=n1_;clear n0_ n1_;(try clear hb);(try clear hb2);(try clear hk);(try clear hi);have hcz9_0:w8.cell? ⟨gb217,0,none⟩=some (.int .i64 a0_0):=(blk_cell BK217.out 0).trans rfl;have hcz9_1:w8.cell? ⟨gb217,1,none⟩=some (.int .i64 a0_1):=(blk_cell BK217.out 1).trans rfl;have hfz9_0:=blk_frozen BK217.out 0;have hfz9_1:=blk_frozen BK217.out 1)|(go_at_call 110;(with_reducible refine (impl_isPlace.calls a0_1 a1 t219 _ A5.out).mono ?_);rintro e w10 ⟨rfl,hb⟩;have n0_:=Aside0.mk (blk_below (g:=gb217) (o:=.cells #[.int .i64 a0_0,.int .i64 a0_1] 132 (0,0)) (by (with_reducible repeat (first|refine blk_drewN ?_ _|refine blk_drew ?_|refine blk_alloc ?_ _));exact BK217.out) hb);have n1_:=Aside0.mk (below_step (by repeat (first|(with_reducible first|exact HB.out|apply below_alloc|apply pw_below_drewN|apply below_drew1|refine below_set ?_ GE217.out)|exact HB.out)) hb);clear BK217;clear HB;have BK217:=n0_;have HB:=n1_;clear n0_ n1_;(try clear hb);(try clear hb2);(try clear hk);(try clear hi)))
  go_ret
  exact ⟨by first|rfl|(simp [errW_none,errW_some] <;> rfl)|(simp [*,errW_none,errW_some] <;> rfl),by repeat (first|(with_reducible first|exact HB.out|apply below_alloc|apply pw_below_drewN|apply below_drew1|refine below_set ?_ GE217.out)|exact HB.out)⟩
 ·replace c4:=Bool.eq_false_iff.mpr c4
  subst c4
  have H1:(some false)=some r:=by rw [if_neg (show ¬ (false=true) by decide)] at H;exact H
  clear H
  have H:=H1
  clear H1
  obtain rfl:=Option.some.inj H
  go_enter Tryz.func141,Tryz.ntmps141
  go_wp2_with (first|((with_reducible refine gate_dst (N:=2) rfl ?_);refine box_event ?hg (N:=2) ?hd (cs:=#[.int .i64 a0_0,.int .i64 a0_1]) (t:=132) ?hr ?_;(case hd=>rfl);(case hg=>rfl);(case hr=>first|(go_simp;done)|(go_simp;rfl));intro gb217 hg w11 hbox hb;have n0_:=Aside0.mk (below_step zhb hb);have n1_:=Aside0.mk (hbox);have n2_:=Aside0.mk ((by rw [hg];exact (below_size zhb):w.heap.size≤gb217));have n3_:=Aside0.mk ((by rw [hg];exact (below_size zhb):w.heap.size≤gb217));clear HB;have HB:=n0_;have BK217:=n1_;have GW217:=n2_;have GE217:=n3_;clear n0_ n1_ n2_ n3_;clear hb hbox hg;have hcz12_0:w11.cell? ⟨gb217,0,none⟩=some (.int .i64 a0_0):=(blk_cell BK217.out 0).trans rfl;have hcz12_1:w11.cell? ⟨gb217,1,none⟩=some (.int .i64 a0_1):=(blk_cell BK217.out 1).trans rfl;have hfz12_0:=blk_frozen BK217.out 0;have hfz12_1:=blk_frozen BK217.out 1)|((with_reducible refine gate_callee (f:=110) rfl ?_);refine goesL_ (some 8) rfl rfl Tryz.func110 (by kernel_rfl) rfl #[.int .i64 a0_0,.int .i64 a1] rfl zar ?_;(with_reducible refine (impl_isPlace.calls a0_0 a1 false _ A3.out).mono ?_);rintro e w13 ⟨rfl,hb⟩;refine ⟨_,rfl,?_⟩;have n0_:=Aside0.mk (blk_below (g:=gb217) (o:=.cells #[.int .i64 a0_0,.int .i64 a0_1] 132 (0,0)) (by (with_reducible repeat (first|refine blk_drewN ?_ _|refine blk_drew ?_|refine blk_alloc ?_ _));exact BK217.out) hb);have n1_:=Aside0.mk (below_step (by repeat (first|(with_reducible first|exact HB.out|apply below_alloc|apply pw_below_drewN|apply below_drew1|refine below_set ?_ GE217.out)|exact HB.out)) hb);clear BK217;clear HB;have BK217:=n0_;have HB:=n1_;clear n0_ n1_;(try clear hb);(try clear hb2);(try clear hk);(try clear hi)))
  go_ret
  exact ⟨by first|rfl|(simp [errW_none,errW_some] <;> rfl)|(simp [*,errW_none,errW_some] <;> rfl),by repeat (first|(with_reducible first|exact HB.out|apply below_alloc|apply pw_below_drewN|apply below_drew1|refine below_set ?_ GE217.out)|exact HB.out)⟩

/-! ### impl_CellOk: function 95 (by hand) -/
def impl_CellOk.f (a0_0:Int) (a0_1:Int) (a0_2:Int) (a0_3:Int) (a1:Int):Option (Bool) :=
 if a0_0=1 then (if a0_2=0 then (if a0_3=0 then (impl_colReckoning_ok.f a0_1 a1) else (some false)) else (some false))
 else (if a0_0=2 then (if a0_1=0 then (if a0_2=0 then (impl_numReckoning_ok.f a0_3 a1) else (some false)) else (some false))
 else (if a0_0=3 then (if a0_3=0 then (impl_sumReckoning_ok.f a0_1 a0_2 a1) else (some false)) else (some false)))
/-- reckoningOf: what a cell's kind is told as -/
def rkVal (k a b n:Int):Value:=if k=1 then .iface 128 (.agg #[.int .i64 a]) else if k=2 then .iface 130 (.agg #[.int .i64 n]) else if k=3 then .iface 132 (.agg #[.int .i64 a,.int .i64 b]) else .nilIface
set_option maxHeartbeats 8000000 in
set_option maxRecDepth 100000 in
theorem impl_reckoningOf.calls (k a b n:Int) (w:World):Calls Tryz.prog 96 #[.agg #[.int .i64 k,.int .i64 a,.int .i64 b,.int .i64 n]] w fun e w'=>e=.returned (rkVal k a b n)∧Below w.heap.size w w':=by
 unfold rkVal
 by_cases h1:k=1
 ·subst h1
  rw [if_pos rfl]
  go_enter Tryz.func96,Tryz.ntmps96
  go_wp2
  go_ret
  exact ⟨rfl,below_alloc (Below.refl _ _) _⟩
 by_cases h2:k=2
 ·subst h2
  rw [if_neg (by decide),if_pos rfl]
  go_enter Tryz.func96,Tryz.ntmps96
  go_wp2
  go_ret
  exact ⟨rfl,below_alloc (Below.refl _ _) _⟩
 by_cases h3:k=3
 ·subst h3
  rw [if_neg (by decide),if_neg (by decide),if_pos rfl]
  go_enter Tryz.func96,Tryz.ntmps96
  go_wp2
  go_ret
  exact ⟨rfl,below_alloc (Below.refl _ _) _⟩
 rw [if_neg h1,if_neg h2,if_neg h3]
 have b1:(k == 1)=false:=by simpa using h1
 have b2:(k == 2)=false:=by simpa using h2
 have b3:(k == 3)=false:=by simpa using h3
 clear h1 h2 h3
 go_enter Tryz.func96,Tryz.ntmps96
 go_wp2
 go_ret
 exact ⟨rfl,below_alloc (Below.refl _ _) _⟩
set_option maxHeartbeats 8000000 in
set_option maxRecDepth 100000 in
theorem cellOk_col (a:Int) (wide:Int) (r:Bool) (w:World) (h:impl_colReckoning_ok.f a wide=some r):Calls Tryz.prog 95 #[.agg #[.int .i64 1,.int .i64 a,.int .i64 0,.int .i64 0],.int .i64 wide] w fun e w'=>e=.returned (.bool r)∧Below w.heap.size w w':=by
 have HB:=Aside0.mk (Below.refl w.heap.size w)
 have A:=Aside0.mk h
 clear h
 have RK:=impl_reckoningOf.calls 1 a 0 0
 rw [show rkVal 1 a 0 0=.iface 128 (.agg #[.int .i64 a]) from rfl] at RK
 go_enter Tryz.func95,Tryz.ntmps95
 go_wp2_with (first|(go_at_call 96;refine (RK _).mono ?_;rintro e w1 ⟨rfl,hb⟩;have HC:=Aside0.mk hb;clear hb))
 clear RK
 have c0:w1.cell? ⟨w.heap.size,0,none⟩=some (.int .i64 1):=(HC.out.cell (p:=⟨w.heap.size,0,none⟩) (by simp)).trans (by simp)
 have c1:w1.cell? ⟨w.heap.size,1,none⟩=some (.int .i64 a):=(HC.out.cell (p:=⟨w.heap.size,1,none⟩) (by simp)).trans (by simp)
 have c2:w1.cell? ⟨w.heap.size,2,none⟩=some (.int .i64 0):=(HC.out.cell (p:=⟨w.heap.size,2,none⟩) (by simp)).trans (by simp)
 have c3:w1.cell? ⟨w.heap.size,3,none⟩=some (.int .i64 0):=(HC.out.cell (p:=⟨w.heap.size,3,none⟩) (by simp)).trans (by simp)
 have B1:Below w.heap.size w w1:=below_step (below_alloc HB.out _) HC.out
 clear HC HB
 have mc : ∀ W : World, (method 246 128 (.agg #[.int .i64 a]) "loop.example/milldam/impl.cell").run Tryz.prog W = .ok (130, .agg #[.int .i64 a]) W := fun _ => by kernel_rfl
 have mo : ∀ W : World, (method 246 128 (.agg #[.int .i64 a]) "loop.example/milldam/impl.ok").run Tryz.prog W = .ok (132, .agg #[.int .i64 a]) W := fun _ => by kernel_rfl
 have qc:impl_colReckoning_cell.f a=some (1,a,0,0):=rfl
 refine start_ (n:=14) (S:=fun w'=>w'.cell? ⟨w.heap.size,0,none⟩=some (.int .i64 1)∧w'.cell? ⟨w.heap.size,1,none⟩=some (.int .i64 a)∧w'.cell? ⟨w.heap.size,2,none⟩=some (.int .i64 0)∧w'.cell? ⟨w.heap.size,3,none⟩=some (.int .i64 0)∧Below w.heap.size w w') (ds:=[]) #[X,X,X,X,X,X,X,X,X,X,X,X,X,X] (by kernel_rfl) rfl rfl ⟨c0,c1,c2,c3,(below_drew B1)⟩ (fun hHeld=>?_)
 refine pure_ (i:=0) (N:=some 8) (v:=?_) (a':=?_) #[Y,X,X,X,X,X,X,X,X,X,X,X,X,X] rfl rfl (by kernel_rfl) (fun _ _ _ h=>h) (Or.inl ⟨by rfl,?_⟩) ?_ ?_
 rotate_left
 ·intro w'
  go_simp
  with_reducible rfl
 rotate_left
 ·simp only [Act.put,zp1,zp2,zp3,i64_w,i32_w]
  rfl
 refine pure_ (i:=1) (N:=some 9) (v:=?_) (a':=?_) #[Y,Y,X,X,X,X,X,X,X,X,X,X,X,X] rfl rfl (by kernel_rfl) (fun _ _ _ h=>h) (Or.inl ⟨by rfl,?_⟩) ?_ ?_
 rotate_left
 ·intro w'
  go_simp
  with_reducible rfl
 rotate_left
 ·simp only [Act.put,zp1,zp2,zp3,i64_w,i32_w]
  rfl
 refine pure_ (i:=2) (N:=some 10) (v:=?_) (a':=?_) #[Y,Y,Y,X,X,X,X,X,X,X,X,X,X,X] rfl rfl (by kernel_rfl) (fun _ _ _ h=>h) (Or.inl ⟨by rfl,?_⟩) ?_ ?_
 rotate_left
 ·intro w'
  go_simp
  with_reducible rfl
 rotate_left
 ·simp only [Act.put,zp1,zp2,zp3,i64_w,i32_w]
  rfl
 refine pure_ (i:=3) (N:=some 11) (v:=?_) (a':=?_) #[Y,Y,Y,Y,X,X,X,X,X,X,X,X,X,X] rfl rfl (by kernel_rfl) (fun _ _ _ h=>h) (Or.inl ⟨by rfl,?_⟩) ?_ ?_
 rotate_left
 ·intro w'
  go_simp
  with_reducible rfl
 rotate_left
 ·simp only [Act.put,zp1,zp2,zp3,i64_w,i32_w]
  rfl
 refine take_ (i:=5) (N:=some 13) (v:=?_) (a':=?_) #[Y,Y,Y,Y,X,Y,X,X,X,X,X,X,X,X] rfl rfl (by kernel_rfl) (fun _ _ _ h=>h) (Or.inl ⟨by rfl,?_⟩) hHeld ?_ ?_
 rotate_left
 ·rintro w' ⟨s0,s1,s2,s3,s4⟩
  go_simp
  with_reducible rfl
 rotate_left
 ·simp only [Act.put,zp1,zp2,zp3,i64_w,i32_w]
  rfl
 refine one_ (i:=4) (N:=some 12) #[Y,Y,Y,Y,Y,Y,X,X,X,X,X,X,X,X] rfl rfl (by kernel_rfl) (by decide) (fun K hK=>?_)
 rw [if_pos (by rfl)]
 go_wp2_with (first|(go_at_call 130;refine (impl_colReckoning_cell.calls a 1 a 0 0 _ qc).mono ?_;rintro e w' ⟨rfl,hb⟩))
 refine hK.out _ _ ⟨(pw_cell_below hb hHeld.1),(pw_cell_below hb hHeld.2.1),(pw_cell_below hb hHeld.2.2.1),(pw_cell_below hb hHeld.2.2.2.1),(below_step hHeld.2.2.2.2 hb)⟩ (fun hHeld=>?_)
 clear hK K
 refine pure_ (i:=6) (N:=some 14) (v:=?_) (a':=?_) #[Y,Y,Y,Y,Y,Y,Y,X,X,X,X,X,X,X] rfl rfl (by kernel_rfl) (fun _ _ _ h=>h) (Or.inl ⟨by rfl,?_⟩) ?_ ?_
 rotate_left
 ·intro w'
  go_simp
  with_reducible rfl
 rotate_left
 ·simp only [Act.put,zp1,zp2,zp3,i64_w,i32_w]
  rfl
 refine pure_ (i:=7) (N:=some 15) (v:=?_) (a':=?_) #[Y,Y,Y,Y,Y,Y,Y,Y,X,X,X,X,X,X] rfl rfl (by kernel_rfl) (fun _ _ _ h=>h) (Or.inl ⟨by rfl,?_⟩) ?_ ?_
 rotate_left
 ·intro w'
  go_simp
  with_reducible rfl
 rotate_left
 ·simp only [Act.put,zp1,zp2,zp3,i64_w,i32_w]
  rfl
 refine pure_ (i:=8) (N:=some 16) (v:=?_) (a':=?_) #[Y,Y,Y,Y,Y,Y,Y,Y,Y,X,X,X,X,X] rfl rfl (by kernel_rfl) (fun _ _ _ h=>h) (Or.inl ⟨by rfl,?_⟩) ?_ ?_
 rotate_left
 ·intro w'
  go_simp
  with_reducible rfl
 rotate_left
 ·simp only [Act.put,zp1,zp2,zp3,i64_w,i32_w]
  rfl
 refine pure_ (i:=9) (N:=some 17) (v:=?_) (a':=?_) #[Y,Y,Y,Y,Y,Y,Y,Y,Y,Y,X,X,X,X] rfl rfl (by kernel_rfl) (fun _ _ _ h=>h) (Or.inl ⟨by rfl,?_⟩) ?_ ?_
 rotate_left
 ·intro w'
  go_simp
  with_reducible rfl
 rotate_left
 ·simp only [Act.put,zp1,zp2,zp3,i64_w,i32_w]
  rfl
 refine pure_ (i:=10) (N:=some 18) (v:=?_) (a':=?_) #[Y,Y,Y,Y,Y,Y,Y,Y,Y,Y,Y,X,X,X] rfl rfl (by kernel_rfl) (fun _ _ _ h=>h) (Or.inl ⟨by rfl,?_⟩) ?_ ?_
 rotate_left
 ·intro w'
  go_simp
  with_reducible rfl
 rotate_left
 ·simp only [Act.put,zp1,zp2,zp3,i64_w,i32_w]
  rfl
 refine one_ (i:=11) (N:=some 19) #[Y,Y,Y,Y,Y,Y,Y,Y,Y,Y,Y,Y,X,X] rfl rfl (by kernel_rfl) (by decide) (fun K hK=>?_)
 rw [if_pos (by rfl)]
 go_wp2_with (first|(go_at_call 132;refine (impl_colReckoning_ok.calls a wide r _ A.out).mono ?_;rintro e w' ⟨rfl,hb⟩))
 refine hK.out _ _ ⟨(pw_cell_below hb hHeld.1),(pw_cell_below hb hHeld.2.1),(pw_cell_below hb hHeld.2.2.1),(pw_cell_below hb hHeld.2.2.2.1),(below_step hHeld.2.2.2.2 hb)⟩ (fun hHeld=>?_)
 clear hK K
 refine pure_ (i:=12) (N:=some 20) (v:=?_) (a':=?_) #[Y,Y,Y,Y,Y,Y,Y,Y,Y,Y,Y,Y,Y,X] rfl rfl (by kernel_rfl) (fun _ _ _ h=>h) (Or.inl ⟨by rfl,?_⟩) ?_ ?_
 rotate_left
 ·intro w'
  go_simp
  with_reducible rfl
 rotate_left
 ·simp only [Act.put,zp1,zp2,zp3,i64_w,i32_w]
  rfl
 refine pure_ (i:=13) (N:=some 4) (v:=?_) (a':=?_) #[Y,Y,Y,Y,Y,Y,Y,Y,Y,Y,Y,Y,Y,Y] rfl rfl (by kernel_rfl) (fun _ _ _ h=>h) (Or.inl ⟨by rfl,?_⟩) ?_ ?_
 rotate_left
 ·intro w'
  go_simp
  with_reducible rfl
 rotate_left
 ·simp only [Act.put,zp1,zp2,zp3,i64_w,i32_w]
  rfl
 refine done_ (by kernel_rfl) ?_
 go_wp2
 go_ret
 exact ⟨rfl,hHeld.2.2.2.2⟩
set_option maxHeartbeats 8000000 in
set_option maxRecDepth 100000 in
theorem cellOk_col_b (a b n:Int) (wide:Int) (w:World) (hb:((0:Int) == b)=false):Calls Tryz.prog 95 #[.agg #[.int .i64 1,.int .i64 a,.int .i64 b,.int .i64 n],.int .i64 wide] w fun e w'=>e=.returned (.bool false)∧Below w.heap.size w w':=by
 have HB:=Aside0.mk (Below.refl w.heap.size w)
 have RK:=impl_reckoningOf.calls 1 a b n
 rw [show rkVal 1 a b n=.iface 128 (.agg #[.int .i64 a]) from rfl] at RK
 go_enter Tryz.func95,Tryz.ntmps95
 go_wp2_with (first|(go_at_call 96;refine (RK _).mono ?_;rintro e w1 ⟨rfl,hb⟩;have HC:=Aside0.mk hb;clear hb))
 clear RK
 have c0:w1.cell? ⟨w.heap.size,0,none⟩=some (.int .i64 1):=(HC.out.cell (p:=⟨w.heap.size,0,none⟩) (by simp)).trans (by simp)
 have c1:w1.cell? ⟨w.heap.size,1,none⟩=some (.int .i64 a):=(HC.out.cell (p:=⟨w.heap.size,1,none⟩) (by simp)).trans (by simp)
 have c2:w1.cell? ⟨w.heap.size,2,none⟩=some (.int .i64 b):=(HC.out.cell (p:=⟨w.heap.size,2,none⟩) (by simp)).trans (by simp)
 have c3:w1.cell? ⟨w.heap.size,3,none⟩=some (.int .i64 n):=(HC.out.cell (p:=⟨w.heap.size,3,none⟩) (by simp)).trans (by simp)
 have B1:Below w.heap.size w w1:=below_step (below_alloc HB.out _) HC.out
 clear HC HB
 have mc : ∀ W : World, (method 246 128 (.agg #[.int .i64 a]) "loop.example/milldam/impl.cell").run Tryz.prog W = .ok (130, .agg #[.int .i64 a]) W := fun _ => by kernel_rfl
 have mo : ∀ W : World, (method 246 128 (.agg #[.int .i64 a]) "loop.example/milldam/impl.ok").run Tryz.prog W = .ok (132, .agg #[.int .i64 a]) W := fun _ => by kernel_rfl
 have qc:impl_colReckoning_cell.f a=some (1,a,0,0):=rfl
 refine start_ (n:=14) (S:=fun w'=>w'.cell? ⟨w.heap.size,0,none⟩=some (.int .i64 1)∧w'.cell? ⟨w.heap.size,1,none⟩=some (.int .i64 a)∧w'.cell? ⟨w.heap.size,2,none⟩=some (.int .i64 b)∧w'.cell? ⟨w.heap.size,3,none⟩=some (.int .i64 n)∧Below w.heap.size w w') (ds:=[]) #[X,X,X,X,X,X,X,X,X,X,X,X,X,X] (by kernel_rfl) rfl rfl ⟨c0,c1,c2,c3,(below_drew B1)⟩ (fun hHeld=>?_)
 refine pure_ (i:=0) (N:=some 8) (v:=?_) (a':=?_) #[Y,X,X,X,X,X,X,X,X,X,X,X,X,X] rfl rfl (by kernel_rfl) (fun _ _ _ h=>h) (Or.inl ⟨by rfl,?_⟩) ?_ ?_
 rotate_left
 ·intro w'
  go_simp
  with_reducible rfl
 rotate_left
 ·simp only [Act.put,zp1,zp2,zp3,i64_w,i32_w]
  rfl
 refine pure_ (i:=1) (N:=some 9) (v:=?_) (a':=?_) #[Y,Y,X,X,X,X,X,X,X,X,X,X,X,X] rfl rfl (by kernel_rfl) (fun _ _ _ h=>h) (Or.inl ⟨by rfl,?_⟩) ?_ ?_
 rotate_left
 ·intro w'
  go_simp
  with_reducible rfl
 rotate_left
 ·simp only [Act.put,zp1,zp2,zp3,i64_w,i32_w]
  rfl
 refine pure_ (i:=2) (N:=some 10) (v:=?_) (a':=?_) #[Y,Y,Y,X,X,X,X,X,X,X,X,X,X,X] rfl rfl (by kernel_rfl) (fun _ _ _ h=>h) (Or.inl ⟨by rfl,?_⟩) ?_ ?_
 rotate_left
 ·intro w'
  go_simp
  with_reducible rfl
 rotate_left
 ·simp only [Act.put,zp1,zp2,zp3,i64_w,i32_w]
  rfl
 refine pure_ (i:=3) (N:=some 11) (v:=?_) (a':=?_) #[Y,Y,Y,Y,X,X,X,X,X,X,X,X,X,X] rfl rfl (by kernel_rfl) (fun _ _ _ h=>h) (Or.inl ⟨by rfl,?_⟩) ?_ ?_
 rotate_left
 ·intro w'
  go_simp
  with_reducible rfl
 rotate_left
 ·simp only [Act.put,zp1,zp2,zp3,i64_w,i32_w]
  rfl
 refine take_ (i:=5) (N:=some 13) (v:=?_) (a':=?_) #[Y,Y,Y,Y,X,Y,X,X,X,X,X,X,X,X] rfl rfl (by kernel_rfl) (fun _ _ _ h=>h) (Or.inl ⟨by rfl,?_⟩) hHeld ?_ ?_
 rotate_left
 ·rintro w' ⟨s0,s1,s2,s3,s4⟩
  go_simp
  with_reducible rfl
 rotate_left
 ·simp only [Act.put,zp1,zp2,zp3,i64_w,i32_w]
  rfl
 refine one_ (i:=4) (N:=some 12) #[Y,Y,Y,Y,Y,Y,X,X,X,X,X,X,X,X] rfl rfl (by kernel_rfl) (by decide) (fun K hK=>?_)
 rw [if_pos (by rfl)]
 go_wp2_with (first|(go_at_call 130;refine (impl_colReckoning_cell.calls a 1 a 0 0 _ qc).mono ?_;rintro e w' ⟨rfl,hb⟩))
 refine hK.out _ _ ⟨(pw_cell_below hb hHeld.1),(pw_cell_below hb hHeld.2.1),(pw_cell_below hb hHeld.2.2.1),(pw_cell_below hb hHeld.2.2.2.1),(below_step hHeld.2.2.2.2 hb)⟩ (fun hHeld=>?_)
 clear hK K
 refine pure_ (i:=6) (N:=some 14) (v:=?_) (a':=?_) #[Y,Y,Y,Y,Y,Y,Y,X,X,X,X,X,X,X] rfl rfl (by kernel_rfl) (fun _ _ _ h=>h) (Or.inl ⟨by rfl,?_⟩) ?_ ?_
 rotate_left
 ·intro w'
  go_simp
  with_reducible rfl
 rotate_left
 ·simp only [Act.put,zp1,zp2,zp3,i64_w,i32_w]
  rfl
 refine pure_ (i:=7) (N:=some 15) (v:=?_) (a':=?_) #[Y,Y,Y,Y,Y,Y,Y,Y,X,X,X,X,X,X] rfl rfl (by kernel_rfl) (fun _ _ _ h=>h) (Or.inl ⟨by rfl,?_⟩) ?_ ?_
 rotate_left
 ·intro w'
  go_simp
  with_reducible rfl
 rotate_left
 ·simp only [Act.put,zp1,zp2,zp3,i64_w,i32_w]
  rfl
 refine pure_ (i:=8) (N:=some 16) (v:=?_) (a':=?_) #[Y,Y,Y,Y,Y,Y,Y,Y,Y,X,X,X,X,X] rfl rfl (by kernel_rfl) (fun _ _ _ h=>h) (Or.inl ⟨by rfl,?_⟩) ?_ ?_
 rotate_left
 ·intro w'
  go_simp
  with_reducible rfl
 rotate_left
 ·simp only [Act.put,zp1,zp2,zp3,i64_w,i32_w]
  rfl
 refine pure_ (i:=9) (N:=some 17) (v:=undef) (a':=?_) #[Y,Y,Y,Y,Y,Y,Y,Y,Y,Y,X,X,X,X] rfl rfl (by kernel_rfl) (fun _ _ _ h=>h) (Or.inr ⟨by rfl,rfl⟩) ?_ ?_
 rotate_left
 ·simp only [Act.put,zp1,zp2,zp3,i64_w,i32_w]
  rfl
 refine pure_ (i:=10) (N:=some 18) (v:=undef) (a':=?_) #[Y,Y,Y,Y,Y,Y,Y,Y,Y,Y,Y,X,X,X] rfl rfl (by kernel_rfl) (fun _ _ _ h=>h) (Or.inr ⟨by rfl,rfl⟩) ?_ ?_
 rotate_left
 ·simp only [Act.put,zp1,zp2,zp3,i64_w,i32_w]
  rfl
 refine pure_ (i:=11) (N:=some 19) (v:=undef) (a':=?_) #[Y,Y,Y,Y,Y,Y,Y,Y,Y,Y,Y,Y,X,X] rfl rfl (by kernel_rfl) (fun _ _ _ h=>h) (Or.inr ⟨by rfl,rfl⟩) ?_ ?_
 rotate_left
 ·simp only [Act.put,zp1,zp2,zp3,i64_w,i32_w]
  rfl
 refine pure_ (i:=12) (N:=some 20) (v:=?_) (a':=?_) #[Y,Y,Y,Y,Y,Y,Y,Y,Y,Y,Y,Y,Y,X] rfl rfl (by kernel_rfl) (fun _ _ _ h=>h) (Or.inl ⟨by rfl,?_⟩) ?_ ?_
 rotate_left
 ·intro w'
  go_simp
  with_reducible rfl
 rotate_left
 ·simp only [Act.put,zp1,zp2,zp3,i64_w,i32_w]
  rfl
 refine pure_ (i:=13) (N:=some 4) (v:=?_) (a':=?_) #[Y,Y,Y,Y,Y,Y,Y,Y,Y,Y,Y,Y,Y,Y] rfl rfl (by kernel_rfl) (fun _ _ _ h=>h) (Or.inl ⟨by rfl,?_⟩) ?_ ?_
 rotate_left
 ·intro w'
  go_simp
  with_reducible rfl
 rotate_left
 ·simp only [Act.put,zp1,zp2,zp3,i64_w,i32_w]
  rfl
 refine done_ (by kernel_rfl) ?_
 go_wp2
 go_ret
 exact ⟨rfl,hHeld.2.2.2.2⟩
set_option maxHeartbeats 8000000 in
set_option maxRecDepth 100000 in
theorem cellOk_col_n (a n:Int) (wide:Int) (w:World) (hn:((0:Int) == n)=false):Calls Tryz.prog 95 #[.agg #[.int .i64 1,.int .i64 a,.int .i64 0,.int .i64 n],.int .i64 wide] w fun e w'=>e=.returned (.bool false)∧Below w.heap.size w w':=by
 have HB:=Aside0.mk (Below.refl w.heap.size w)
 have RK:=impl_reckoningOf.calls 1 a 0 n
 rw [show rkVal 1 a 0 n=.iface 128 (.agg #[.int .i64 a]) from rfl] at RK
 go_enter Tryz.func95,Tryz.ntmps95
 go_wp2_with (first|(go_at_call 96;refine (RK _).mono ?_;rintro e w1 ⟨rfl,hb⟩;have HC:=Aside0.mk hb;clear hb))
 clear RK
 have c0:w1.cell? ⟨w.heap.size,0,none⟩=some (.int .i64 1):=(HC.out.cell (p:=⟨w.heap.size,0,none⟩) (by simp)).trans (by simp)
 have c1:w1.cell? ⟨w.heap.size,1,none⟩=some (.int .i64 a):=(HC.out.cell (p:=⟨w.heap.size,1,none⟩) (by simp)).trans (by simp)
 have c2:w1.cell? ⟨w.heap.size,2,none⟩=some (.int .i64 0):=(HC.out.cell (p:=⟨w.heap.size,2,none⟩) (by simp)).trans (by simp)
 have c3:w1.cell? ⟨w.heap.size,3,none⟩=some (.int .i64 n):=(HC.out.cell (p:=⟨w.heap.size,3,none⟩) (by simp)).trans (by simp)
 have B1:Below w.heap.size w w1:=below_step (below_alloc HB.out _) HC.out
 clear HC HB
 have mc : ∀ W : World, (method 246 128 (.agg #[.int .i64 a]) "loop.example/milldam/impl.cell").run Tryz.prog W = .ok (130, .agg #[.int .i64 a]) W := fun _ => by kernel_rfl
 have mo : ∀ W : World, (method 246 128 (.agg #[.int .i64 a]) "loop.example/milldam/impl.ok").run Tryz.prog W = .ok (132, .agg #[.int .i64 a]) W := fun _ => by kernel_rfl
 have qc:impl_colReckoning_cell.f a=some (1,a,0,0):=rfl
 refine start_ (n:=14) (S:=fun w'=>w'.cell? ⟨w.heap.size,0,none⟩=some (.int .i64 1)∧w'.cell? ⟨w.heap.size,1,none⟩=some (.int .i64 a)∧w'.cell? ⟨w.heap.size,2,none⟩=some (.int .i64 0)∧w'.cell? ⟨w.heap.size,3,none⟩=some (.int .i64 n)∧Below w.heap.size w w') (ds:=[]) #[X,X,X,X,X,X,X,X,X,X,X,X,X,X] (by kernel_rfl) rfl rfl ⟨c0,c1,c2,c3,(below_drew B1)⟩ (fun hHeld=>?_)
 refine pure_ (i:=0) (N:=some 8) (v:=?_) (a':=?_) #[Y,X,X,X,X,X,X,X,X,X,X,X,X,X] rfl rfl (by kernel_rfl) (fun _ _ _ h=>h) (Or.inl ⟨by rfl,?_⟩) ?_ ?_
 rotate_left
 ·intro w'
  go_simp
  with_reducible rfl
 rotate_left
 ·simp only [Act.put,zp1,zp2,zp3,i64_w,i32_w]
  rfl
 refine pure_ (i:=1) (N:=some 9) (v:=?_) (a':=?_) #[Y,Y,X,X,X,X,X,X,X,X,X,X,X,X] rfl rfl (by kernel_rfl) (fun _ _ _ h=>h) (Or.inl ⟨by rfl,?_⟩) ?_ ?_
 rotate_left
 ·intro w'
  go_simp
  with_reducible rfl
 rotate_left
 ·simp only [Act.put,zp1,zp2,zp3,i64_w,i32_w]
  rfl
 refine pure_ (i:=2) (N:=some 10) (v:=?_) (a':=?_) #[Y,Y,Y,X,X,X,X,X,X,X,X,X,X,X] rfl rfl (by kernel_rfl) (fun _ _ _ h=>h) (Or.inl ⟨by rfl,?_⟩) ?_ ?_
 rotate_left
 ·intro w'
  go_simp
  with_reducible rfl
 rotate_left
 ·simp only [Act.put,zp1,zp2,zp3,i64_w,i32_w]
  rfl
 refine pure_ (i:=3) (N:=some 11) (v:=?_) (a':=?_) #[Y,Y,Y,Y,X,X,X,X,X,X,X,X,X,X] rfl rfl (by kernel_rfl) (fun _ _ _ h=>h) (Or.inl ⟨by rfl,?_⟩) ?_ ?_
 rotate_left
 ·intro w'
  go_simp
  with_reducible rfl
 rotate_left
 ·simp only [Act.put,zp1,zp2,zp3,i64_w,i32_w]
  rfl
 refine take_ (i:=5) (N:=some 13) (v:=?_) (a':=?_) #[Y,Y,Y,Y,X,Y,X,X,X,X,X,X,X,X] rfl rfl (by kernel_rfl) (fun _ _ _ h=>h) (Or.inl ⟨by rfl,?_⟩) hHeld ?_ ?_
 rotate_left
 ·rintro w' ⟨s0,s1,s2,s3,s4⟩
  go_simp
  with_reducible rfl
 rotate_left
 ·simp only [Act.put,zp1,zp2,zp3,i64_w,i32_w]
  rfl
 refine one_ (i:=4) (N:=some 12) #[Y,Y,Y,Y,Y,Y,X,X,X,X,X,X,X,X] rfl rfl (by kernel_rfl) (by decide) (fun K hK=>?_)
 rw [if_pos (by rfl)]
 go_wp2_with (first|(go_at_call 130;refine (impl_colReckoning_cell.calls a 1 a 0 0 _ qc).mono ?_;rintro e w' ⟨rfl,hb⟩))
 refine hK.out _ _ ⟨(pw_cell_below hb hHeld.1),(pw_cell_below hb hHeld.2.1),(pw_cell_below hb hHeld.2.2.1),(pw_cell_below hb hHeld.2.2.2.1),(below_step hHeld.2.2.2.2 hb)⟩ (fun hHeld=>?_)
 clear hK K
 refine pure_ (i:=6) (N:=some 14) (v:=?_) (a':=?_) #[Y,Y,Y,Y,Y,Y,Y,X,X,X,X,X,X,X] rfl rfl (by kernel_rfl) (fun _ _ _ h=>h) (Or.inl ⟨by rfl,?_⟩) ?_ ?_
 rotate_left
 ·intro w'
  go_simp
  with_reducible rfl
 rotate_left
 ·simp only [Act.put,zp1,zp2,zp3,i64_w,i32_w]
  rfl
 refine pure_ (i:=7) (N:=some 15) (v:=?_) (a':=?_) #[Y,Y,Y,Y,Y,Y,Y,Y,X,X,X,X,X,X] rfl rfl (by kernel_rfl) (fun _ _ _ h=>h) (Or.inl ⟨by rfl,?_⟩) ?_ ?_
 rotate_left
 ·intro w'
  go_simp
  with_reducible rfl
 rotate_left
 ·simp only [Act.put,zp1,zp2,zp3,i64_w,i32_w]
  rfl
 refine pure_ (i:=8) (N:=some 16) (v:=?_) (a':=?_) #[Y,Y,Y,Y,Y,Y,Y,Y,Y,X,X,X,X,X] rfl rfl (by kernel_rfl) (fun _ _ _ h=>h) (Or.inl ⟨by rfl,?_⟩) ?_ ?_
 rotate_left
 ·intro w'
  go_simp
  with_reducible rfl
 rotate_left
 ·simp only [Act.put,zp1,zp2,zp3,i64_w,i32_w]
  rfl
 refine pure_ (i:=9) (N:=some 17) (v:=undef) (a':=?_) #[Y,Y,Y,Y,Y,Y,Y,Y,Y,Y,X,X,X,X] rfl rfl (by kernel_rfl) (fun _ _ _ h=>h) (Or.inr ⟨by rfl,rfl⟩) ?_ ?_
 rotate_left
 ·simp only [Act.put,zp1,zp2,zp3,i64_w,i32_w]
  rfl
 refine pure_ (i:=10) (N:=some 18) (v:=undef) (a':=?_) #[Y,Y,Y,Y,Y,Y,Y,Y,Y,Y,Y,X,X,X] rfl rfl (by kernel_rfl) (fun _ _ _ h=>h) (Or.inr ⟨by rfl,rfl⟩) ?_ ?_
 rotate_left
 ·simp only [Act.put,zp1,zp2,zp3,i64_w,i32_w]
  rfl
 refine pure_ (i:=11) (N:=some 19) (v:=undef) (a':=?_) #[Y,Y,Y,Y,Y,Y,Y,Y,Y,Y,Y,Y,X,X] rfl rfl (by kernel_rfl) (fun _ _ _ h=>h) (Or.inr ⟨by rfl,rfl⟩) ?_ ?_
 rotate_left
 ·simp only [Act.put,zp1,zp2,zp3,i64_w,i32_w]
  rfl
 refine pure_ (i:=12) (N:=some 20) (v:=?_) (a':=?_) #[Y,Y,Y,Y,Y,Y,Y,Y,Y,Y,Y,Y,Y,X] rfl rfl (by kernel_rfl) (fun _ _ _ h=>h) (Or.inl ⟨by rfl,?_⟩) ?_ ?_
 rotate_left
 ·intro w'
  go_simp
  with_reducible rfl
 rotate_left
 ·simp only [Act.put,zp1,zp2,zp3,i64_w,i32_w]
  rfl
 refine pure_ (i:=13) (N:=some 4) (v:=?_) (a':=?_) #[Y,Y,Y,Y,Y,Y,Y,Y,Y,Y,Y,Y,Y,Y] rfl rfl (by kernel_rfl) (fun _ _ _ h=>h) (Or.inl ⟨by rfl,?_⟩) ?_ ?_
 rotate_left
 ·intro w'
  go_simp
  with_reducible rfl
 rotate_left
 ·simp only [Act.put,zp1,zp2,zp3,i64_w,i32_w]
  rfl
 refine done_ (by kernel_rfl) ?_
 go_wp2
 go_ret
 exact ⟨rfl,hHeld.2.2.2.2⟩
set_option maxHeartbeats 8000000 in
set_option maxRecDepth 100000 in
theorem cellOk_num (n:Int) (wide:Int) (r:Bool) (w:World) (h:impl_numReckoning_ok.f n wide=some r):Calls Tryz.prog 95 #[.agg #[.int .i64 2,.int .i64 0,.int .i64 0,.int .i64 n],.int .i64 wide] w fun e w'=>e=.returned (.bool r)∧Below w.heap.size w w':=by
 have HB:=Aside0.mk (Below.refl w.heap.size w)
 have A:=Aside0.mk h
 clear h
 have RK:=impl_reckoningOf.calls 2 0 0 n
 rw [show rkVal 2 0 0 n=.iface 130 (.agg #[.int .i64 n]) from rfl] at RK
 go_enter Tryz.func95,Tryz.ntmps95
 go_wp2_with (first|(go_at_call 96;refine (RK _).mono ?_;rintro e w1 ⟨rfl,hb⟩;have HC:=Aside0.mk hb;clear hb))
 clear RK
 have c0:w1.cell? ⟨w.heap.size,0,none⟩=some (.int .i64 2):=(HC.out.cell (p:=⟨w.heap.size,0,none⟩) (by simp)).trans (by simp)
 have c1:w1.cell? ⟨w.heap.size,1,none⟩=some (.int .i64 0):=(HC.out.cell (p:=⟨w.heap.size,1,none⟩) (by simp)).trans (by simp)
 have c2:w1.cell? ⟨w.heap.size,2,none⟩=some (.int .i64 0):=(HC.out.cell (p:=⟨w.heap.size,2,none⟩) (by simp)).trans (by simp)
 have c3:w1.cell? ⟨w.heap.size,3,none⟩=some (.int .i64 n):=(HC.out.cell (p:=⟨w.heap.size,3,none⟩) (by simp)).trans (by simp)
 have B1:Below w.heap.size w w1:=below_step (below_alloc HB.out _) HC.out
 clear HC HB
 have mc : ∀ W : World, (method 246 130 (.agg #[.int .i64 n]) "loop.example/milldam/impl.cell").run Tryz.prog W = .ok (134, .agg #[.int .i64 n]) W := fun _ => by kernel_rfl
 have mo : ∀ W : World, (method 246 130 (.agg #[.int .i64 n]) "loop.example/milldam/impl.ok").run Tryz.prog W = .ok (136, .agg #[.int .i64 n]) W := fun _ => by kernel_rfl
 have qc:impl_numReckoning_cell.f n=some (2,0,0,n):=rfl
 refine start_ (n:=14) (S:=fun w'=>w'.cell? ⟨w.heap.size,0,none⟩=some (.int .i64 2)∧w'.cell? ⟨w.heap.size,1,none⟩=some (.int .i64 0)∧w'.cell? ⟨w.heap.size,2,none⟩=some (.int .i64 0)∧w'.cell? ⟨w.heap.size,3,none⟩=some (.int .i64 n)∧Below w.heap.size w w') (ds:=[]) #[X,X,X,X,X,X,X,X,X,X,X,X,X,X] (by kernel_rfl) rfl rfl ⟨c0,c1,c2,c3,(below_drew B1)⟩ (fun hHeld=>?_)
 refine pure_ (i:=0) (N:=some 8) (v:=?_) (a':=?_) #[Y,X,X,X,X,X,X,X,X,X,X,X,X,X] rfl rfl (by kernel_rfl) (fun _ _ _ h=>h) (Or.inl ⟨by rfl,?_⟩) ?_ ?_
 rotate_left
 ·intro w'
  go_simp
  with_reducible rfl
 rotate_left
 ·simp only [Act.put,zp1,zp2,zp3,i64_w,i32_w]
  rfl
 refine pure_ (i:=1) (N:=some 9) (v:=?_) (a':=?_) #[Y,Y,X,X,X,X,X,X,X,X,X,X,X,X] rfl rfl (by kernel_rfl) (fun _ _ _ h=>h) (Or.inl ⟨by rfl,?_⟩) ?_ ?_
 rotate_left
 ·intro w'
  go_simp
  with_reducible rfl
 rotate_left
 ·simp only [Act.put,zp1,zp2,zp3,i64_w,i32_w]
  rfl
 refine pure_ (i:=2) (N:=some 10) (v:=?_) (a':=?_) #[Y,Y,Y,X,X,X,X,X,X,X,X,X,X,X] rfl rfl (by kernel_rfl) (fun _ _ _ h=>h) (Or.inl ⟨by rfl,?_⟩) ?_ ?_
 rotate_left
 ·intro w'
  go_simp
  with_reducible rfl
 rotate_left
 ·simp only [Act.put,zp1,zp2,zp3,i64_w,i32_w]
  rfl
 refine pure_ (i:=3) (N:=some 11) (v:=?_) (a':=?_) #[Y,Y,Y,Y,X,X,X,X,X,X,X,X,X,X] rfl rfl (by kernel_rfl) (fun _ _ _ h=>h) (Or.inl ⟨by rfl,?_⟩) ?_ ?_
 rotate_left
 ·intro w'
  go_simp
  with_reducible rfl
 rotate_left
 ·simp only [Act.put,zp1,zp2,zp3,i64_w,i32_w]
  rfl
 refine take_ (i:=5) (N:=some 13) (v:=?_) (a':=?_) #[Y,Y,Y,Y,X,Y,X,X,X,X,X,X,X,X] rfl rfl (by kernel_rfl) (fun _ _ _ h=>h) (Or.inl ⟨by rfl,?_⟩) hHeld ?_ ?_
 rotate_left
 ·rintro w' ⟨s0,s1,s2,s3,s4⟩
  go_simp
  with_reducible rfl
 rotate_left
 ·simp only [Act.put,zp1,zp2,zp3,i64_w,i32_w]
  rfl
 refine one_ (i:=4) (N:=some 12) #[Y,Y,Y,Y,Y,Y,X,X,X,X,X,X,X,X] rfl rfl (by kernel_rfl) (by decide) (fun K hK=>?_)
 rw [if_pos (by rfl)]
 go_wp2_with (first|(go_at_call 134;refine (impl_numReckoning_cell.calls n 2 0 0 n _ qc).mono ?_;rintro e w' ⟨rfl,hb⟩))
 refine hK.out _ _ ⟨(pw_cell_below hb hHeld.1),(pw_cell_below hb hHeld.2.1),(pw_cell_below hb hHeld.2.2.1),(pw_cell_below hb hHeld.2.2.2.1),(below_step hHeld.2.2.2.2 hb)⟩ (fun hHeld=>?_)
 clear hK K
 refine pure_ (i:=6) (N:=some 14) (v:=?_) (a':=?_) #[Y,Y,Y,Y,Y,Y,Y,X,X,X,X,X,X,X] rfl rfl (by kernel_rfl) (fun _ _ _ h=>h) (Or.inl ⟨by rfl,?_⟩) ?_ ?_
 rotate_left
 ·intro w'
  go_simp
  with_reducible rfl
 rotate_left
 ·simp only [Act.put,zp1,zp2,zp3,i64_w,i32_w]
  rfl
 refine pure_ (i:=7) (N:=some 15) (v:=?_) (a':=?_) #[Y,Y,Y,Y,Y,Y,Y,Y,X,X,X,X,X,X] rfl rfl (by kernel_rfl) (fun _ _ _ h=>h) (Or.inl ⟨by rfl,?_⟩) ?_ ?_
 rotate_left
 ·intro w'
  go_simp
  with_reducible rfl
 rotate_left
 ·simp only [Act.put,zp1,zp2,zp3,i64_w,i32_w]
  rfl
 refine pure_ (i:=8) (N:=some 16) (v:=?_) (a':=?_) #[Y,Y,Y,Y,Y,Y,Y,Y,Y,X,X,X,X,X] rfl rfl (by kernel_rfl) (fun _ _ _ h=>h) (Or.inl ⟨by rfl,?_⟩) ?_ ?_
 rotate_left
 ·intro w'
  go_simp
  with_reducible rfl
 rotate_left
 ·simp only [Act.put,zp1,zp2,zp3,i64_w,i32_w]
  rfl
 refine pure_ (i:=9) (N:=some 17) (v:=?_) (a':=?_) #[Y,Y,Y,Y,Y,Y,Y,Y,Y,Y,X,X,X,X] rfl rfl (by kernel_rfl) (fun _ _ _ h=>h) (Or.inl ⟨by rfl,?_⟩) ?_ ?_
 rotate_left
 ·intro w'
  go_simp
  with_reducible rfl
 rotate_left
 ·simp only [Act.put,zp1,zp2,zp3,i64_w,i32_w]
  rfl
 refine pure_ (i:=10) (N:=some 18) (v:=?_) (a':=?_) #[Y,Y,Y,Y,Y,Y,Y,Y,Y,Y,Y,X,X,X] rfl rfl (by kernel_rfl) (fun _ _ _ h=>h) (Or.inl ⟨by rfl,?_⟩) ?_ ?_
 rotate_left
 ·intro w'
  go_simp
  with_reducible rfl
 rotate_left
 ·simp only [Act.put,zp1,zp2,zp3,i64_w,i32_w]
  rfl
 refine one_ (i:=11) (N:=some 19) #[Y,Y,Y,Y,Y,Y,Y,Y,Y,Y,Y,Y,X,X] rfl rfl (by kernel_rfl) (by decide) (fun K hK=>?_)
 rw [if_pos (by rfl)]
 go_wp2_with (first|(go_at_call 136;refine (impl_numReckoning_ok.calls n wide r _ A.out).mono ?_;rintro e w' ⟨rfl,hb⟩))
 refine hK.out _ _ ⟨(pw_cell_below hb hHeld.1),(pw_cell_below hb hHeld.2.1),(pw_cell_below hb hHeld.2.2.1),(pw_cell_below hb hHeld.2.2.2.1),(below_step hHeld.2.2.2.2 hb)⟩ (fun hHeld=>?_)
 clear hK K
 refine pure_ (i:=12) (N:=some 20) (v:=?_) (a':=?_) #[Y,Y,Y,Y,Y,Y,Y,Y,Y,Y,Y,Y,Y,X] rfl rfl (by kernel_rfl) (fun _ _ _ h=>h) (Or.inl ⟨by rfl,?_⟩) ?_ ?_
 rotate_left
 ·intro w'
  go_simp
  with_reducible rfl
 rotate_left
 ·simp only [Act.put,zp1,zp2,zp3,i64_w,i32_w]
  rfl
 refine pure_ (i:=13) (N:=some 4) (v:=?_) (a':=?_) #[Y,Y,Y,Y,Y,Y,Y,Y,Y,Y,Y,Y,Y,Y] rfl rfl (by kernel_rfl) (fun _ _ _ h=>h) (Or.inl ⟨by rfl,?_⟩) ?_ ?_
 rotate_left
 ·intro w'
  go_simp
  with_reducible rfl
 rotate_left
 ·simp only [Act.put,zp1,zp2,zp3,i64_w,i32_w]
  rfl
 refine done_ (by kernel_rfl) ?_
 go_wp2
 go_ret
 exact ⟨rfl,hHeld.2.2.2.2⟩
set_option maxHeartbeats 8000000 in
set_option maxRecDepth 100000 in
theorem cellOk_num_a (a b n:Int) (wide:Int) (w:World) (ha:((0:Int) == a)=false):Calls Tryz.prog 95 #[.agg #[.int .i64 2,.int .i64 a,.int .i64 b,.int .i64 n],.int .i64 wide] w fun e w'=>e=.returned (.bool false)∧Below w.heap.size w w':=by
 have HB:=Aside0.mk (Below.refl w.heap.size w)
 have RK:=impl_reckoningOf.calls 2 a b n
 rw [show rkVal 2 a b n=.iface 130 (.agg #[.int .i64 n]) from rfl] at RK
 go_enter Tryz.func95,Tryz.ntmps95
 go_wp2_with (first|(go_at_call 96;refine (RK _).mono ?_;rintro e w1 ⟨rfl,hb⟩;have HC:=Aside0.mk hb;clear hb))
 clear RK
 have c0:w1.cell? ⟨w.heap.size,0,none⟩=some (.int .i64 2):=(HC.out.cell (p:=⟨w.heap.size,0,none⟩) (by simp)).trans (by simp)
 have c1:w1.cell? ⟨w.heap.size,1,none⟩=some (.int .i64 a):=(HC.out.cell (p:=⟨w.heap.size,1,none⟩) (by simp)).trans (by simp)
 have c2:w1.cell? ⟨w.heap.size,2,none⟩=some (.int .i64 b):=(HC.out.cell (p:=⟨w.heap.size,2,none⟩) (by simp)).trans (by simp)
 have c3:w1.cell? ⟨w.heap.size,3,none⟩=some (.int .i64 n):=(HC.out.cell (p:=⟨w.heap.size,3,none⟩) (by simp)).trans (by simp)
 have B1:Below w.heap.size w w1:=below_step (below_alloc HB.out _) HC.out
 clear HC HB
 have mc : ∀ W : World, (method 246 130 (.agg #[.int .i64 n]) "loop.example/milldam/impl.cell").run Tryz.prog W = .ok (134, .agg #[.int .i64 n]) W := fun _ => by kernel_rfl
 have mo : ∀ W : World, (method 246 130 (.agg #[.int .i64 n]) "loop.example/milldam/impl.ok").run Tryz.prog W = .ok (136, .agg #[.int .i64 n]) W := fun _ => by kernel_rfl
 have qc:impl_numReckoning_cell.f n=some (2,0,0,n):=rfl
 refine start_ (n:=14) (S:=fun w'=>w'.cell? ⟨w.heap.size,0,none⟩=some (.int .i64 2)∧w'.cell? ⟨w.heap.size,1,none⟩=some (.int .i64 a)∧w'.cell? ⟨w.heap.size,2,none⟩=some (.int .i64 b)∧w'.cell? ⟨w.heap.size,3,none⟩=some (.int .i64 n)∧Below w.heap.size w w') (ds:=[]) #[X,X,X,X,X,X,X,X,X,X,X,X,X,X] (by kernel_rfl) rfl rfl ⟨c0,c1,c2,c3,(below_drew B1)⟩ (fun hHeld=>?_)
 refine pure_ (i:=0) (N:=some 8) (v:=?_) (a':=?_) #[Y,X,X,X,X,X,X,X,X,X,X,X,X,X] rfl rfl (by kernel_rfl) (fun _ _ _ h=>h) (Or.inl ⟨by rfl,?_⟩) ?_ ?_
 rotate_left
 ·intro w'
  go_simp
  with_reducible rfl
 rotate_left
 ·simp only [Act.put,zp1,zp2,zp3,i64_w,i32_w]
  rfl
 refine pure_ (i:=1) (N:=some 9) (v:=?_) (a':=?_) #[Y,Y,X,X,X,X,X,X,X,X,X,X,X,X] rfl rfl (by kernel_rfl) (fun _ _ _ h=>h) (Or.inl ⟨by rfl,?_⟩) ?_ ?_
 rotate_left
 ·intro w'
  go_simp
  with_reducible rfl
 rotate_left
 ·simp only [Act.put,zp1,zp2,zp3,i64_w,i32_w]
  rfl
 refine pure_ (i:=2) (N:=some 10) (v:=?_) (a':=?_) #[Y,Y,Y,X,X,X,X,X,X,X,X,X,X,X] rfl rfl (by kernel_rfl) (fun _ _ _ h=>h) (Or.inl ⟨by rfl,?_⟩) ?_ ?_
 rotate_left
 ·intro w'
  go_simp
  with_reducible rfl
 rotate_left
 ·simp only [Act.put,zp1,zp2,zp3,i64_w,i32_w]
  rfl
 refine pure_ (i:=3) (N:=some 11) (v:=?_) (a':=?_) #[Y,Y,Y,Y,X,X,X,X,X,X,X,X,X,X] rfl rfl (by kernel_rfl) (fun _ _ _ h=>h) (Or.inl ⟨by rfl,?_⟩) ?_ ?_
 rotate_left
 ·intro w'
  go_simp
  with_reducible rfl
 rotate_left
 ·simp only [Act.put,zp1,zp2,zp3,i64_w,i32_w]
  rfl
 refine take_ (i:=5) (N:=some 13) (v:=?_) (a':=?_) #[Y,Y,Y,Y,X,Y,X,X,X,X,X,X,X,X] rfl rfl (by kernel_rfl) (fun _ _ _ h=>h) (Or.inl ⟨by rfl,?_⟩) hHeld ?_ ?_
 rotate_left
 ·rintro w' ⟨s0,s1,s2,s3,s4⟩
  go_simp
  with_reducible rfl
 rotate_left
 ·simp only [Act.put,zp1,zp2,zp3,i64_w,i32_w]
  rfl
 refine one_ (i:=4) (N:=some 12) #[Y,Y,Y,Y,Y,Y,X,X,X,X,X,X,X,X] rfl rfl (by kernel_rfl) (by decide) (fun K hK=>?_)
 rw [if_pos (by rfl)]
 go_wp2_with (first|(go_at_call 134;refine (impl_numReckoning_cell.calls n 2 0 0 n _ qc).mono ?_;rintro e w' ⟨rfl,hb⟩))
 refine hK.out _ _ ⟨(pw_cell_below hb hHeld.1),(pw_cell_below hb hHeld.2.1),(pw_cell_below hb hHeld.2.2.1),(pw_cell_below hb hHeld.2.2.2.1),(below_step hHeld.2.2.2.2 hb)⟩ (fun hHeld=>?_)
 clear hK K
 refine pure_ (i:=6) (N:=some 14) (v:=?_) (a':=?_) #[Y,Y,Y,Y,Y,Y,Y,X,X,X,X,X,X,X] rfl rfl (by kernel_rfl) (fun _ _ _ h=>h) (Or.inl ⟨by rfl,?_⟩) ?_ ?_
 rotate_left
 ·intro w'
  go_simp
  with_reducible rfl
 rotate_left
 ·simp only [Act.put,zp1,zp2,zp3,i64_w,i32_w]
  rfl
 refine pure_ (i:=7) (N:=some 15) (v:=?_) (a':=?_) #[Y,Y,Y,Y,Y,Y,Y,Y,X,X,X,X,X,X] rfl rfl (by kernel_rfl) (fun _ _ _ h=>h) (Or.inl ⟨by rfl,?_⟩) ?_ ?_
 rotate_left
 ·intro w'
  go_simp
  with_reducible rfl
 rotate_left
 ·simp only [Act.put,zp1,zp2,zp3,i64_w,i32_w]
  rfl
 refine pure_ (i:=8) (N:=some 16) (v:=?_) (a':=?_) #[Y,Y,Y,Y,Y,Y,Y,Y,Y,X,X,X,X,X] rfl rfl (by kernel_rfl) (fun _ _ _ h=>h) (Or.inl ⟨by rfl,?_⟩) ?_ ?_
 rotate_left
 ·intro w'
  go_simp
  with_reducible rfl
 rotate_left
 ·simp only [Act.put,zp1,zp2,zp3,i64_w,i32_w]
  rfl
 refine pure_ (i:=9) (N:=some 17) (v:=undef) (a':=?_) #[Y,Y,Y,Y,Y,Y,Y,Y,Y,Y,X,X,X,X] rfl rfl (by kernel_rfl) (fun _ _ _ h=>h) (Or.inr ⟨by rfl,rfl⟩) ?_ ?_
 rotate_left
 ·simp only [Act.put,zp1,zp2,zp3,i64_w,i32_w]
  rfl
 refine pure_ (i:=10) (N:=some 18) (v:=undef) (a':=?_) #[Y,Y,Y,Y,Y,Y,Y,Y,Y,Y,Y,X,X,X] rfl rfl (by kernel_rfl) (fun _ _ _ h=>h) (Or.inr ⟨by rfl,rfl⟩) ?_ ?_
 rotate_left
 ·simp only [Act.put,zp1,zp2,zp3,i64_w,i32_w]
  rfl
 refine pure_ (i:=11) (N:=some 19) (v:=undef) (a':=?_) #[Y,Y,Y,Y,Y,Y,Y,Y,Y,Y,Y,Y,X,X] rfl rfl (by kernel_rfl) (fun _ _ _ h=>h) (Or.inr ⟨by rfl,rfl⟩) ?_ ?_
 rotate_left
 ·simp only [Act.put,zp1,zp2,zp3,i64_w,i32_w]
  rfl
 refine pure_ (i:=12) (N:=some 20) (v:=?_) (a':=?_) #[Y,Y,Y,Y,Y,Y,Y,Y,Y,Y,Y,Y,Y,X] rfl rfl (by kernel_rfl) (fun _ _ _ h=>h) (Or.inl ⟨by rfl,?_⟩) ?_ ?_
 rotate_left
 ·intro w'
  go_simp
  with_reducible rfl
 rotate_left
 ·simp only [Act.put,zp1,zp2,zp3,i64_w,i32_w]
  rfl
 refine pure_ (i:=13) (N:=some 4) (v:=?_) (a':=?_) #[Y,Y,Y,Y,Y,Y,Y,Y,Y,Y,Y,Y,Y,Y] rfl rfl (by kernel_rfl) (fun _ _ _ h=>h) (Or.inl ⟨by rfl,?_⟩) ?_ ?_
 rotate_left
 ·intro w'
  go_simp
  with_reducible rfl
 rotate_left
 ·simp only [Act.put,zp1,zp2,zp3,i64_w,i32_w]
  rfl
 refine done_ (by kernel_rfl) ?_
 go_wp2
 go_ret
 exact ⟨rfl,hHeld.2.2.2.2⟩
set_option maxHeartbeats 8000000 in
set_option maxRecDepth 100000 in
theorem cellOk_num_b (b n:Int) (wide:Int) (w:World) (hb:((0:Int) == b)=false):Calls Tryz.prog 95 #[.agg #[.int .i64 2,.int .i64 0,.int .i64 b,.int .i64 n],.int .i64 wide] w fun e w'=>e=.returned (.bool false)∧Below w.heap.size w w':=by
 have HB:=Aside0.mk (Below.refl w.heap.size w)
 have RK:=impl_reckoningOf.calls 2 0 b n
 rw [show rkVal 2 0 b n=.iface 130 (.agg #[.int .i64 n]) from rfl] at RK
 go_enter Tryz.func95,Tryz.ntmps95
 go_wp2_with (first|(go_at_call 96;refine (RK _).mono ?_;rintro e w1 ⟨rfl,hb⟩;have HC:=Aside0.mk hb;clear hb))
 clear RK
 have c0:w1.cell? ⟨w.heap.size,0,none⟩=some (.int .i64 2):=(HC.out.cell (p:=⟨w.heap.size,0,none⟩) (by simp)).trans (by simp)
 have c1:w1.cell? ⟨w.heap.size,1,none⟩=some (.int .i64 0):=(HC.out.cell (p:=⟨w.heap.size,1,none⟩) (by simp)).trans (by simp)
 have c2:w1.cell? ⟨w.heap.size,2,none⟩=some (.int .i64 b):=(HC.out.cell (p:=⟨w.heap.size,2,none⟩) (by simp)).trans (by simp)
 have c3:w1.cell? ⟨w.heap.size,3,none⟩=some (.int .i64 n):=(HC.out.cell (p:=⟨w.heap.size,3,none⟩) (by simp)).trans (by simp)
 have B1:Below w.heap.size w w1:=below_step (below_alloc HB.out _) HC.out
 clear HC HB
 have mc : ∀ W : World, (method 246 130 (.agg #[.int .i64 n]) "loop.example/milldam/impl.cell").run Tryz.prog W = .ok (134, .agg #[.int .i64 n]) W := fun _ => by kernel_rfl
 have mo : ∀ W : World, (method 246 130 (.agg #[.int .i64 n]) "loop.example/milldam/impl.ok").run Tryz.prog W = .ok (136, .agg #[.int .i64 n]) W := fun _ => by kernel_rfl
 have qc:impl_numReckoning_cell.f n=some (2,0,0,n):=rfl
 refine start_ (n:=14) (S:=fun w'=>w'.cell? ⟨w.heap.size,0,none⟩=some (.int .i64 2)∧w'.cell? ⟨w.heap.size,1,none⟩=some (.int .i64 0)∧w'.cell? ⟨w.heap.size,2,none⟩=some (.int .i64 b)∧w'.cell? ⟨w.heap.size,3,none⟩=some (.int .i64 n)∧Below w.heap.size w w') (ds:=[]) #[X,X,X,X,X,X,X,X,X,X,X,X,X,X] (by kernel_rfl) rfl rfl ⟨c0,c1,c2,c3,(below_drew B1)⟩ (fun hHeld=>?_)
 refine pure_ (i:=0) (N:=some 8) (v:=?_) (a':=?_) #[Y,X,X,X,X,X,X,X,X,X,X,X,X,X] rfl rfl (by kernel_rfl) (fun _ _ _ h=>h) (Or.inl ⟨by rfl,?_⟩) ?_ ?_
 rotate_left
 ·intro w'
  go_simp
  with_reducible rfl
 rotate_left
 ·simp only [Act.put,zp1,zp2,zp3,i64_w,i32_w]
  rfl
 refine pure_ (i:=1) (N:=some 9) (v:=?_) (a':=?_) #[Y,Y,X,X,X,X,X,X,X,X,X,X,X,X] rfl rfl (by kernel_rfl) (fun _ _ _ h=>h) (Or.inl ⟨by rfl,?_⟩) ?_ ?_
 rotate_left
 ·intro w'
  go_simp
  with_reducible rfl
 rotate_left
 ·simp only [Act.put,zp1,zp2,zp3,i64_w,i32_w]
  rfl
 refine pure_ (i:=2) (N:=some 10) (v:=?_) (a':=?_) #[Y,Y,Y,X,X,X,X,X,X,X,X,X,X,X] rfl rfl (by kernel_rfl) (fun _ _ _ h=>h) (Or.inl ⟨by rfl,?_⟩) ?_ ?_
 rotate_left
 ·intro w'
  go_simp
  with_reducible rfl
 rotate_left
 ·simp only [Act.put,zp1,zp2,zp3,i64_w,i32_w]
  rfl
 refine pure_ (i:=3) (N:=some 11) (v:=?_) (a':=?_) #[Y,Y,Y,Y,X,X,X,X,X,X,X,X,X,X] rfl rfl (by kernel_rfl) (fun _ _ _ h=>h) (Or.inl ⟨by rfl,?_⟩) ?_ ?_
 rotate_left
 ·intro w'
  go_simp
  with_reducible rfl
 rotate_left
 ·simp only [Act.put,zp1,zp2,zp3,i64_w,i32_w]
  rfl
 refine take_ (i:=5) (N:=some 13) (v:=?_) (a':=?_) #[Y,Y,Y,Y,X,Y,X,X,X,X,X,X,X,X] rfl rfl (by kernel_rfl) (fun _ _ _ h=>h) (Or.inl ⟨by rfl,?_⟩) hHeld ?_ ?_
 rotate_left
 ·rintro w' ⟨s0,s1,s2,s3,s4⟩
  go_simp
  with_reducible rfl
 rotate_left
 ·simp only [Act.put,zp1,zp2,zp3,i64_w,i32_w]
  rfl
 refine one_ (i:=4) (N:=some 12) #[Y,Y,Y,Y,Y,Y,X,X,X,X,X,X,X,X] rfl rfl (by kernel_rfl) (by decide) (fun K hK=>?_)
 rw [if_pos (by rfl)]
 go_wp2_with (first|(go_at_call 134;refine (impl_numReckoning_cell.calls n 2 0 0 n _ qc).mono ?_;rintro e w' ⟨rfl,hb⟩))
 refine hK.out _ _ ⟨(pw_cell_below hb hHeld.1),(pw_cell_below hb hHeld.2.1),(pw_cell_below hb hHeld.2.2.1),(pw_cell_below hb hHeld.2.2.2.1),(below_step hHeld.2.2.2.2 hb)⟩ (fun hHeld=>?_)
 clear hK K
 refine pure_ (i:=6) (N:=some 14) (v:=?_) (a':=?_) #[Y,Y,Y,Y,Y,Y,Y,X,X,X,X,X,X,X] rfl rfl (by kernel_rfl) (fun _ _ _ h=>h) (Or.inl ⟨by rfl,?_⟩) ?_ ?_
 rotate_left
 ·intro w'
  go_simp
  with_reducible rfl
 rotate_left
 ·simp only [Act.put,zp1,zp2,zp3,i64_w,i32_w]
  rfl
 refine pure_ (i:=7) (N:=some 15) (v:=?_) (a':=?_) #[Y,Y,Y,Y,Y,Y,Y,Y,X,X,X,X,X,X] rfl rfl (by kernel_rfl) (fun _ _ _ h=>h) (Or.inl ⟨by rfl,?_⟩) ?_ ?_
 rotate_left
 ·intro w'
  go_simp
  with_reducible rfl
 rotate_left
 ·simp only [Act.put,zp1,zp2,zp3,i64_w,i32_w]
  rfl
 refine pure_ (i:=8) (N:=some 16) (v:=?_) (a':=?_) #[Y,Y,Y,Y,Y,Y,Y,Y,Y,X,X,X,X,X] rfl rfl (by kernel_rfl) (fun _ _ _ h=>h) (Or.inl ⟨by rfl,?_⟩) ?_ ?_
 rotate_left
 ·intro w'
  go_simp
  with_reducible rfl
 rotate_left
 ·simp only [Act.put,zp1,zp2,zp3,i64_w,i32_w]
  rfl
 refine pure_ (i:=9) (N:=some 17) (v:=undef) (a':=?_) #[Y,Y,Y,Y,Y,Y,Y,Y,Y,Y,X,X,X,X] rfl rfl (by kernel_rfl) (fun _ _ _ h=>h) (Or.inr ⟨by rfl,rfl⟩) ?_ ?_
 rotate_left
 ·simp only [Act.put,zp1,zp2,zp3,i64_w,i32_w]
  rfl
 refine pure_ (i:=10) (N:=some 18) (v:=undef) (a':=?_) #[Y,Y,Y,Y,Y,Y,Y,Y,Y,Y,Y,X,X,X] rfl rfl (by kernel_rfl) (fun _ _ _ h=>h) (Or.inr ⟨by rfl,rfl⟩) ?_ ?_
 rotate_left
 ·simp only [Act.put,zp1,zp2,zp3,i64_w,i32_w]
  rfl
 refine pure_ (i:=11) (N:=some 19) (v:=undef) (a':=?_) #[Y,Y,Y,Y,Y,Y,Y,Y,Y,Y,Y,Y,X,X] rfl rfl (by kernel_rfl) (fun _ _ _ h=>h) (Or.inr ⟨by rfl,rfl⟩) ?_ ?_
 rotate_left
 ·simp only [Act.put,zp1,zp2,zp3,i64_w,i32_w]
  rfl
 refine pure_ (i:=12) (N:=some 20) (v:=?_) (a':=?_) #[Y,Y,Y,Y,Y,Y,Y,Y,Y,Y,Y,Y,Y,X] rfl rfl (by kernel_rfl) (fun _ _ _ h=>h) (Or.inl ⟨by rfl,?_⟩) ?_ ?_
 rotate_left
 ·intro w'
  go_simp
  with_reducible rfl
 rotate_left
 ·simp only [Act.put,zp1,zp2,zp3,i64_w,i32_w]
  rfl
 refine pure_ (i:=13) (N:=some 4) (v:=?_) (a':=?_) #[Y,Y,Y,Y,Y,Y,Y,Y,Y,Y,Y,Y,Y,Y] rfl rfl (by kernel_rfl) (fun _ _ _ h=>h) (Or.inl ⟨by rfl,?_⟩) ?_ ?_
 rotate_left
 ·intro w'
  go_simp
  with_reducible rfl
 rotate_left
 ·simp only [Act.put,zp1,zp2,zp3,i64_w,i32_w]
  rfl
 refine done_ (by kernel_rfl) ?_
 go_wp2
 go_ret
 exact ⟨rfl,hHeld.2.2.2.2⟩
set_option maxHeartbeats 8000000 in
set_option maxRecDepth 100000 in
theorem cellOk_sum (a b:Int) (wide:Int) (r:Bool) (w:World) (h:impl_sumReckoning_ok.f a b wide=some r):Calls Tryz.prog 95 #[.agg #[.int .i64 3,.int .i64 a,.int .i64 b,.int .i64 0],.int .i64 wide] w fun e w'=>e=.returned (.bool r)∧Below w.heap.size w w':=by
 have HB:=Aside0.mk (Below.refl w.heap.size w)
 have A:=Aside0.mk h
 clear h
 have RK:=impl_reckoningOf.calls 3 a b 0
 rw [show rkVal 3 a b 0=.iface 132 (.agg #[.int .i64 a,.int .i64 b]) from rfl] at RK
 go_enter Tryz.func95,Tryz.ntmps95
 go_wp2_with (first|(go_at_call 96;refine (RK _).mono ?_;rintro e w1 ⟨rfl,hb⟩;have HC:=Aside0.mk hb;clear hb))
 clear RK
 have c0:w1.cell? ⟨w.heap.size,0,none⟩=some (.int .i64 3):=(HC.out.cell (p:=⟨w.heap.size,0,none⟩) (by simp)).trans (by simp)
 have c1:w1.cell? ⟨w.heap.size,1,none⟩=some (.int .i64 a):=(HC.out.cell (p:=⟨w.heap.size,1,none⟩) (by simp)).trans (by simp)
 have c2:w1.cell? ⟨w.heap.size,2,none⟩=some (.int .i64 b):=(HC.out.cell (p:=⟨w.heap.size,2,none⟩) (by simp)).trans (by simp)
 have c3:w1.cell? ⟨w.heap.size,3,none⟩=some (.int .i64 0):=(HC.out.cell (p:=⟨w.heap.size,3,none⟩) (by simp)).trans (by simp)
 have B1:Below w.heap.size w w1:=below_step (below_alloc HB.out _) HC.out
 clear HC HB
 have mc : ∀ W : World, (method 246 132 (.agg #[.int .i64 a, .int .i64 b]) "loop.example/milldam/impl.cell").run Tryz.prog W = .ok (139, .agg #[.int .i64 a, .int .i64 b]) W := fun _ => by kernel_rfl
 have mo : ∀ W : World, (method 246 132 (.agg #[.int .i64 a, .int .i64 b]) "loop.example/milldam/impl.ok").run Tryz.prog W = .ok (141, .agg #[.int .i64 a, .int .i64 b]) W := fun _ => by kernel_rfl
 have qc:impl_sumReckoning_cell.f a b=some (3,a,b,0):=rfl
 refine start_ (n:=14) (S:=fun w'=>w'.cell? ⟨w.heap.size,0,none⟩=some (.int .i64 3)∧w'.cell? ⟨w.heap.size,1,none⟩=some (.int .i64 a)∧w'.cell? ⟨w.heap.size,2,none⟩=some (.int .i64 b)∧w'.cell? ⟨w.heap.size,3,none⟩=some (.int .i64 0)∧Below w.heap.size w w') (ds:=[]) #[X,X,X,X,X,X,X,X,X,X,X,X,X,X] (by kernel_rfl) rfl rfl ⟨c0,c1,c2,c3,(below_drew B1)⟩ (fun hHeld=>?_)
 refine pure_ (i:=0) (N:=some 8) (v:=?_) (a':=?_) #[Y,X,X,X,X,X,X,X,X,X,X,X,X,X] rfl rfl (by kernel_rfl) (fun _ _ _ h=>h) (Or.inl ⟨by rfl,?_⟩) ?_ ?_
 rotate_left
 ·intro w'
  go_simp
  with_reducible rfl
 rotate_left
 ·simp only [Act.put,zp1,zp2,zp3,i64_w,i32_w]
  rfl
 refine pure_ (i:=1) (N:=some 9) (v:=?_) (a':=?_) #[Y,Y,X,X,X,X,X,X,X,X,X,X,X,X] rfl rfl (by kernel_rfl) (fun _ _ _ h=>h) (Or.inl ⟨by rfl,?_⟩) ?_ ?_
 rotate_left
 ·intro w'
  go_simp
  with_reducible rfl
 rotate_left
 ·simp only [Act.put,zp1,zp2,zp3,i64_w,i32_w]
  rfl
 refine pure_ (i:=2) (N:=some 10) (v:=?_) (a':=?_) #[Y,Y,Y,X,X,X,X,X,X,X,X,X,X,X] rfl rfl (by kernel_rfl) (fun _ _ _ h=>h) (Or.inl ⟨by rfl,?_⟩) ?_ ?_
 rotate_left
 ·intro w'
  go_simp
  with_reducible rfl
 rotate_left
 ·simp only [Act.put,zp1,zp2,zp3,i64_w,i32_w]
  rfl
 refine pure_ (i:=3) (N:=some 11) (v:=?_) (a':=?_) #[Y,Y,Y,Y,X,X,X,X,X,X,X,X,X,X] rfl rfl (by kernel_rfl) (fun _ _ _ h=>h) (Or.inl ⟨by rfl,?_⟩) ?_ ?_
 rotate_left
 ·intro w'
  go_simp
  with_reducible rfl
 rotate_left
 ·simp only [Act.put,zp1,zp2,zp3,i64_w,i32_w]
  rfl
 refine take_ (i:=5) (N:=some 13) (v:=?_) (a':=?_) #[Y,Y,Y,Y,X,Y,X,X,X,X,X,X,X,X] rfl rfl (by kernel_rfl) (fun _ _ _ h=>h) (Or.inl ⟨by rfl,?_⟩) hHeld ?_ ?_
 rotate_left
 ·rintro w' ⟨s0,s1,s2,s3,s4⟩
  go_simp
  with_reducible rfl
 rotate_left
 ·simp only [Act.put,zp1,zp2,zp3,i64_w,i32_w]
  rfl
 refine one_ (i:=4) (N:=some 12) #[Y,Y,Y,Y,Y,Y,X,X,X,X,X,X,X,X] rfl rfl (by kernel_rfl) (by decide) (fun K hK=>?_)
 rw [if_pos (by rfl)]
 go_wp2_with (first|(go_at_call 139;refine (impl_sumReckoning_cell.calls a b 3 a b 0 _ qc).mono ?_;rintro e w' ⟨rfl,hb⟩))
 refine hK.out _ _ ⟨(pw_cell_below hb hHeld.1),(pw_cell_below hb hHeld.2.1),(pw_cell_below hb hHeld.2.2.1),(pw_cell_below hb hHeld.2.2.2.1),(below_step hHeld.2.2.2.2 hb)⟩ (fun hHeld=>?_)
 clear hK K
 refine pure_ (i:=6) (N:=some 14) (v:=?_) (a':=?_) #[Y,Y,Y,Y,Y,Y,Y,X,X,X,X,X,X,X] rfl rfl (by kernel_rfl) (fun _ _ _ h=>h) (Or.inl ⟨by rfl,?_⟩) ?_ ?_
 rotate_left
 ·intro w'
  go_simp
  with_reducible rfl
 rotate_left
 ·simp only [Act.put,zp1,zp2,zp3,i64_w,i32_w]
  rfl
 refine pure_ (i:=7) (N:=some 15) (v:=?_) (a':=?_) #[Y,Y,Y,Y,Y,Y,Y,Y,X,X,X,X,X,X] rfl rfl (by kernel_rfl) (fun _ _ _ h=>h) (Or.inl ⟨by rfl,?_⟩) ?_ ?_
 rotate_left
 ·intro w'
  go_simp
  with_reducible rfl
 rotate_left
 ·simp only [Act.put,zp1,zp2,zp3,i64_w,i32_w]
  rfl
 refine pure_ (i:=8) (N:=some 16) (v:=?_) (a':=?_) #[Y,Y,Y,Y,Y,Y,Y,Y,Y,X,X,X,X,X] rfl rfl (by kernel_rfl) (fun _ _ _ h=>h) (Or.inl ⟨by rfl,?_⟩) ?_ ?_
 rotate_left
 ·intro w'
  go_simp
  with_reducible rfl
 rotate_left
 ·simp only [Act.put,zp1,zp2,zp3,i64_w,i32_w]
  rfl
 refine pure_ (i:=9) (N:=some 17) (v:=?_) (a':=?_) #[Y,Y,Y,Y,Y,Y,Y,Y,Y,Y,X,X,X,X] rfl rfl (by kernel_rfl) (fun _ _ _ h=>h) (Or.inl ⟨by rfl,?_⟩) ?_ ?_
 rotate_left
 ·intro w'
  go_simp
  with_reducible rfl
 rotate_left
 ·simp only [Act.put,zp1,zp2,zp3,i64_w,i32_w]
  rfl
 refine pure_ (i:=10) (N:=some 18) (v:=?_) (a':=?_) #[Y,Y,Y,Y,Y,Y,Y,Y,Y,Y,Y,X,X,X] rfl rfl (by kernel_rfl) (fun _ _ _ h=>h) (Or.inl ⟨by rfl,?_⟩) ?_ ?_
 rotate_left
 ·intro w'
  go_simp
  with_reducible rfl
 rotate_left
 ·simp only [Act.put,zp1,zp2,zp3,i64_w,i32_w]
  rfl
 refine one_ (i:=11) (N:=some 19) #[Y,Y,Y,Y,Y,Y,Y,Y,Y,Y,Y,Y,X,X] rfl rfl (by kernel_rfl) (by decide) (fun K hK=>?_)
 rw [if_pos (by rfl)]
 go_wp2_with (first|(go_at_call 141;refine (impl_sumReckoning_ok.calls a b wide r _ A.out).mono ?_;rintro e w' ⟨rfl,hb⟩))
 refine hK.out _ _ ⟨(pw_cell_below hb hHeld.1),(pw_cell_below hb hHeld.2.1),(pw_cell_below hb hHeld.2.2.1),(pw_cell_below hb hHeld.2.2.2.1),(below_step hHeld.2.2.2.2 hb)⟩ (fun hHeld=>?_)
 clear hK K
 refine pure_ (i:=12) (N:=some 20) (v:=?_) (a':=?_) #[Y,Y,Y,Y,Y,Y,Y,Y,Y,Y,Y,Y,Y,X] rfl rfl (by kernel_rfl) (fun _ _ _ h=>h) (Or.inl ⟨by rfl,?_⟩) ?_ ?_
 rotate_left
 ·intro w'
  go_simp
  with_reducible rfl
 rotate_left
 ·simp only [Act.put,zp1,zp2,zp3,i64_w,i32_w]
  rfl
 refine pure_ (i:=13) (N:=some 4) (v:=?_) (a':=?_) #[Y,Y,Y,Y,Y,Y,Y,Y,Y,Y,Y,Y,Y,Y] rfl rfl (by kernel_rfl) (fun _ _ _ h=>h) (Or.inl ⟨by rfl,?_⟩) ?_ ?_
 rotate_left
 ·intro w'
  go_simp
  with_reducible rfl
 rotate_left
 ·simp only [Act.put,zp1,zp2,zp3,i64_w,i32_w]
  rfl
 refine done_ (by kernel_rfl) ?_
 go_wp2
 go_ret
 exact ⟨rfl,hHeld.2.2.2.2⟩
set_option maxHeartbeats 8000000 in
set_option maxRecDepth 100000 in
theorem cellOk_sum_n (a b n:Int) (wide:Int) (w:World) (hn:((0:Int) == n)=false):Calls Tryz.prog 95 #[.agg #[.int .i64 3,.int .i64 a,.int .i64 b,.int .i64 n],.int .i64 wide] w fun e w'=>e=.returned (.bool false)∧Below w.heap.size w w':=by
 have HB:=Aside0.mk (Below.refl w.heap.size w)
 have RK:=impl_reckoningOf.calls 3 a b n
 rw [show rkVal 3 a b n=.iface 132 (.agg #[.int .i64 a,.int .i64 b]) from rfl] at RK
 go_enter Tryz.func95,Tryz.ntmps95
 go_wp2_with (first|(go_at_call 96;refine (RK _).mono ?_;rintro e w1 ⟨rfl,hb⟩;have HC:=Aside0.mk hb;clear hb))
 clear RK
 have c0:w1.cell? ⟨w.heap.size,0,none⟩=some (.int .i64 3):=(HC.out.cell (p:=⟨w.heap.size,0,none⟩) (by simp)).trans (by simp)
 have c1:w1.cell? ⟨w.heap.size,1,none⟩=some (.int .i64 a):=(HC.out.cell (p:=⟨w.heap.size,1,none⟩) (by simp)).trans (by simp)
 have c2:w1.cell? ⟨w.heap.size,2,none⟩=some (.int .i64 b):=(HC.out.cell (p:=⟨w.heap.size,2,none⟩) (by simp)).trans (by simp)
 have c3:w1.cell? ⟨w.heap.size,3,none⟩=some (.int .i64 n):=(HC.out.cell (p:=⟨w.heap.size,3,none⟩) (by simp)).trans (by simp)
 have B1:Below w.heap.size w w1:=below_step (below_alloc HB.out _) HC.out
 clear HC HB
 have mc : ∀ W : World, (method 246 132 (.agg #[.int .i64 a, .int .i64 b]) "loop.example/milldam/impl.cell").run Tryz.prog W = .ok (139, .agg #[.int .i64 a, .int .i64 b]) W := fun _ => by kernel_rfl
 have mo : ∀ W : World, (method 246 132 (.agg #[.int .i64 a, .int .i64 b]) "loop.example/milldam/impl.ok").run Tryz.prog W = .ok (141, .agg #[.int .i64 a, .int .i64 b]) W := fun _ => by kernel_rfl
 have qc:impl_sumReckoning_cell.f a b=some (3,a,b,0):=rfl
 refine start_ (n:=14) (S:=fun w'=>w'.cell? ⟨w.heap.size,0,none⟩=some (.int .i64 3)∧w'.cell? ⟨w.heap.size,1,none⟩=some (.int .i64 a)∧w'.cell? ⟨w.heap.size,2,none⟩=some (.int .i64 b)∧w'.cell? ⟨w.heap.size,3,none⟩=some (.int .i64 n)∧Below w.heap.size w w') (ds:=[]) #[X,X,X,X,X,X,X,X,X,X,X,X,X,X] (by kernel_rfl) rfl rfl ⟨c0,c1,c2,c3,(below_drew B1)⟩ (fun hHeld=>?_)
 refine pure_ (i:=0) (N:=some 8) (v:=?_) (a':=?_) #[Y,X,X,X,X,X,X,X,X,X,X,X,X,X] rfl rfl (by kernel_rfl) (fun _ _ _ h=>h) (Or.inl ⟨by rfl,?_⟩) ?_ ?_
 rotate_left
 ·intro w'
  go_simp
  with_reducible rfl
 rotate_left
 ·simp only [Act.put,zp1,zp2,zp3,i64_w,i32_w]
  rfl
 refine pure_ (i:=1) (N:=some 9) (v:=?_) (a':=?_) #[Y,Y,X,X,X,X,X,X,X,X,X,X,X,X] rfl rfl (by kernel_rfl) (fun _ _ _ h=>h) (Or.inl ⟨by rfl,?_⟩) ?_ ?_
 rotate_left
 ·intro w'
  go_simp
  with_reducible rfl
 rotate_left
 ·simp only [Act.put,zp1,zp2,zp3,i64_w,i32_w]
  rfl
 refine pure_ (i:=2) (N:=some 10) (v:=?_) (a':=?_) #[Y,Y,Y,X,X,X,X,X,X,X,X,X,X,X] rfl rfl (by kernel_rfl) (fun _ _ _ h=>h) (Or.inl ⟨by rfl,?_⟩) ?_ ?_
 rotate_left
 ·intro w'
  go_simp
  with_reducible rfl
 rotate_left
 ·simp only [Act.put,zp1,zp2,zp3,i64_w,i32_w]
  rfl
 refine pure_ (i:=3) (N:=some 11) (v:=?_) (a':=?_) #[Y,Y,Y,Y,X,X,X,X,X,X,X,X,X,X] rfl rfl (by kernel_rfl) (fun _ _ _ h=>h) (Or.inl ⟨by rfl,?_⟩) ?_ ?_
 rotate_left
 ·intro w'
  go_simp
  with_reducible rfl
 rotate_left
 ·simp only [Act.put,zp1,zp2,zp3,i64_w,i32_w]
  rfl
 refine take_ (i:=5) (N:=some 13) (v:=?_) (a':=?_) #[Y,Y,Y,Y,X,Y,X,X,X,X,X,X,X,X] rfl rfl (by kernel_rfl) (fun _ _ _ h=>h) (Or.inl ⟨by rfl,?_⟩) hHeld ?_ ?_
 rotate_left
 ·rintro w' ⟨s0,s1,s2,s3,s4⟩
  go_simp
  with_reducible rfl
 rotate_left
 ·simp only [Act.put,zp1,zp2,zp3,i64_w,i32_w]
  rfl
 refine one_ (i:=4) (N:=some 12) #[Y,Y,Y,Y,Y,Y,X,X,X,X,X,X,X,X] rfl rfl (by kernel_rfl) (by decide) (fun K hK=>?_)
 rw [if_pos (by rfl)]
 go_wp2_with (first|(go_at_call 139;refine (impl_sumReckoning_cell.calls a b 3 a b 0 _ qc).mono ?_;rintro e w' ⟨rfl,hb⟩))
 refine hK.out _ _ ⟨(pw_cell_below hb hHeld.1),(pw_cell_below hb hHeld.2.1),(pw_cell_below hb hHeld.2.2.1),(pw_cell_below hb hHeld.2.2.2.1),(below_step hHeld.2.2.2.2 hb)⟩ (fun hHeld=>?_)
 clear hK K
 refine pure_ (i:=6) (N:=some 14) (v:=?_) (a':=?_) #[Y,Y,Y,Y,Y,Y,Y,X,X,X,X,X,X,X] rfl rfl (by kernel_rfl) (fun _ _ _ h=>h) (Or.inl ⟨by rfl,?_⟩) ?_ ?_
 rotate_left
 ·intro w'
  go_simp
  with_reducible rfl
 rotate_left
 ·simp only [Act.put,zp1,zp2,zp3,i64_w,i32_w]
  rfl
 refine pure_ (i:=7) (N:=some 15) (v:=?_) (a':=?_) #[Y,Y,Y,Y,Y,Y,Y,Y,X,X,X,X,X,X] rfl rfl (by kernel_rfl) (fun _ _ _ h=>h) (Or.inl ⟨by rfl,?_⟩) ?_ ?_
 rotate_left
 ·intro w'
  go_simp
  with_reducible rfl
 rotate_left
 ·simp only [Act.put,zp1,zp2,zp3,i64_w,i32_w]
  rfl
 refine pure_ (i:=8) (N:=some 16) (v:=?_) (a':=?_) #[Y,Y,Y,Y,Y,Y,Y,Y,Y,X,X,X,X,X] rfl rfl (by kernel_rfl) (fun _ _ _ h=>h) (Or.inl ⟨by rfl,?_⟩) ?_ ?_
 rotate_left
 ·intro w'
  go_simp
  with_reducible rfl
 rotate_left
 ·simp only [Act.put,zp1,zp2,zp3,i64_w,i32_w]
  rfl
 refine pure_ (i:=9) (N:=some 17) (v:=undef) (a':=?_) #[Y,Y,Y,Y,Y,Y,Y,Y,Y,Y,X,X,X,X] rfl rfl (by kernel_rfl) (fun _ _ _ h=>h) (Or.inr ⟨by rfl,rfl⟩) ?_ ?_
 rotate_left
 ·simp only [Act.put,zp1,zp2,zp3,i64_w,i32_w]
  rfl
 refine pure_ (i:=10) (N:=some 18) (v:=undef) (a':=?_) #[Y,Y,Y,Y,Y,Y,Y,Y,Y,Y,Y,X,X,X] rfl rfl (by kernel_rfl) (fun _ _ _ h=>h) (Or.inr ⟨by rfl,rfl⟩) ?_ ?_
 rotate_left
 ·simp only [Act.put,zp1,zp2,zp3,i64_w,i32_w]
  rfl
 refine pure_ (i:=11) (N:=some 19) (v:=undef) (a':=?_) #[Y,Y,Y,Y,Y,Y,Y,Y,Y,Y,Y,Y,X,X] rfl rfl (by kernel_rfl) (fun _ _ _ h=>h) (Or.inr ⟨by rfl,rfl⟩) ?_ ?_
 rotate_left
 ·simp only [Act.put,zp1,zp2,zp3,i64_w,i32_w]
  rfl
 refine pure_ (i:=12) (N:=some 20) (v:=?_) (a':=?_) #[Y,Y,Y,Y,Y,Y,Y,Y,Y,Y,Y,Y,Y,X] rfl rfl (by kernel_rfl) (fun _ _ _ h=>h) (Or.inl ⟨by rfl,?_⟩) ?_ ?_
 rotate_left
 ·intro w'
  go_simp
  with_reducible rfl
 rotate_left
 ·simp only [Act.put,zp1,zp2,zp3,i64_w,i32_w]
  rfl
 refine pure_ (i:=13) (N:=some 4) (v:=?_) (a':=?_) #[Y,Y,Y,Y,Y,Y,Y,Y,Y,Y,Y,Y,Y,Y] rfl rfl (by kernel_rfl) (fun _ _ _ h=>h) (Or.inl ⟨by rfl,?_⟩) ?_ ?_
 rotate_left
 ·intro w'
  go_simp
  with_reducible rfl
 rotate_left
 ·simp only [Act.put,zp1,zp2,zp3,i64_w,i32_w]
  rfl
 refine done_ (by kernel_rfl) ?_
 go_wp2
 go_ret
 exact ⟨rfl,hHeld.2.2.2.2⟩
set_option maxHeartbeats 8000000 in
set_option maxRecDepth 100000 in
theorem cellOk_none (k a b n:Int) (wide:Int) (w:World) (h1:k≠1) (h2:k≠2) (h3:k≠3):Calls Tryz.prog 95 #[.agg #[.int .i64 k,.int .i64 a,.int .i64 b,.int .i64 n],.int .i64 wide] w fun e w'=>e=.returned (.bool false)∧Below w.heap.size w w':=by
 have HB:=Aside0.mk (Below.refl w.heap.size w)
 have RK:=impl_reckoningOf.calls k a b n
 unfold rkVal at RK
 rw [if_neg h1,if_neg h2,if_neg h3] at RK
 clear h1 h2 h3
 go_enter Tryz.func95,Tryz.ntmps95
 go_wp2_with (first|(go_at_call 96;refine (RK _).mono ?_;rintro e w1 ⟨rfl,hb⟩;have HC:=Aside0.mk hb;clear hb))
 clear RK
 have B1:Below w.heap.size w w1:=below_step (below_alloc HB.out _) HC.out
 clear HC HB
 refine start_ (n:=14) (S:=fun w'=>Below w.heap.size w w') (ds:=[]) #[X,X,X,X,X,X,X,X,X,X,X,X,X,X] (by kernel_rfl) rfl rfl ((below_drew B1)) (fun hHeld=>?_)
 refine pure_ (i:=0) (N:=some 8) (v:=?_) (a':=?_) #[Y,X,X,X,X,X,X,X,X,X,X,X,X,X] rfl rfl (by kernel_rfl) (fun _ _ _ h=>h) (Or.inl ⟨by rfl,?_⟩) ?_ ?_
 rotate_left
 ·intro w'
  go_simp
  with_reducible rfl
 rotate_left
 ·simp only [Act.put,zp1,zp2,zp3,i64_w,i32_w]
  rfl
 refine pure_ (i:=1) (N:=some 9) (v:=?_) (a':=?_) #[Y,Y,X,X,X,X,X,X,X,X,X,X,X,X] rfl rfl (by kernel_rfl) (fun _ _ _ h=>h) (Or.inl ⟨by rfl,?_⟩) ?_ ?_
 rotate_left
 ·intro w'
  go_simp
  with_reducible rfl
 rotate_left
 ·simp only [Act.put,zp1,zp2,zp3,i64_w,i32_w]
  rfl
 refine pure_ (i:=2) (N:=some 10) (v:=?_) (a':=?_) #[Y,Y,Y,X,X,X,X,X,X,X,X,X,X,X] rfl rfl (by kernel_rfl) (fun _ _ _ h=>h) (Or.inl ⟨by rfl,?_⟩) ?_ ?_
 rotate_left
 ·intro w'
  go_simp
  with_reducible rfl
 rotate_left
 ·simp only [Act.put,zp1,zp2,zp3,i64_w,i32_w]
  rfl
 refine pure_ (i:=3) (N:=some 11) (v:=undef) (a':=?_) #[Y,Y,Y,Y,X,X,X,X,X,X,X,X,X,X] rfl rfl (by kernel_rfl) (fun _ _ _ h=>h) (Or.inr ⟨by rfl,rfl⟩) ?_ ?_
 rotate_left
 ·simp only [Act.put,zp1,zp2,zp3,i64_w,i32_w]
  rfl
 refine pure_ (i:=4) (N:=some 12) (v:=undef) (a':=?_) #[Y,Y,Y,Y,Y,X,X,X,X,X,X,X,X,X] rfl rfl (by kernel_rfl) (fun _ _ _ h=>h) (Or.inr ⟨by rfl,rfl⟩) ?_ ?_
 rotate_left
 ·simp only [Act.put,zp1,zp2,zp3,i64_w,i32_w]
  rfl
 refine pure_ (i:=5) (N:=some 13) (v:=undef) (a':=?_) #[Y,Y,Y,Y,Y,Y,X,X,X,X,X,X,X,X] rfl rfl (by kernel_rfl) (fun _ _ _ h=>h) (Or.inr ⟨by rfl,rfl⟩) ?_ ?_
 rotate_left
 ·simp only [Act.put,zp1,zp2,zp3,i64_w,i32_w]
  rfl
 refine pure_ (i:=6) (N:=some 14) (v:=undef) (a':=?_) #[Y,Y,Y,Y,Y,Y,Y,X,X,X,X,X,X,X] rfl rfl (by kernel_rfl) (fun _ _ _ h=>h) (Or.inr ⟨by rfl,rfl⟩) ?_ ?_
 rotate_left
 ·simp only [Act.put,zp1,zp2,zp3,i64_w,i32_w]
  rfl
 refine pure_ (i:=7) (N:=some 15) (v:=?_) (a':=?_) #[Y,Y,Y,Y,Y,Y,Y,Y,X,X,X,X,X,X] rfl rfl (by kernel_rfl) (fun _ _ _ h=>h) (Or.inl ⟨by rfl,?_⟩) ?_ ?_
 rotate_left
 ·intro w'
  go_simp
  with_reducible rfl
 rotate_left
 ·simp only [Act.put,zp1,zp2,zp3,i64_w,i32_w]
  rfl
 refine pure_ (i:=8) (N:=some 16) (v:=?_) (a':=?_) #[Y,Y,Y,Y,Y,Y,Y,Y,Y,X,X,X,X,X] rfl rfl (by kernel_rfl) (fun _ _ _ h=>h) (Or.inl ⟨by rfl,?_⟩) ?_ ?_
 rotate_left
 ·intro w'
  go_simp
  with_reducible rfl
 rotate_left
 ·simp only [Act.put,zp1,zp2,zp3,i64_w,i32_w]
  rfl
 refine pure_ (i:=9) (N:=some 17) (v:=undef) (a':=?_) #[Y,Y,Y,Y,Y,Y,Y,Y,Y,Y,X,X,X,X] rfl rfl (by kernel_rfl) (fun _ _ _ h=>h) (Or.inr ⟨by rfl,rfl⟩) ?_ ?_
 rotate_left
 ·simp only [Act.put,zp1,zp2,zp3,i64_w,i32_w]
  rfl
 refine pure_ (i:=10) (N:=some 18) (v:=undef) (a':=?_) #[Y,Y,Y,Y,Y,Y,Y,Y,Y,Y,Y,X,X,X] rfl rfl (by kernel_rfl) (fun _ _ _ h=>h) (Or.inr ⟨by rfl,rfl⟩) ?_ ?_
 rotate_left
 ·simp only [Act.put,zp1,zp2,zp3,i64_w,i32_w]
  rfl
 refine pure_ (i:=11) (N:=some 19) (v:=undef) (a':=?_) #[Y,Y,Y,Y,Y,Y,Y,Y,Y,Y,Y,Y,X,X] rfl rfl (by kernel_rfl) (fun _ _ _ h=>h) (Or.inr ⟨by rfl,rfl⟩) ?_ ?_
 rotate_left
 ·simp only [Act.put,zp1,zp2,zp3,i64_w,i32_w]
  rfl
 refine pure_ (i:=12) (N:=some 20) (v:=?_) (a':=?_) #[Y,Y,Y,Y,Y,Y,Y,Y,Y,Y,Y,Y,Y,X] rfl rfl (by kernel_rfl) (fun _ _ _ h=>h) (Or.inl ⟨by rfl,?_⟩) ?_ ?_
 rotate_left
 ·intro w'
  go_simp
  with_reducible rfl
 rotate_left
 ·simp only [Act.put,zp1,zp2,zp3,i64_w,i32_w]
  rfl
 refine pure_ (i:=13) (N:=some 4) (v:=?_) (a':=?_) #[Y,Y,Y,Y,Y,Y,Y,Y,Y,Y,Y,Y,Y,Y] rfl rfl (by kernel_rfl) (fun _ _ _ h=>h) (Or.inl ⟨by rfl,?_⟩) ?_ ?_
 rotate_left
 ·intro w'
  go_simp
  with_reducible rfl
 rotate_left
 ·simp only [Act.put,zp1,zp2,zp3,i64_w,i32_w]
  rfl
 refine done_ (by kernel_rfl) ?_
 go_wp2
 go_ret
 exact ⟨rfl,hHeld⟩
set_option maxHeartbeats 8000000 in
theorem impl_CellOk.calls (a0_0:Int) (a0_1:Int) (a0_2:Int) (a0_3:Int) (a1:Int) (r:Bool) (w:World) (h:impl_CellOk.f a0_0 a0_1 a0_2 a0_3 a1=some r) :
  Calls Tryz.prog 95 #[.agg #[.int .i64 a0_0,.int .i64 a0_1,.int .i64 a0_2,.int .i64 a0_3],.int .i64 a1] w fun e w'=>e=.returned (.bool r)∧Below w.heap.size w w':=by
 have ne : ∀ x:Int,¬ x=0→((0:Int) == x)=false:=fun x hx=>by simpa using fun e:0=x=>hx e.symm
 unfold impl_CellOk.f at h
 by_cases h1:a0_0=1
 ·subst h1
  rw [if_pos rfl] at h
  by_cases h2:a0_2=0
  ·subst h2
   rw [if_pos rfl] at h
   by_cases h3:a0_3=0
   ·subst h3
    rw [if_pos rfl] at h
    exact cellOk_col a0_1 a1 r w h
   ·rw [if_neg h3] at h
    obtain rfl:=Option.some.inj h
    exact cellOk_col_n a0_1 a0_3 a1 w (ne _ h3)
  ·rw [if_neg h2] at h
   obtain rfl:=Option.some.inj h
   exact cellOk_col_b a0_1 a0_2 a0_3 a1 w (ne _ h2)
 rw [if_neg h1] at h
 by_cases h2:a0_0=2
 ·subst h2
  rw [if_pos rfl] at h
  by_cases h3:a0_1=0
  ·subst h3
   rw [if_pos rfl] at h
   by_cases h4:a0_2=0
   ·subst h4
    rw [if_pos rfl] at h
    exact cellOk_num a0_3 a1 r w h
   ·rw [if_neg h4] at h
    obtain rfl:=Option.some.inj h
    exact cellOk_num_b a0_2 a0_3 a1 w (ne _ h4)
  ·rw [if_neg h3] at h
   obtain rfl:=Option.some.inj h
   exact cellOk_num_a a0_1 a0_2 a0_3 a1 w (ne _ h3)
 rw [if_neg h2] at h
 by_cases h3:a0_0=3
 ·subst h3
  rw [if_pos rfl] at h
  by_cases h4:a0_3=0
  ·subst h4
   rw [if_pos rfl] at h
   exact cellOk_sum a0_1 a0_2 a1 r w h
  ·rw [if_neg h4] at h
   obtain rfl:=Option.some.inj h
   exact cellOk_sum_n a0_1 a0_2 a0_3 a1 w (ne _ h4)
 rw [if_neg h3] at h
 obtain rfl:=Option.some.inj h
 exact cellOk_none a0_0 a0_1 a0_2 a0_3 a1 w h1 h2 h3

/-! ### impl_TestOk: function 94 -/
def impl_TestOk.f (a0_0:Int) (a0_1:Bool) (a0_2:Int) (a0_3:Int) (a0_4:Int) (a0_5:Int) (a0_6:Int) (a0_7:Int) (a0_8:Int) (a0_9:Int) (a1:Int):Option (Bool):=if a0_0=1 then ((impl_CellOk.f a0_2 a0_3 a0_4 a0_5 a1).bind fun t221=>(if t221=true then ((impl_CellOk.f a0_6 a0_7 a0_8 a0_9 a1).bind fun t222=>(some t222)) else (some false))) else (if a0_0=2 then ((impl_CellOk.f a0_2 a0_3 a0_4 a0_5 a1).bind fun t223=>(if t223=true then ((impl_CellOk.f a0_6 a0_7 a0_8 a0_9 a1).bind fun t224=>(some t224)) else (some false))) else (some false))
set_option maxHeartbeats 8000000 in
set_option maxRecDepth 100000 in
theorem impl_TestOk.calls (a0_0:Int) (a0_1:Bool) (a0_2:Int) (a0_3:Int) (a0_4:Int) (a0_5:Int) (a0_6:Int) (a0_7:Int) (a0_8:Int) (a0_9:Int) (a1:Int) (r:Bool) (w:World) (h:impl_TestOk.f a0_0 a0_1 a0_2 a0_3 a0_4 a0_5 a0_6 a0_7 a0_8 a0_9 a1=some r) :
  Calls Tryz.prog 94 #[.agg #[.int .i64 a0_0,.bool a0_1,.int .i64 a0_2,.int .i64 a0_3,.int .i64 a0_4,.int .i64 a0_5,.int .i64 a0_6,.int .i64 a0_7,.int .i64 a0_8,.int .i64 a0_9],.int .i64 a1] w fun e w'=>e=.returned (.bool r)∧Below w.heap.size w w':=by
 have hu35:=Tryz.underlying35
 have hu33:=Tryz.underlying33
 have HB:=Aside0.mk (Below.refl w.heap.size w)
 have H:(if a0_0=1 then ((impl_CellOk.f a0_2 a0_3 a0_4 a0_5 a1).bind fun t221=>(if t221=true then ((impl_CellOk.f a0_6 a0_7 a0_8 a0_9 a1).bind fun t222=>(some t222)) else (some false))) else (if a0_0=2 then ((impl_CellOk.f a0_2 a0_3 a0_4 a0_5 a1).bind fun t223=>(if t223=true then ((impl_CellOk.f a0_6 a0_7 a0_8 a0_9 a1).bind fun t224=>(some t224)) else (some false))) else (some false)))=some r:=h
 clear h
 by_cases c3:a0_0=1
 ·rw [if_pos c3] at H
  have c3b0:(a0_0 == 1)=true:=beq_iff_eq.mpr c3
  have c3b1:(a0_0 != 1)=false:=bne_eq_false_iff_eq.mpr c3
  clear c3
  replace H:=Option.bind_eq_some_iff.mp H
  obtain ⟨t221,A40,H⟩:=H
  (try dsimp only at H)
  have A4:=Aside0.mk A40
  clear A40
  by_cases c5:t221=true
  ·subst c5
   have H1:((impl_CellOk.f a0_6 a0_7 a0_8 a0_9 a1).bind fun t222=>(some t222))=some r:=by rw [if_pos rfl] at H;exact H
   clear H
   have H:=H1
   clear H1
   replace H:=Option.bind_eq_some_iff.mp H
   obtain ⟨t222,A60,H⟩:=H
   (try dsimp only at H)
   have A6:=Aside0.mk A60
   clear A60
   obtain rfl:=Option.some.inj H
   go_enter Tryz.func94,Tryz.ntmps94
   go_wp2_with (first|((with_reducible refine gate_dst (N:=2) rfl ?_);refine box_event ?hg (N:=2) ?hd (cs:=#[.int .i64 a0_0,.bool a0_1,.int .i64 a0_2,.int .i64 a0_3,.int .i64 a0_4,.int .i64 a0_5,.int .i64 a0_6,.int .i64 a0_7,.int .i64 a0_8,.int .i64 a0_9]) (t:=35) ?hr ?_;(case hd=>rfl);(case hg=>rfl);(case hr=>first|(go_simp;done)|(go_simp;rfl));intro gb220 hg w7 hbox hb;have n0_:=Aside0.mk (below_step zhb hb);have n1_:=Aside0.mk (hbox);have n2_:=Aside0.mk ((by rw [hg];exact (below_size zhb):w.heap.size≤gb220));have n3_:=Aside0.mk ((by rw [hg];exact (below_size zhb):w.heap.size≤gb220));clear HB;have HB:=n0_;have BK220:=n1_;have GW220:=n2_;have GE220:=n3_;clear n0_ n1_ n2_ n3_;clear hb hbox hg;have hcz8_0:w7.cell? ⟨gb220,0,none⟩=some (.int .i64 a0_0):=(blk_cell BK220.out 0).trans rfl;have hcz8_1:w7.cell? ⟨gb220,1,none⟩=some (.bool a0_1):=(blk_cell BK220.out 1).trans rfl;have hcz8_2:w7.cell? ⟨gb220,2,none⟩=some (.int .i64 a0_2):=(blk_cell BK220.out 2).trans rfl;have hcz8_3:w7.cell? ⟨gb220,3,none⟩=some (.int .i64 a0_3):=(blk_cell BK220.out 3).trans rfl;have hcz8_4:w7.cell? ⟨gb220,4,none⟩=some (.int .i64 a0_4):=(blk_cell BK220.out 4).trans rfl;have hcz8_5:w7.cell? ⟨gb220,5,none⟩=some (.int .i64 a0_5):=(blk_cell BK220.out 5).trans rfl;have hcz8_6:w7.cell? ⟨gb220,6,none⟩=some (.int .i64 a0_6):=(blk_cell BK220.out 6).trans rfl;have hcz8_7:w7.cell? ⟨gb220,7,none⟩=some (.int .i64 a0_7):=(blk_cell BK220.out 7).trans rfl;have hcz8_8:w7.cell? ⟨gb220,8,none⟩=some (.int .i64 a0_8):=(blk_cell BK220.out 8).trans rfl;have hcz8_9:w7.cell? ⟨gb220,9,none⟩=some (.int .i64 a0_9):=(blk_cell BK220.out 9).trans rfl;have hfz8_0:=blk_frozen BK220.out 0;have hfz8_1:=blk_frozen BK220.out 1;have hfz8_2:=blk_frozen BK220.out 2;have hfz8_3:=blk_frozen BK220.out 3;have hfz8_4:=blk_frozen BK220.out 4;have hfz8_5:=blk_frozen BK220.out 5;have hfz8_6:=blk_frozen BK220.out 6;have hfz8_7:=blk_frozen BK220.out 7;have hfz8_8:=blk_frozen BK220.out 8;have hfz8_9:=blk_frozen BK220.out 9)|(go_at_call 95;(with_reducible refine (impl_CellOk.calls a0_2 a0_3 a0_4 a0_5 a1 true _ A4.out).mono ?_);rintro e w9 ⟨rfl,hb⟩;have n0_:=Aside0.mk (blk_below (g:=gb220) (o:=.cells #[.int .i64 a0_0,.bool a0_1,.int .i64 a0_2,.int .i64 a0_3,.int .i64 a0_4,.int .i64 a0_5,.int .i64 a0_6,.int .i64 a0_7,.int .i64 a0_8,.int .i64 a0_9] 35 (0,0)) (by (with_reducible repeat (first|refine blk_drewN ?_ _|refine blk_drew ?_|refine blk_alloc ?_ _));exact BK220.out) hb);have n1_:=Aside0.mk (below_step (by repeat (first|(with_reducible first|exact HB.out|apply below_alloc|apply pw_below_drewN|apply below_drew1|refine below_set ?_ GE220.out)|exact HB.out)) hb);clear BK220;clear HB;have BK220:=n0_;have HB:=n1_;clear n0_ n1_;(try clear hb);(try clear hb2);(try clear hk);(try clear hi);have hcz10_0:w9.cell? ⟨gb220,0,none⟩=some (.int .i64 a0_0):=(blk_cell BK220.out 0).trans rfl;have hcz10_1:w9.cell? ⟨gb220,1,none⟩=some (.bool a0_1):=(blk_cell BK220.out 1).trans rfl;have hcz10_2:w9.cell? ⟨gb220,2,none⟩=some (.int .i64 a0_2):=(blk_cell BK220.out 2).trans rfl;have hcz10_3:w9.cell? ⟨gb220,3,none⟩=some (.int .i64 a0_3):=(blk_cell BK220.out 3).trans rfl;have hcz10_4:w9.cell? ⟨gb220,4,none⟩=some (.int .i64 a0_4):=(blk_cell BK220.out 4).trans rfl;have hcz10_5:w9.cell? ⟨gb220,5,none⟩=some (.int .i64 a0_5):=(blk_cell BK220.out 5).trans rfl;have hcz10_6:w9.cell? ⟨gb220,6,none⟩=some (.int .i64 a0_6):=(blk_cell BK220.out 6).trans rfl;have hcz10_7:w9.cell? ⟨gb220,7,none⟩=some (.int .i64 a0_7):=(blk_cell BK220.out 7).trans rfl;have hcz10_8:w9.cell? ⟨gb220,8,none⟩=some (.int .i64 a0_8):=(blk_cell BK220.out 8).trans rfl;have hcz10_9:w9.cell? ⟨gb220,9,none⟩=some (.int .i64 a0_9):=(blk_cell BK220.out 9).trans rfl;have hfz10_0:=blk_frozen BK220.out 0;have hfz10_1:=blk_frozen BK220.out 1;have hfz10_2:=blk_frozen BK220.out 2;have hfz10_3:=blk_frozen BK220.out 3;have hfz10_4:=blk_frozen BK220.out 4;have hfz10_5:=blk_frozen BK220.out 5;have hfz10_6:=blk_frozen BK220.out 6;have hfz10_7:=blk_frozen BK220.out 7;have hfz10_8:=blk_frozen BK220.out 8;have hfz10_9:=blk_frozen BK220.out 9)|(go_at_call 95;(with_reducible refine (impl_CellOk.calls a0_6 a0_7 a0_8 a0_9 a1 t222 _ A6.out).mono ?_);rintro e w11 ⟨rfl,hb⟩;have n0_:=Aside0.mk (blk_below (g:=gb220) (o:=.cells #[.int .i64 a0_0,.bool a0_1,.int .i64 a0_2,.int .i64 a0_3,.int .i64 a0_4,.int .i64 a0_5,.int .i64 a0_6,.int .i64 a0_7,.int .i64 a0_8,.int .i64 a0_9] 35 (0,0)) (by (with_reducible repeat (first|refine blk_drewN ?_ _|refine blk_drew ?_|refine blk_alloc ?_ _));exact BK220.out) hb);have n1_:=Aside0.mk (below_step (by repeat (first|(with_reducible first|exact HB.out|apply below_alloc|apply pw_below_drewN|apply below_drew1|refine below_set ?_ GE220.out)|exact HB.out)) hb);clear BK220;clear HB;have BK220:=n0_;have HB:=n1_;clear n0_ n1_;(try clear hb);(try clear hb2);(try clear hk);(try clear hi)))
   go_ret
   exact ⟨by first|rfl|(simp [errW_none,errW_some] <;> rfl)|(simp [*,errW_none,errW_some] <;> rfl),by repeat (first|(with_reducible first|exact HB.out|apply below_alloc|apply pw_below_drewN|apply below_drew1|refine below_set ?_ GE220.out)|exact HB.out)⟩
  ·replace c5:=Bool.eq_false_iff.mpr c5
   subst c5
   have H1:(some false)=some r:=by rw [if_neg (show ¬ (false=true) by decide)] at H;exact H
   clear H
   have H:=H1
   clear H1
   obtain rfl:=Option.some.inj H
   go_enter Tryz.func94,Tryz.ntmps94
   go_wp2_with (first|((with_reducible refine gate_dst (N:=2) rfl ?_);refine box_event ?hg (N:=2) ?hd (cs:=#[.int .i64 a0_0,.bool a0_1,.int .i64 a0_2,.int .i64 a0_3,.int .i64 a0_4,.int .i64 a0_5,.int .i64 a0_6,.int .i64 a0_7,.int .i64 a0_8,.int .i64 a0_9]) (t:=35) ?hr ?_;(case hd=>rfl);(case hg=>rfl);(case hr=>first|(go_simp;done)|(go_simp;rfl));intro gb220 hg w12 hbox hb;have n0_:=Aside0.mk (below_step zhb hb);have n1_:=Aside0.mk (hbox);have n2_:=Aside0.mk ((by rw [hg];exact (below_size zhb):w.heap.size≤gb220));have n3_:=Aside0.mk ((by rw [hg];exact (below_size zhb):w.heap.size≤gb220));clear HB;have HB:=n0_;have BK220:=n1_;have GW220:=n2_;have GE220:=n3_;clear n0_ n1_ n2_ n3_;clear hb hbox hg;have hcz13_0:w12.cell? ⟨gb220,0,none⟩=some (.int .i64 a0_0):=(blk_cell BK220.out 0).trans rfl;have hcz13_1:w12.cell? ⟨gb220,1,none⟩=some (.bool a0_1):=(blk_cell BK220.out 1).trans rfl;have hcz13_2:w12.cell? ⟨gb220,2,none⟩=some (.int .i64 a0_2):=(blk_cell BK220.out 2).trans rfl;have hcz13_3:w12.cell? ⟨gb220,3,none⟩=some (.int .i64 a0_3):=(blk_cell BK220.out 3).trans rfl;have hcz13_4:w12.cell? ⟨gb220,4,none⟩=some (.int .i64 a0_4):=(blk_cell BK220.out 4).trans rfl;have hcz13_5:w12.cell? ⟨gb220,5,none⟩=some (.int .i64 a0_5):=(blk_cell BK220.out 5).trans rfl;have hcz13_6:w12.cell? ⟨gb220,6,none⟩=some (.int .i64 a0_6):=(blk_cell BK220.out 6).trans rfl;have hcz13_7:w12.cell? ⟨gb220,7,none⟩=some (.int .i64 a0_7):=(blk_cell BK220.out 7).trans rfl;have hcz13_8:w12.cell? ⟨gb220,8,none⟩=some (.int .i64 a0_8):=(blk_cell BK220.out 8).trans rfl;have hcz13_9:w12.cell? ⟨gb220,9,none⟩=some (.int .i64 a0_9):=(blk_cell BK220.out 9).trans rfl;have hfz13_0:=blk_frozen BK220.out 0;have hfz13_1:=blk_frozen BK220.out 1;have hfz13_2:=blk_frozen BK220.out 2;have hfz13_3:=blk_frozen BK220.out 3;have hfz13_4:=blk_frozen BK220.out 4;have hfz13_5:=blk_frozen BK220.out 5;have hfz13_6:=blk_frozen BK220.out 6;have hfz13_7:=blk_frozen BK220.out 7;have hfz13_8:=blk_frozen BK220.out 8;have hfz13_9:=blk_frozen BK220.out 9)|(go_at_call 95;(with_reducible refine (impl_CellOk.calls a0_2 a0_3 a0_4 a0_5 a1 false _ A4.out).mono ?_);rintro e w14 ⟨rfl,hb⟩;have n0_:=Aside0.mk (blk_below (g:=gb220) (o:=.cells #[.int .i64 a0_0,.bool a0_1,.int .i64 a0_2,.int .i64 a0_3,.int .i64 a0_4,.int .i64 a0_5,.int .i64 a0_6,.int .i64 a0_7,.int .i64 a0_8,.int .i64 a0_9] 35 (0,0)) (by (with_reducible repeat (first|refine blk_drewN ?_ _|refine blk_drew ?_|refine blk_alloc ?_ _));exact BK220.out) hb);have n1_:=Aside0.mk (below_step (by repeat (first|(with_reducible first|exact HB.out|apply below_alloc|apply pw_below_drewN|apply below_drew1|refine below_set ?_ GE220.out)|exact HB.out)) hb);clear BK220;clear HB;have BK220:=n0_;have HB:=n1_;clear n0_ n1_;(try clear hb);(try clear hb2);(try clear hk);(try clear hi)))
   go_ret
   exact ⟨by first|rfl|(simp [errW_none,errW_some] <;> rfl)|(simp [*,errW_none,errW_some] <;> rfl),by repeat (first|(with_reducible first|exact HB.out|apply below_alloc|apply pw_below_drewN|apply below_drew1|refine below_set ?_ GE220.out)|exact HB.out)⟩
 ·rw [if_neg c3] at H
  have c3b0:(a0_0 == 1)=false:=beq_eq_false_iff_ne.mpr c3
  have c3b1:(a0_0 != 1)=true:=bne_iff_ne.mpr c3
  by_cases c15:a0_0=2
  ·rw [if_pos c15] at H
   have c15b0:(a0_0 == 2)=true:=beq_iff_eq.mpr c15
   have c15b1:(a0_0 != 2)=false:=bne_eq_false_iff_eq.mpr c15
   clear c15
   replace H:=Option.bind_eq_some_iff.mp H
   obtain ⟨t223,A160,H⟩:=H
   (try dsimp only at H)
   have A16:=Aside0.mk A160
   clear A160
   by_cases c17:t223=true
   ·subst c17
    have H1:((impl_CellOk.f a0_6 a0_7 a0_8 a0_9 a1).bind fun t224=>(some t224))=some r:=by rw [if_pos rfl] at H;exact H
    clear H
    have H:=H1
    clear H1
    replace H:=Option.bind_eq_some_iff.mp H
    obtain ⟨t224,A180,H⟩:=H
    (try dsimp only at H)
    have A18:=Aside0.mk A180
    clear A180
    obtain rfl:=Option.some.inj H
    go_enter Tryz.func94,Tryz.ntmps94
    go_wp2_with (first|((with_reducible refine gate_dst (N:=2) rfl ?_);refine box_event ?hg (N:=2) ?hd (cs:=#[.int .i64 a0_0,.bool a0_1,.int .i64 a0_2,.int .i64 a0_3,.int .i64 a0_4,.int .i64 a0_5,.int .i64 a0_6,.int .i64 a0_7,.int .i64 a0_8,.int .i64 a0_9]) (t:=35) ?hr ?_;(case hd=>rfl);(case hg=>rfl);(case hr=>first|(go_simp;done)|(go_simp;rfl));intro gb220 hg w19 hbox hb;have n0_:=Aside0.mk (below_step zhb hb);have n1_:=Aside0.mk (hbox);have n2_:=Aside0.mk ((by rw [hg];exact (below_size zhb):w.heap.size≤gb220));have n3_:=Aside0.mk ((by rw [hg];exact (below_size zhb):w.heap.size≤gb220));clear HB;have HB:=n0_;have BK220:=n1_;have GW220:=n2_;have GE220:=n3_;clear n0_ n1_ n2_ n3_;clear hb hbox hg;have hcz20_0:w19.cell? ⟨gb220,0,none⟩=some (.int .i64 a0_0):=(blk_cell BK220.out 0).trans rfl;have hcz20_1:w19.cell? ⟨gb220,1,none⟩=some (.bool a0_1):=(blk_cell BK220.out 1).trans rfl;have hcz20_2:w19.cell? ⟨gb220,2,none⟩=some (.int .i64 a0_2):=(blk_cell BK220.out 2).trans rfl;have hcz20_3:w19.cell? ⟨gb220,3,none⟩=some (.int .i64 a0_3):=(blk_cell BK220.out 3).trans rfl;have hcz20_4:w19.cell? ⟨gb220,4,none⟩=some (.int .i64 a0_4):=(blk_cell BK220.out 4).trans rfl;have hcz20_5:w19.cell? ⟨gb220,5,none⟩=some (.int .i64 a0_5):=(blk_cell BK220.out 5).trans rfl;have hcz20_6:w19.cell? ⟨gb220,6,none⟩=some (.int .i64 a0_6):=(blk_cell BK220.out 6).trans rfl;have hcz20_7:w19.cell? ⟨gb220,7,none⟩=some (.int .i64 a0_7):=(blk_cell BK220.out 7).trans rfl;have hcz20_8:w19.cell? ⟨gb220,8,none⟩=some (.int .i64 a0_8):=(blk_cell BK220.out 8).trans rfl;have hcz20_9:w19.cell? ⟨gb220,9,none⟩=some (.int .i64 a0_9):=(blk_cell BK220.out 9).trans rfl;have hfz20_0:=blk_frozen BK220.out 0;have hfz20_1:=blk_frozen BK220.out 1;have hfz20_2:=blk_frozen BK220.out 2;have hfz20_3:=blk_frozen BK220.out 3;have hfz20_4:=blk_frozen BK220.out 4;have hfz20_5:=blk_frozen BK220.out 5;have hfz20_6:=blk_frozen BK220.out 6;have hfz20_7:=blk_frozen BK220.out 7;have hfz20_8:=blk_frozen BK220.out 8;have hfz20_9:=blk_frozen BK220.out 9)|(go_at_call 95;(with_reducible refine (impl_CellOk.calls a0_2 a0_3 a0_4 a0_5 a1 true _ A16.out).mono ?_);rintro e w21 ⟨rfl,hb⟩;have n0_:=Aside0.mk (blk_below (g:=gb220) (o:=.cells #[.int .i64 a0_0,.bool a0_1,.int .i64 a0_2,.int .i64 a0_3,.int .i64 a0_4,.int .i64 a0_5,.int .i64 a0_6,.int .i64 a0_7,.int .i64 a0_8,.int .i64 a0_9] 35 (0,0)) (by (with_reducible repeat (first|refine blk_drewN ?_ _|refine blk_drew ?_|refine blk_alloc ?_ _));exact BK220.out) hb);have n1_:=Aside0.mk (below_step (by repeat (first|(with_reducible first|exact HB.out|apply below_alloc|apply pw_below_drewN|apply below_drew1|refine below_set ?_ GE220.out)|exact HB.out)) hb);clear BK220;clear HB;have BK220:=n0_;have HB:=n1_;clear n0_ n1_;(try clear hb);(try clear hb2);(try clear hk);(try clear hi);have hcz22_0:w21.cell? ⟨gb220,0,none⟩=some (.int .i64 a0_0):=(blk_cell BK220.out 0).trans rfl;have hcz22_1:w21.cell? ⟨gb220,1,none⟩=some (.bool a0_1):=(blk_cell BK220.out 1).trans rfl;have hcz22_2:w21.cell? ⟨gb220,2,none⟩=some (.int .i64 a0_2):=(blk_cell BK220.out 2).trans rfl;have hcz22_3:w21.cell? ⟨gb220,3,none⟩=some (.int .i64 a0_3):=(blk_cell BK220.out 3).trans rfl;have hcz22_4:w21.cell? ⟨gb220,4,none⟩=some (.int .i64 a0_4):=(blk_cell BK220.out 4).trans rfl;have hcz22_5:w21.cell? ⟨gb220,5,none⟩=some (.int .i64 a0_5):=(blk_cell BK220.out 5).trans rfl;have hcz22_6:w21.cell? ⟨gb220,6,none⟩=some (.int .i64 a0_6):=(blk_cell BK220.out 6).trans rfl;have hcz22_7:w21.cell? ⟨gb220,7,none⟩=some (.int .i64 a0_7):=(blk_cell BK220.out 7).trans rfl;have hcz22_8:w21.cell? ⟨gb220,8,none⟩=some (.int .i64 a0_8):=(blk_cell BK220.out 8).trans rfl;have hcz22_9:w21.cell? ⟨gb220,9,none⟩=some (.int .i64 a0_9):=(blk_cell BK220.out 9).trans rfl;have hfz22_0:=blk_frozen BK220.out 0;have hfz22_1:=blk_frozen BK220.out 1;have hfz22_2:=blk_frozen BK220.out 2;have hfz22_3:=blk_frozen BK220.out 3;have hfz22_4:=blk_frozen BK220.out 4;have hfz22_5:=blk_frozen BK220.out 5;have hfz22_6:=blk_frozen BK220.out 6;have hfz22_7:=blk_frozen BK220.out 7;have hfz22_8:=blk_frozen BK220.out 8;have hfz22_9:=blk_frozen BK220.out 9)|(go_at_call 95;(with_reducible refine (impl_CellOk.calls a0_6 a0_7 a0_8 a0_9 a1 t224 _ A18.out).mono ?_);rintro e w23 ⟨rfl,hb⟩;have n0_:=Aside0.mk (blk_below (g:=gb220) (o:=.cells #[.int .i64 a0_0,.bool a0_1,.int .i64 a0_2,.int .i64 a0_3,.int .i64 a0_4,.int .i64 a0_5,.int .i64 a0_6,.int .i64 a0_7,.int .i64 a0_8,.int .i64 a0_9] 35 (0,0)) (by (with_reducible repeat (first|refine blk_drewN ?_ _|refine blk_drew ?_|refine blk_alloc ?_ _));exact BK220.out) hb);have n1_:=Aside0.mk (below_step (by repeat (first|(with_reducible first|exact HB.out|apply below_alloc|apply pw_below_drewN|apply below_drew1|refine below_set ?_ GE220.out)|exact HB.out)) hb);clear BK220;clear HB;have BK220:=n0_;have HB:=n1_;clear n0_ n1_;(try clear hb);(try clear hb2);(try clear hk);(try clear hi)))
    go_ret
    exact ⟨by first|rfl|(simp [errW_none,errW_some] <;> rfl)|(simp [*,errW_none,errW_some] <;> rfl),by repeat (first|(with_reducible first|exact HB.out|apply below_alloc|apply pw_below_drewN|apply below_drew1|refine below_set ?_ GE220.out)|exact HB.out)⟩
   ·replace c17:=Bool.eq_false_iff.mpr c17
    subst c17
    have H1:(some false)=some r:=by rw [if_neg (show ¬ (false=true) by decide)] at H;exact H
    clear H
    have H:=H1
    clear H1
    obtain rfl:=Option.some.inj H
    go_enter Tryz.func94,Tryz.ntmps94
    go_wp2_with (first|((with_reducible refine gate_dst (N:=2) rfl ?_);refine box_event ?hg (N:=2) ?hd (cs:=#[.int .i64 a0_0,.bool a0_1,.int .i64 a0_2,.int .i64 a0_3,.int .i64 a0_4,.int .i64 a0_5,.int .i64 a0_6,.int .i64 a0_7,.int .i64 a0_8,.int .i64 a0_9]) (t:=35) ?hr ?_;(case hd=>rfl);(case hg=>rfl);(case hr=>first|(go_simp;done)|(go_simp;rfl));intro gb220 hg w24 hbox hb;have n0_:=Aside0.mk (below_step zhb hb);have n1_:=Aside0.mk (hbox);have n2_:=Aside0.mk ((by rw [hg];exact (below_size zhb):w.heap.size≤gb220));have n3_:=Aside0.mk ((by rw [hg];exact (below_size zhb):w.heap.size≤gb220));clear HB;have HB:=n0_;have BK220:=n1_;have GW220:=n2_;have GE220:=n3_;clear n0_ n1_ n2_ n3_;clear hb hbox hg;have hcz25_0:w24.cell? ⟨gb220,0,none⟩=some (.int .i64 a0_0):=(blk_cell BK220.out 0).trans rfl;have hcz25_1:w24.cell? ⟨gb220,1,none⟩=some (.bool a0_1):=(blk_cell BK220.out 1).trans rfl;have hcz25_2:w24.cell? ⟨gb220,2,none⟩=some (.int .i64 a0_2):=(blk_cell BK220.out 2).trans rfl;have hcz25_3:w24.cell? ⟨gb220,3,none⟩=some (.int .i64 a0_3):=(blk_cell BK220.out 3).trans rfl;have hcz25_4:w24.cell? ⟨gb220,4,none⟩=some (.int .i64 a0_4):=(blk_cell BK220.out 4).trans rfl;have hcz25_5:w24.cell? ⟨gb220,5,none⟩=some (.int .i64 a0_5):=(blk_cell BK220.out 5).trans rfl;have hcz25_6:w24.cell? ⟨gb220,6,none⟩=some (.int .i64 a0_6):=(blk_cell BK220.out 6).trans rfl;have hcz25_7:w24.cell? ⟨gb220,7,none⟩=some (.int .i64 a0_7):=(blk_cell BK220.out 7).trans rfl;have hcz25_8:w24.cell? ⟨gb220,8,none⟩=some (.int .i64 a0_8):=(blk_cell BK220.out 8).trans rfl;have hcz25_9:w24.cell? ⟨gb220,9,none⟩=some (.int .i64 a0_9):=(blk_cell BK220.out 9).trans rfl;have hfz25_0:=blk_frozen BK220.out 0;have hfz25_1:=blk_frozen BK220.out 1;have hfz25_2:=blk_frozen BK220.out 2;have hfz25_3:=blk_frozen BK220.out 3;have hfz25_4:=blk_frozen BK220.out 4;have hfz25_5:=blk_frozen BK220.out 5;have hfz25_6:=blk_frozen BK220.out 6;have hfz25_7:=blk_frozen BK220.out 7;have hfz25_8:=blk_frozen BK220.out 8;have hfz25_9:=blk_frozen BK220.out 9)|(go_at_call 95;(with_reducible refine (impl_CellOk.calls a0_2 a0_3 a0_4 a0_5 a1 false _ A16.out).mono ?_);rintro e w26 ⟨rfl,hb⟩;have n0_:=Aside0.mk (blk_below (g:=gb220) (o:=.cells #[.int .i64 a0_0,.bool a0_1,.int .i64 a0_2,.int .i64 a0_3,.int .i64 a0_4,.int .i64 a0_5,.int .i64 a0_6,.int .i64 a0_7,.int .i64 a0_8,.int .i64 a0_9] 35 (0,0)) (by (with_reducible repeat (first|refine blk_drewN ?_ _|refine blk_drew ?_|refine blk_alloc ?_ _));exact BK220.out) hb);have n1_:=Aside0.mk (below_step (by repeat (first|(with_reducible first|exact HB.out|apply below_alloc|apply pw_below_drewN|apply below_drew1|refine below_set ?_ GE220.out)|exact HB.out)) hb);clear BK220;clear HB;have BK220:=n0_;have HB:=n1_;clear n0_ n1_;(try clear hb);(try clear hb2);(try clear hk);(try clear hi)))
    go_ret
    exact ⟨by first|rfl|(simp [errW_none,errW_some] <;> rfl)|(simp [*,errW_none,errW_some] <;> rfl),by repeat (first|(with_reducible first|exact HB.out|apply below_alloc|apply pw_below_drewN|apply below_drew1|refine below_set ?_ GE220.out)|exact HB.out)⟩
  ·rw [if_neg c15] at H
   have c15b0:(a0_0 == 2)=false:=beq_eq_false_iff_ne.mpr c15
   have c15b1:(a0_0 != 2)=true:=bne_iff_ne.mpr c15
   obtain rfl:=Option.some.inj H
   go_enter Tryz.func94,Tryz.ntmps94
   go_wp2_with (first|((with_reducible refine gate_dst (N:=2) rfl ?_);refine box_event ?hg (N:=2) ?hd (cs:=#[.int .i64 a0_0,.bool a0_1,.int .i64 a0_2,.int .i64 a0_3,.int .i64 a0_4,.int .i64 a0_5,.int .i64 a0_6,.int .i64 a0_7,.int .i64 a0_8,.int .i64 a0_9]) (t:=35) ?hr ?_;(case hd=>rfl);(case hg=>rfl);(case hr=>first|(go_simp;done)|(go_simp;rfl));intro gb220 hg w27 hbox hb;have n0_:=Aside0.mk (below_step zhb hb);have n1_:=Aside0.mk (hbox);have n2_:=Aside0.mk ((by rw [hg];exact (below_size zhb):w.heap.size≤gb220));have n3_:=Aside0.mk ((by rw [hg];exact (below_size zhb):w.heap.size≤gb220));clear HB;have HB:=n0_;have BK220:=n1_;have GW220:=n2_;have GE220:=n3_;clear n0_ n1_ n2_ n3_;clear hb hbox hg;have hcz28_0:w27.cell? ⟨gb220,0,none⟩=some (.int .i64 a0_0):=(blk_cell BK220.out 0).trans rfl;have hcz28_1:w27.cell? ⟨gb220,1,none⟩=some (.bool a0_1):=(blk_cell BK220.out 1).trans rfl;have hcz28_2:w27.cell? ⟨gb220,2,none⟩=some (.int .i64 a0_2):=(blk_cell BK220.out 2).trans rfl;have hcz28_3:w27.cell? ⟨gb220,3,none⟩=some (.int .i64 a0_3):=(blk_cell BK220.out 3).trans rfl;have hcz28_4:w27.cell? ⟨gb220,4,none⟩=some (.int .i64 a0_4):=(blk_cell BK220.out 4).trans rfl;have hcz28_5:w27.cell? ⟨gb220,5,none⟩=some (.int .i64 a0_5):=(blk_cell BK220.out 5).trans rfl;have hcz28_6:w27.cell? ⟨gb220,6,none⟩=some (.int .i64 a0_6):=(blk_cell BK220.out 6).trans rfl;have hcz28_7:w27.cell? ⟨gb220,7,none⟩=some (.int .i64 a0_7):=(blk_cell BK220.out 7).trans rfl;have hcz28_8:w27.cell? ⟨gb220,8,none⟩=some (.int .i64 a0_8):=(blk_cell BK220.out 8).trans rfl;have hcz28_9:w27.cell? ⟨gb220,9,none⟩=some (.int .i64 a0_9):=(blk_cell BK220.out 9).trans rfl;have hfz28_0:=blk_frozen BK220.out 0;have hfz28_1:=blk_frozen BK220.out 1;have hfz28_2:=blk_frozen BK220.out 2;have hfz28_3:=blk_frozen BK220.out 3;have hfz28_4:=blk_frozen BK220.out 4;have hfz28_5:=blk_frozen BK220.out 5;have hfz28_6:=blk_frozen BK220.out 6;have hfz28_7:=blk_frozen BK220.out 7;have hfz28_8:=blk_frozen BK220.out 8;have hfz28_9:=blk_frozen BK220.out 9))
   go_ret
   exact ⟨by first|rfl|(simp [errW_none,errW_some] <;> rfl)|(simp [*,errW_none,errW_some] <;> rfl),by repeat (first|(with_reducible first|exact HB.out|apply below_alloc|apply pw_below_drewN|apply below_drew1|refine below_set ?_ GE220.out)|exact HB.out)⟩

/-! ### slices_Index_int_int: function 128 -/
def slices_Index_int_int.l0:Nat→List Int→Int→Int→Int→Option (Int)
 | 0,_,_,_,_=>none
 | k + 1,x0,x1,x7,x8=>if x8 < x7 then (if 0≤x8 then (if x8 < (x0.length:Int) then (if x1=(rd x0 x8) then (some x8) else (slices_Index_int_int.l0 k x0 x1 x7 (wrap64 (x8 + 1)))) else (none)) else (none)) else (some (-1))
def slices_Index_int_int.f (k:Nat) (l0:List Int) (a1:Int):Option (Int):=slices_Index_int_int.l0 k l0 a1 (l0.length:Int) 0
theorem slices_Index_int_int.mono_l : ∀ k,(∀ y0 y1 y2 y3,LeO (slices_Index_int_int.l0 k y0 y1 y2 y3) (slices_Index_int_int.l0 (k + 1) y0 y1 y2 y3))
 | 0=>fun _ _ _ _ r h=>by simp [slices_Index_int_int.l0] at h
 | k + 1=>by
  have ih0:=slices_Index_int_int.mono_l k
  ·intro y0 y1 y2 y3
   unfold slices_Index_int_int.l0
   repeat' first
   | (with_reducible exact ih0 _ _ _ _)
   | (with_reducible exact LeO.refl _)
   | (with_reducible exact LeO.none _)
   | (with_reducible refine LeO.ite ?_ ?_)
   | (with_reducible refine LeO.bind ?_ (fun _=>?_))
   | exact LeO.none _
   | refine LeO.ite ?_ ?_
   | refine LeO.bind ?_ (fun _=>?_)
theorem slices_Index_int_int.mono : ∀ a0 a1 k,LeO (slices_Index_int_int.f k a0 a1) (slices_Index_int_int.f (k + 1) a0 a1):=by
 intro a0 a1 k
 have ih0:=slices_Index_int_int.mono_l k
 unfold slices_Index_int_int.f
 repeat' first
   | (with_reducible exact ih0 _ _ _ _)
   | (with_reducible exact LeO.refl _)
   | (with_reducible exact LeO.none _)
   | (with_reducible refine LeO.ite ?_ ?_)
   | (with_reducible refine LeO.bind ?_ (fun _=>?_))
   | exact LeO.none _
   | refine LeO.ite ?_ ?_
   | refine LeO.bind ?_ (fun _=>?_)
set_option maxHeartbeats 8000000 in
set_option maxRecDepth 100000 in
theorem slices_Index_int_int.calls (k:Nat) (A0:Option Addr) (c0:Nat) (l0:List Int) (a1:Int) (r:Int) (w:World) (hr0:Kd.C (Kd.int .i64) w A0 l0.length l0) (hc0:l0.length≤c0) (h:slices_Index_int_int.f k l0 a1=some r) :
  Calls Tryz.prog 128 #[.slice A0 l0.length c0,.int .i64 a1] w fun e w'=>e=.returned (.int .i64 r)∧Drawn0 w w':=by
 have HR0:=Aside0.mk hr0
 have HC0:=Aside0.mk hc0
 clear hr0 hc0
 have H:(slices_Index_int_int.l0 k l0 a1 (l0.length:Int) 0)=some r:=h
 clear h
 have H':=Aside0.mk H
 clear H
 go_enter Tryz.func128,Tryz.ntmps128
 go_wp2
 go_loopg [8] k (fun kq v8 w'=>∃ (x8_1:Int),v8=.int .i64 x8_1∧Aside0 (slices_Index_int_int.l0 kq l0 a1 (l0.length:Int) x8_1=some r)∧Aside0 (kq≤k)∧Drawn0 w w')
 case atStart=>exact ⟨(0),(by first|rfl|(simp;done)|(simp [*];done)),H',⟨Nat.le_refl _⟩,zdw⟩
 case round =>
  clear H'
  try clear c1
  try clear p2
  obtain ⟨x8_1,rfl,HA,HK1,⟨m1,rfl⟩⟩:=hrel
  cases gk with
  | zero=>exact absurd HA.out (by simp [slices_Index_int_int.l0])
  | succ k1 =>
   have H:=HA.out
   clear HA
   simp only [slices_Index_int_int.l0] at H
   by_cases c3:x8_1 < (l0.length:Int)
   ·rw [if_pos c3] at H
    have c3b0:decide (x8_1 < (l0.length:Int))=true:=decide_eq_true c3
    clear c3
    by_cases c4:0≤x8_1
    ·rw [if_pos c4] at H
     have c4b0:decide (0≤x8_1)=true:=decide_eq_true c4
     clear c4
     by_cases c5:x8_1 < (l0.length:Int)
     ·rw [if_pos c5] at H
      have c5b0:decide (x8_1 < (l0.length:Int))=true:=decide_eq_true c5
      clear c5
      by_cases c6:a1=(rd l0 x8_1)
      ·rw [if_pos c6] at H
       have c6b0:(a1 == (rd l0 x8_1))=true:=beq_iff_eq.mpr c6
       have c6b1:(a1 != (rd l0 x8_1))=false:=bne_eq_false_iff_eq.mpr c6
       clear c6
       obtain rfl:=Option.some.inj H
       have p225:0≤(x8_1:Int):=zod
       have q225:x8_1 < (l0.length:Int):=zod
       obtain ⟨ad225,e225,hx225_0⟩:=Kd.at_int HR0.out x8_1 p225 q225
       cases e225
       replace p225:=eq_true p225
       replace q225:=eq_true q225
       go_wp2
       go_ret
       exact ⟨by first|rfl|(simp;done)|(simp [*];done),zdw⟩
      ·rw [if_neg c6] at H
       have c6b0:(a1 == (rd l0 x8_1))=false:=beq_eq_false_iff_ne.mpr c6
       have c6b1:(a1 != (rd l0 x8_1))=true:=bne_iff_ne.mpr c6
       have H':=Aside0.mk H
       clear H
       have p225:0≤(x8_1:Int):=zod
       have q225:x8_1 < (l0.length:Int):=zod
       obtain ⟨ad225,e225,hx225_0⟩:=Kd.at_int HR0.out x8_1 p225 q225
       cases e225
       replace p225:=eq_true p225
       replace q225:=eq_true q225
       go_wp2
       go_roundg k1
       case measure=>have:=HK1.out;omega
       case rel=>exact ⟨(wrap64 (x8_1 + 1)),(by first|rfl|(simp;done)|(simp [*];done)),H',⟨by have:=HK1.out;omega⟩,zdw⟩
     ·rw [if_neg c5] at H
      exact absurd H (by simp)
    ·rw [if_neg c4] at H
     exact absurd H (by simp)
   ·rw [if_neg c3] at H
    have c3b0:decide (x8_1 < (l0.length:Int))=false:=decide_eq_false c3
    clear c3
    obtain rfl:=Option.some.inj H
    go_wp2
    go_ret
    exact ⟨by first|rfl|(simp;done)|(simp [*];done),zdw⟩

/-! ### slices_Contains_int_int: function 127 -/
def slices_Contains_int_int.f (k:Nat) (l0:List Int) (a1:Int):Option (Bool):=(slices_Index_int_int.f k l0 a1).bind fun t226=>(some (decide (t226 ≥ 0)))
theorem slices_Contains_int_int.mono : ∀ a0 a1 k,LeO (slices_Contains_int_int.f k a0 a1) (slices_Contains_int_int.f (k + 1) a0 a1):=by
 intro a0 a1 k
 unfold slices_Contains_int_int.f
 repeat' first
   | (with_reducible exact slices_Index_int_int.mono _ _ _)
   | (with_reducible exact LeO.refl _)
   | (with_reducible exact LeO.none _)
   | (with_reducible refine LeO.ite ?_ ?_)
   | (with_reducible refine LeO.bind ?_ (fun _=>?_))
   | exact LeO.none _
   | refine LeO.ite ?_ ?_
   | refine LeO.bind ?_ (fun _=>?_)
set_option maxHeartbeats 8000000 in
set_option maxRecDepth 100000 in
theorem slices_Contains_int_int.calls (k:Nat) (A0:Option Addr) (c0:Nat) (l0:List Int) (a1:Int) (r:Bool) (w:World) (hr0:Kd.C (Kd.int .i64) w A0 l0.length l0) (hc0:l0.length≤c0) (h:slices_Contains_int_int.f k l0 a1=some r) :
  Calls Tryz.prog 127 #[.slice A0 l0.length c0,.int .i64 a1] w fun e w'=>e=.returned (.bool r)∧Drawn0 w w':=by
 have HR0:=Aside0.mk hr0
 have HC0:=Aside0.mk hc0
 clear hr0 hc0
 have H:((slices_Index_int_int.f k l0 a1).bind fun t226=>(some (decide (t226 ≥ 0))))=some r:=h
 clear h
 replace H:=Option.bind_eq_some_iff.mp H
 obtain ⟨t226,A30,H⟩:=H
 (try dsimp only at H)
 have A3:=Aside0.mk A30
 clear A30
 obtain rfl:=Option.some.inj H
 go_enter Tryz.func127,Tryz.ntmps127
 go_wp2_with (first|((with_reducible refine gate_callee (f:=128) rfl ?_);refine goesL_ (some 7) rfl rfl Tryz.func128 (by kernel_rfl) rfl #[.slice A0 l0.length c0,.int .i64 a1] rfl zar ?_;(with_reducible refine (slices_Index_int_int.calls k _ _ l0 a1 t226 _ ?side1 ?side2 A3.out).mono ?_);(case side1=>exact zC HR0.out);(case side2=>exact HC0.out);rintro e w' ⟨rfl,⟨nd,rfl⟩⟩;refine ⟨_,rfl,?_⟩))
 go_ret
 exact ⟨by first|rfl|(simp;done)|(simp [*];done),zdw⟩

/-! ### impl_keysOk: function 126 -/
def impl_keysOk.l0:Nat→List Int→Int→List Int→Int→Int→Option (Bool)
 | 0,_,_,_,_,_=>none
 | k + 1,x0,x1,x10,x11,x12=>if x12 < x11 then (if 0≤x12 then (if x12 < (x10.length:Int) then ((impl_isPlace.f (rd x10 x12) x1).bind fun t228=>(if t228=true then (if x12≤(x0.length:Int) then ((slices_Contains_int_int.f k (x0.take (x12:Int).toNat) (rd x10 x12)).bind fun t230=>(if t230=true then (some false) else (impl_keysOk.l0 k x0 x1 x10 x11 (wrap64 (x12 + 1))))) else (none)) else (some false))) else (none)) else (none)) else (some true)
def impl_keysOk.f (k:Nat) (l0:List Int) (a1:Int):Option (Bool):=if (l0.length:Int) ≥ 6 then (some false) else (impl_keysOk.l0 k l0 a1 l0 (l0.length:Int) 0)
theorem impl_keysOk.mono_l : ∀ k,(∀ y0 y1 y2 y3 y4,LeO (impl_keysOk.l0 k y0 y1 y2 y3 y4) (impl_keysOk.l0 (k + 1) y0 y1 y2 y3 y4))
 | 0=>fun _ _ _ _ _ r h=>by simp [impl_keysOk.l0] at h
 | k + 1=>by
  have ih0:=impl_keysOk.mono_l k
  ·intro y0 y1 y2 y3 y4
   unfold impl_keysOk.l0
   repeat' first
   | (with_reducible exact ih0 _ _ _ _ _)
   | (with_reducible exact slices_Contains_int_int.mono _ _ _)
   | (with_reducible exact LeO.refl _)
   | (with_reducible exact LeO.none _)
   | (with_reducible refine LeO.ite ?_ ?_)
   | (with_reducible refine LeO.bind ?_ (fun _=>?_))
   | exact LeO.none _
   | refine LeO.ite ?_ ?_
   | refine LeO.bind ?_ (fun _=>?_)
theorem impl_keysOk.mono : ∀ a0 a1 k,LeO (impl_keysOk.f k a0 a1) (impl_keysOk.f (k + 1) a0 a1):=by
 intro a0 a1 k
 have ih0:=impl_keysOk.mono_l k
 unfold impl_keysOk.f
 repeat' first
   | (with_reducible exact ih0 _ _ _ _ _)
   | (with_reducible exact slices_Contains_int_int.mono _ _ _)
   | (with_reducible exact LeO.refl _)
   | (with_reducible exact LeO.none _)
   | (with_reducible refine LeO.ite ?_ ?_)
   | (with_reducible refine LeO.bind ?_ (fun _=>?_))
   | exact LeO.none _
   | refine LeO.ite ?_ ?_
   | refine LeO.bind ?_ (fun _=>?_)
set_option maxHeartbeats 8000000 in
set_option maxRecDepth 100000 in
theorem impl_keysOk.calls (k:Nat) (A0:Option Addr) (c0:Nat) (l0:List Int) (a1:Int) (r:Bool) (w:World) (hr0:Kd.C (Kd.int .i64) w A0 l0.length l0) (hc0:l0.length≤c0) (h:impl_keysOk.f k l0 a1=some r) :
  Calls Tryz.prog 126 #[.slice A0 l0.length c0,.int .i64 a1] w fun e w'=>e=.returned (.bool r)∧Below w.heap.size w w':=by
 have HR0:=Aside0.mk hr0
 have HC0:=Aside0.mk hc0
 clear hr0 hc0
 have HB:=Aside0.mk (Below.refl w.heap.size w)
 have H:(if (l0.length:Int) ≥ 6 then (some false) else (impl_keysOk.l0 k l0 a1 l0 (l0.length:Int) 0))=some r:=h
 clear h
 by_cases c3:(l0.length:Int) ≥ 6
 ·rw [if_pos c3] at H
  have c3b0:decide (6≤(l0.length:Int))=true:=decide_eq_true c3
  have c3b1:decide (6≤l0.length)=true:=decide_eq_true (by omega)
  clear c3
  obtain rfl:=Option.some.inj H
  go_enter Tryz.func126,Tryz.ntmps126
  go_wp2
  go_ret
  exact ⟨by first|rfl|(simp [errW_none,errW_some] <;> rfl)|(simp [*,errW_none,errW_some] <;> rfl),zhb⟩
 ·rw [if_neg c3] at H
  have c3b0:decide (6≤(l0.length:Int))=false:=decide_eq_false c3
  have c3b1:decide (6≤l0.length)=false:=decide_eq_false (by omega)
  clear c3
  have H':=Aside0.mk H
  clear H
  go_enter Tryz.func126,Tryz.ntmps126
  go_wp2
  go_loopg [12] k (fun kq v12 w'=>∃ (x12_1:Int),v12=.int .i64 x12_1∧Aside0 (impl_keysOk.l0 kq l0 a1 l0 (l0.length:Int) x12_1=some r)∧Aside0 (kq≤k)∧Aside0 (Below w.heap.size w w'))
  case atStart=>exact ⟨(0),(by first|rfl|(simp;done)|(simp [*];done)),H',⟨Nat.le_refl _⟩,⟨zhb⟩⟩
  case round =>
   clear H'
   try clear c1
   try clear p2
   try clear c3
   try clear c3b0
   try clear c3b1
   obtain ⟨x12_1,rfl,HA,HK1,HB⟩:=hrel
   cases gk with
   | zero=>exact absurd HA.out (by simp [impl_keysOk.l0])
   | succ k1 =>
    have H:=HA.out
    clear HA
    simp only [impl_keysOk.l0] at H
    by_cases c4:x12_1 < (l0.length:Int)
    ·rw [if_pos c4] at H
     have c4b0:decide (x12_1 < (l0.length:Int))=true:=decide_eq_true c4
     clear c4
     by_cases c5:0≤x12_1
     ·rw [if_pos c5] at H
      have c5b0:decide (0≤x12_1)=true:=decide_eq_true c5
      clear c5
      by_cases c6:x12_1 < (l0.length:Int)
      ·rw [if_pos c6] at H
       have c6b0:decide (x12_1 < (l0.length:Int))=true:=decide_eq_true c6
       clear c6
       replace H:=Option.bind_eq_some_iff.mp H
       obtain ⟨t228,A70,H⟩:=H
       (try dsimp only at H)
       have A7:=Aside0.mk A70
       clear A70
       by_cases c8:t228=true
       ·subst c8
        have H1:(if x12_1≤(l0.length:Int) then ((slices_Contains_int_int.f k1 (l0.take (x12_1:Int).toNat) (rd l0 x12_1)).bind fun t230=>(if t230=true then (some false) else (impl_keysOk.l0 k1 l0 a1 l0 (l0.length:Int) (wrap64 (x12_1 + 1))))) else (none))=some r:=by rw [if_pos rfl] at H;exact H
        clear H
        have H:=H1
        clear H1
        have c9b0:=eq_true (zod:0≤x12_1)
        by_cases c10:x12_1≤(l0.length:Int)
        ·rw [if_pos c10] at H
         have c10b0:=eq_true c10
         have c10b1:decide (x12_1≤(l0.length:Int))=true:=decide_eq_true c10
         clear c10
         replace H:=Option.bind_eq_some_iff.mp H
         obtain ⟨t230,A110,H⟩:=H
         (try dsimp only at H)
         have A11:=Aside0.mk A110
         clear A110
         by_cases c12:t230=true
         ·subst c12
          have H1:(some false)=some r:=by rw [if_pos rfl] at H;exact H
          clear H
          have H:=H1
          clear H1
          obtain rfl:=Option.some.inj H
          have p227:0≤(x12_1:Int):=zod
          have q227:x12_1 < (l0.length:Int):=zod
          obtain ⟨ad227,e227,hx227_0⟩:=Kd.at_int HR0.out x12_1 p227 q227
          cases e227
          replace hx227_0:=(HB.out.cell (World.block_lt_of_cell? w _ hx227_0)).trans hx227_0
          replace p227:=eq_true p227
          replace q227:=eq_true q227
          go_wp2_with (first|((with_reducible refine gate_callee (f:=110) rfl ?_);refine goesL_ (some 19) rfl rfl Tryz.func110 (by kernel_rfl) rfl #[.int .i64 (rd l0 x12_1),.int .i64 a1] rfl zar ?_;(with_reducible refine (impl_isPlace.calls (rd l0 x12_1) a1 true _ A7.out).mono ?_);rintro e w13 ⟨rfl,hb⟩;refine ⟨_,rfl,?_⟩;have n0_:=Aside0.mk (below_step zhb hb);clear HB;have HB:=n0_;clear n0_;(try clear hb);(try clear hb2);(try clear hk);(try clear hi);obtain ⟨i014,hi014,_,hsz14,_⟩:=info_parts info3;obtain ⟨hcut14,hA14,hC14⟩:=print_take_of (P:=Tryz.prog) (Value.int .i64) 0 27 3 .i64 Tryz.underlying27 hi014 hsz14 (some ad227) c0 l0 x12_1 (zod) (zod) HC0.out;have HR229:=Aside0.mk (Kd.C_of_reads (h1:=fun _=>rfl) (hA14 _ (Kd.reads_of_C HR0.out)));have HC229:=Aside0.mk hC14;clear hA14 hC14 hi014 hsz14)|(go_at_call 127;rw [show x12_1.toNat = (l0.take x12_1.toNat).length by rw [List.length_take]; exact (Nat.min_eq_left (by have h1_ : 0 ≤ (x12_1:Int) := zod; have h2_ : x12_1 < (l0.length:Int) := zod; omega)).symm];(with_reducible refine (slices_Contains_int_int.calls k1 _ _ (l0.take (x12_1:Int).toNat) (rd l0 x12_1) true _ ?side1 ?side2 A11.out).mono ?_);(case side1=>exact zC (Kd.C_below HR229.out HB.out));(case side2=>exact HC229.out);rintro e w' ⟨rfl,⟨nd,rfl⟩⟩))
          go_ret
          exact ⟨by first|rfl|(simp [errW_none,errW_some] <;> rfl)|(simp [*,errW_none,errW_some] <;> rfl),zhb⟩
         ·replace c12:=Bool.eq_false_iff.mpr c12
          subst c12
          have H1:(impl_keysOk.l0 k1 l0 a1 l0 (l0.length:Int) (wrap64 (x12_1 + 1)))=some r:=by rw [if_neg (show ¬ (false=true) by decide)] at H;exact H
          clear H
          have H:=H1
          clear H1
          have H':=Aside0.mk H
          clear H
          have p227:0≤(x12_1:Int):=zod
          have q227:x12_1 < (l0.length:Int):=zod
          obtain ⟨ad227,e227,hx227_0⟩:=Kd.at_int HR0.out x12_1 p227 q227
          cases e227
          replace hx227_0:=(HB.out.cell (World.block_lt_of_cell? w _ hx227_0)).trans hx227_0
          replace p227:=eq_true p227
          replace q227:=eq_true q227
          go_wp2_with (first|((with_reducible refine gate_callee (f:=110) rfl ?_);refine goesL_ (some 19) rfl rfl Tryz.func110 (by kernel_rfl) rfl #[.int .i64 (rd l0 x12_1),.int .i64 a1] rfl zar ?_;(with_reducible refine (impl_isPlace.calls (rd l0 x12_1) a1 true _ A7.out).mono ?_);rintro e w15 ⟨rfl,hb⟩;refine ⟨_,rfl,?_⟩;have n0_:=Aside0.mk (below_step zhb hb);clear HB;have HB:=n0_;clear n0_;(try clear hb);(try clear hb2);(try clear hk);(try clear hi);obtain ⟨i016,hi016,_,hsz16,_⟩:=info_parts info3;obtain ⟨hcut16,hA16,hC16⟩:=print_take_of (P:=Tryz.prog) (Value.int .i64) 0 27 3 .i64 Tryz.underlying27 hi016 hsz16 (some ad227) c0 l0 x12_1 (zod) (zod) HC0.out;have HR229:=Aside0.mk (Kd.C_of_reads (h1:=fun _=>rfl) (hA16 _ (Kd.reads_of_C HR0.out)));have HC229:=Aside0.mk hC16;clear hA16 hC16 hi016 hsz16)|(go_at_call 127;rw [show x12_1.toNat = (l0.take x12_1.toNat).length by rw [List.length_take]; exact (Nat.min_eq_left (by have h1_ : 0 ≤ (x12_1:Int) := zod; have h2_ : x12_1 < (l0.length:Int) := zod; omega)).symm];(with_reducible refine (slices_Contains_int_int.calls k1 _ _ (l0.take (x12_1:Int).toNat) (rd l0 x12_1) false _ ?side1 ?side2 A11.out).mono ?_);(case side1=>exact zC (Kd.C_below HR229.out HB.out));(case side2=>exact HC229.out);rintro e w' ⟨rfl,⟨nd,rfl⟩⟩))
          go_roundg k1
          case measure=>have:=HK1.out;omega
          case rel=>exact ⟨(wrap64 (x12_1 + 1)),(by first|rfl|(simp;done)|(simp [*];done)),H',⟨by have:=HK1.out;omega⟩,⟨zhb⟩⟩
        ·rw [if_neg c10] at H
         exact absurd H (by simp)
       ·replace c8:=Bool.eq_false_iff.mpr c8
        subst c8
        have H1:(some false)=some r:=by rw [if_neg (show ¬ (false=true) by decide)] at H;exact H
        clear H
        have H:=H1
        clear H1
        obtain rfl:=Option.some.inj H
        have p227:0≤(x12_1:Int):=zod
        have q227:x12_1 < (l0.length:Int):=zod
        obtain ⟨ad227,e227,hx227_0⟩:=Kd.at_int HR0.out x12_1 p227 q227
        cases e227
        replace hx227_0:=(HB.out.cell (World.block_lt_of_cell? w _ hx227_0)).trans hx227_0
        replace p227:=eq_true p227
        replace q227:=eq_true q227
        go_wp2_with (first|((with_reducible refine gate_callee (f:=110) rfl ?_);refine goesL_ (some 19) rfl rfl Tryz.func110 (by kernel_rfl) rfl #[.int .i64 (rd l0 x12_1),.int .i64 a1] rfl zar ?_;(with_reducible refine (impl_isPlace.calls (rd l0 x12_1) a1 false _ A7.out).mono ?_);rintro e w17 ⟨rfl,hb⟩;refine ⟨_,rfl,?_⟩;have n0_:=Aside0.mk (below_step zhb hb);clear HB;have HB:=n0_;clear n0_;(try clear hb);(try clear hb2);(try clear hk);(try clear hi)))
        go_ret
        exact ⟨by first|rfl|(simp [errW_none,errW_some] <;> rfl)|(simp [*,errW_none,errW_some] <;> rfl),zhb⟩
      ·rw [if_neg c6] at H
       exact absurd H (by simp)
     ·rw [if_neg c5] at H
      exact absurd H (by simp)
    ·rw [if_neg c4] at H
     have c4b0:decide (x12_1 < (l0.length:Int))=false:=decide_eq_false c4
     clear c4
     obtain rfl:=Option.some.inj H
     go_wp2
     go_ret
     exact ⟨by first|rfl|(simp [errW_none,errW_some] <;> rfl)|(simp [*,errW_none,errW_some] <;> rfl),zhb⟩


end Go.Proofs.YtlpgnkndjmfcjaaGreat.PFnExactPlanMany
