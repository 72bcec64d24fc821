-- Written by wip/tools/pp.py, a program of this session over the kit's printer: not the kit's own print
import Derived.Test.YthmcbekemnabdaaDoorPFnExactTestReadx0
import Derived.Test.YthmcbekemnabdaaDoorPFnExactTestReadx5
import Derived.Test.YthmcbekemnabdaaDoorPFnExactTestReadx6
namespace Go.Proofs.YthmcbekemnabdaaDoor.PFnExactTestRead
open Go.RowKit Go.Proofs.YthmcbekemnabdaaDoorW.PrintWords Go.Proofs.YthmcbekemnabdaaDoorW.PrintLast Go.Proofs.YthmcbekemnabdaaDoorW.PrintMore
attribute [local go_sem] max2_int min2_int max_two min_two max_three min_three max_four min_four   -- for this text's walks alone
set_option linter.unusedVariables false
set_option linter.unusedSimpArgs false

/-! ### impl_TestOk: function 29 -/
def impl_TestOk.f (a0_0:Int) (a0_1:Bool) (a0_2:Int) (a0_3:Int) (a0_4:Int) (a0_5:Int) (a0_6:Int) (a0_7:Int) (a0_8:Int) (a0_9:Int) (a1:Int):Option (Bool):=if a0_0=1 then ((impl_CellOk.f a0_2 a0_3 a0_4 a0_5 a1).bind fun t164=>(if t164=true then ((impl_CellOk.f a0_6 a0_7 a0_8 a0_9 a1).bind fun t165=>(some t165)) else (some false))) else (if a0_0=2 then ((impl_CellOk.f a0_2 a0_3 a0_4 a0_5 a1).bind fun t166=>(if t166=true then ((impl_CellOk.f a0_6 a0_7 a0_8 a0_9 a1).bind fun t167=>(some t167)) else (some false))) else (some false))
set_option maxHeartbeats 8000000 in
set_option maxRecDepth 100000 in
theorem impl_TestOk.calls (a0_0:Int) (a0_1:Bool) (a0_2:Int) (a0_3:Int) (a0_4:Int) (a0_5:Int) (a0_6:Int) (a0_7:Int) (a0_8:Int) (a0_9:Int) (a1:Int) (r:Bool) (w:World) (h:impl_TestOk.f a0_0 a0_1 a0_2 a0_3 a0_4 a0_5 a0_6 a0_7 a0_8 a0_9 a1=some r) :
  Calls Tryd.prog 29 #[.agg #[.int .i64 a0_0,.bool a0_1,.int .i64 a0_2,.int .i64 a0_3,.int .i64 a0_4,.int .i64 a0_5,.int .i64 a0_6,.int .i64 a0_7,.int .i64 a0_8,.int .i64 a0_9],.int .i64 a1] w fun e w'=>e=.returned (.bool r)∧Below w.heap.size w w':=by
 have hu29:=Tryd.underlying29
 have hu23:=Tryd.underlying23
 have HB:=Aside0.mk (Below.refl w.heap.size w)
 have H:(if a0_0=1 then ((impl_CellOk.f a0_2 a0_3 a0_4 a0_5 a1).bind fun t164=>(if t164=true then ((impl_CellOk.f a0_6 a0_7 a0_8 a0_9 a1).bind fun t165=>(some t165)) else (some false))) else (if a0_0=2 then ((impl_CellOk.f a0_2 a0_3 a0_4 a0_5 a1).bind fun t166=>(if t166=true then ((impl_CellOk.f a0_6 a0_7 a0_8 a0_9 a1).bind fun t167=>(some t167)) else (some false))) else (some false)))=some r:=h
 clear h
 by_cases c3:a0_0=1
 ·rw [if_pos c3] at H
  have c3b0:(a0_0 == 1)=true:=beq_iff_eq.mpr c3
  have c3b1:(a0_0 != 1)=false:=bne_eq_false_iff_eq.mpr c3
  clear c3
  replace H:=Option.bind_eq_some_iff.mp H
  obtain ⟨t164,A40,H⟩:=H
  (try dsimp only at H)
  have A4:=Aside0.mk A40
  clear A40
  by_cases c5:t164=true
  ·subst c5
   have H1:((impl_CellOk.f a0_6 a0_7 a0_8 a0_9 a1).bind fun t165=>(some t165))=some r:=by rw [if_pos rfl] at H;exact H
   clear H
   have H:=H1
   clear H1
   replace H:=Option.bind_eq_some_iff.mp H
   obtain ⟨t165,A60,H⟩:=H
   (try dsimp only at H)
   have A6:=Aside0.mk A60
   clear A60
   obtain rfl:=Option.some.inj H
   go_enter Tryd.func29,Tryd.ntmps29
   go_wp2_with (first|((with_reducible refine gate_dst (N:=2) rfl ?_);refine box_event ?hg (N:=2) ?hd (cs:=#[.int .i64 a0_0,.bool a0_1,.int .i64 a0_2,.int .i64 a0_3,.int .i64 a0_4,.int .i64 a0_5,.int .i64 a0_6,.int .i64 a0_7,.int .i64 a0_8,.int .i64 a0_9]) (t:=29) ?hr ?_;(case hd=>rfl);(case hg=>rfl);(case hr=>first|(go_simp;done)|(go_simp;rfl));intro gb163 hg w7 hbox hb;have n0_:=Aside0.mk (below_step zhb hb);have n1_:=Aside0.mk (hbox);have n2_:=Aside0.mk ((by rw [hg];exact (below_size zhb):w.heap.size≤gb163));have n3_:=Aside0.mk ((by rw [hg];exact (below_size zhb):w.heap.size≤gb163));clear HB;have HB:=n0_;have BK163:=n1_;have GW163:=n2_;have GE163:=n3_;clear n0_ n1_ n2_ n3_;clear hb hbox hg;have hcz8_0:w7.cell? ⟨gb163,0,none⟩=some (.int .i64 a0_0):=(blk_cell BK163.out 0).trans rfl;have hcz8_1:w7.cell? ⟨gb163,1,none⟩=some (.bool a0_1):=(blk_cell BK163.out 1).trans rfl;have hcz8_2:w7.cell? ⟨gb163,2,none⟩=some (.int .i64 a0_2):=(blk_cell BK163.out 2).trans rfl;have hcz8_3:w7.cell? ⟨gb163,3,none⟩=some (.int .i64 a0_3):=(blk_cell BK163.out 3).trans rfl;have hcz8_4:w7.cell? ⟨gb163,4,none⟩=some (.int .i64 a0_4):=(blk_cell BK163.out 4).trans rfl;have hcz8_5:w7.cell? ⟨gb163,5,none⟩=some (.int .i64 a0_5):=(blk_cell BK163.out 5).trans rfl;have hcz8_6:w7.cell? ⟨gb163,6,none⟩=some (.int .i64 a0_6):=(blk_cell BK163.out 6).trans rfl;have hcz8_7:w7.cell? ⟨gb163,7,none⟩=some (.int .i64 a0_7):=(blk_cell BK163.out 7).trans rfl;have hcz8_8:w7.cell? ⟨gb163,8,none⟩=some (.int .i64 a0_8):=(blk_cell BK163.out 8).trans rfl;have hcz8_9:w7.cell? ⟨gb163,9,none⟩=some (.int .i64 a0_9):=(blk_cell BK163.out 9).trans rfl;have hfz8_0:=blk_frozen BK163.out 0;have hfz8_1:=blk_frozen BK163.out 1;have hfz8_2:=blk_frozen BK163.out 2;have hfz8_3:=blk_frozen BK163.out 3;have hfz8_4:=blk_frozen BK163.out 4;have hfz8_5:=blk_frozen BK163.out 5;have hfz8_6:=blk_frozen BK163.out 6;have hfz8_7:=blk_frozen BK163.out 7;have hfz8_8:=blk_frozen BK163.out 8;have hfz8_9:=blk_frozen BK163.out 9)|(go_at_call 26;(with_reducible refine (impl_CellOk.calls a0_2 a0_3 a0_4 a0_5 a1 true _ A4.out).mono ?_);rintro e w9 ⟨rfl,hb⟩;have n0_:=Aside0.mk (blk_below (g:=gb163) (o:=.cells #[.int .i64 a0_0,.bool a0_1,.int .i64 a0_2,.int .i64 a0_3,.int .i64 a0_4,.int .i64 a0_5,.int .i64 a0_6,.int .i64 a0_7,.int .i64 a0_8,.int .i64 a0_9] 29 (0,0)) (by (with_reducible repeat (first|refine blk_drewN ?_ _|refine blk_drew ?_|refine blk_alloc ?_ _));exact BK163.out) hb);have n1_:=Aside0.mk (below_step (by repeat (first|(with_reducible first|exact HB.out|apply below_alloc|apply pw_below_drewN|apply below_drew1|refine below_set ?_ GE163.out)|exact HB.out)) hb);clear BK163;clear HB;have BK163:=n0_;have HB:=n1_;clear n0_ n1_;(try clear hb);(try clear hb2);(try clear hk);(try clear hi);have hcz10_0:w9.cell? ⟨gb163,0,none⟩=some (.int .i64 a0_0):=(blk_cell BK163.out 0).trans rfl;have hcz10_1:w9.cell? ⟨gb163,1,none⟩=some (.bool a0_1):=(blk_cell BK163.out 1).trans rfl;have hcz10_2:w9.cell? ⟨gb163,2,none⟩=some (.int .i64 a0_2):=(blk_cell BK163.out 2).trans rfl;have hcz10_3:w9.cell? ⟨gb163,3,none⟩=some (.int .i64 a0_3):=(blk_cell BK163.out 3).trans rfl;have hcz10_4:w9.cell? ⟨gb163,4,none⟩=some (.int .i64 a0_4):=(blk_cell BK163.out 4).trans rfl;have hcz10_5:w9.cell? ⟨gb163,5,none⟩=some (.int .i64 a0_5):=(blk_cell BK163.out 5).trans rfl;have hcz10_6:w9.cell? ⟨gb163,6,none⟩=some (.int .i64 a0_6):=(blk_cell BK163.out 6).trans rfl;have hcz10_7:w9.cell? ⟨gb163,7,none⟩=some (.int .i64 a0_7):=(blk_cell BK163.out 7).trans rfl;have hcz10_8:w9.cell? ⟨gb163,8,none⟩=some (.int .i64 a0_8):=(blk_cell BK163.out 8).trans rfl;have hcz10_9:w9.cell? ⟨gb163,9,none⟩=some (.int .i64 a0_9):=(blk_cell BK163.out 9).trans rfl;have hfz10_0:=blk_frozen BK163.out 0;have hfz10_1:=blk_frozen BK163.out 1;have hfz10_2:=blk_frozen BK163.out 2;have hfz10_3:=blk_frozen BK163.out 3;have hfz10_4:=blk_frozen BK163.out 4;have hfz10_5:=blk_frozen BK163.out 5;have hfz10_6:=blk_frozen BK163.out 6;have hfz10_7:=blk_frozen BK163.out 7;have hfz10_8:=blk_frozen BK163.out 8;have hfz10_9:=blk_frozen BK163.out 9)|(go_at_call 26;(with_reducible refine (impl_CellOk.calls a0_6 a0_7 a0_8 a0_9 a1 t165 _ A6.out).mono ?_);rintro e w11 ⟨rfl,hb⟩;have n0_:=Aside0.mk (blk_below (g:=gb163) (o:=.cells #[.int .i64 a0_0,.bool a0_1,.int .i64 a0_2,.int .i64 a0_3,.int .i64 a0_4,.int .i64 a0_5,.int .i64 a0_6,.int .i64 a0_7,.int .i64 a0_8,.int .i64 a0_9] 29 (0,0)) (by (with_reducible repeat (first|refine blk_drewN ?_ _|refine blk_drew ?_|refine blk_alloc ?_ _));exact BK163.out) hb);have n1_:=Aside0.mk (below_step (by repeat (first|(with_reducible first|exact HB.out|apply below_alloc|apply pw_below_drewN|apply below_drew1|refine below_set ?_ GE163.out)|exact HB.out)) hb);clear BK163;clear HB;have BK163:=n0_;have HB:=n1_;clear n0_ n1_;(try clear hb);(try clear hb2);(try clear hk);(try clear hi)))
   go_ret
   exact ⟨by first|rfl|(simp [errW_none,errW_some] <;> rfl)|(simp [*,errW_none,errW_some] <;> rfl),by repeat (first|(with_reducible first|exact HB.out|apply below_alloc|apply pw_below_drewN|apply below_drew1|refine below_set ?_ GE163.out)|exact HB.out)⟩
  ·replace c5:=Bool.eq_false_iff.mpr c5
   subst c5
   have H1:(some false)=some r:=by rw [if_neg (show ¬ (false=true) by decide)] at H;exact H
   clear H
   have H:=H1
   clear H1
   obtain rfl:=Option.some.inj H
   go_enter Tryd.func29,Tryd.ntmps29
   go_wp2_with (first|((with_reducible refine gate_dst (N:=2) rfl ?_);refine box_event ?hg (N:=2) ?hd (cs:=#[.int .i64 a0_0,.bool a0_1,.int .i64 a0_2,.int .i64 a0_3,.int .i64 a0_4,.int .i64 a0_5,.int .i64 a0_6,.int .i64 a0_7,.int .i64 a0_8,.int .i64 a0_9]) (t:=29) ?hr ?_;(case hd=>rfl);(case hg=>rfl);(case hr=>first|(go_simp;done)|(go_simp;rfl));intro gb163 hg w12 hbox hb;have n0_:=Aside0.mk (below_step zhb hb);have n1_:=Aside0.mk (hbox);have n2_:=Aside0.mk ((by rw [hg];exact (below_size zhb):w.heap.size≤gb163));have n3_:=Aside0.mk ((by rw [hg];exact (below_size zhb):w.heap.size≤gb163));clear HB;have HB:=n0_;have BK163:=n1_;have GW163:=n2_;have GE163:=n3_;clear n0_ n1_ n2_ n3_;clear hb hbox hg;have hcz13_0:w12.cell? ⟨gb163,0,none⟩=some (.int .i64 a0_0):=(blk_cell BK163.out 0).trans rfl;have hcz13_1:w12.cell? ⟨gb163,1,none⟩=some (.bool a0_1):=(blk_cell BK163.out 1).trans rfl;have hcz13_2:w12.cell? ⟨gb163,2,none⟩=some (.int .i64 a0_2):=(blk_cell BK163.out 2).trans rfl;have hcz13_3:w12.cell? ⟨gb163,3,none⟩=some (.int .i64 a0_3):=(blk_cell BK163.out 3).trans rfl;have hcz13_4:w12.cell? ⟨gb163,4,none⟩=some (.int .i64 a0_4):=(blk_cell BK163.out 4).trans rfl;have hcz13_5:w12.cell? ⟨gb163,5,none⟩=some (.int .i64 a0_5):=(blk_cell BK163.out 5).trans rfl;have hcz13_6:w12.cell? ⟨gb163,6,none⟩=some (.int .i64 a0_6):=(blk_cell BK163.out 6).trans rfl;have hcz13_7:w12.cell? ⟨gb163,7,none⟩=some (.int .i64 a0_7):=(blk_cell BK163.out 7).trans rfl;have hcz13_8:w12.cell? ⟨gb163,8,none⟩=some (.int .i64 a0_8):=(blk_cell BK163.out 8).trans rfl;have hcz13_9:w12.cell? ⟨gb163,9,none⟩=some (.int .i64 a0_9):=(blk_cell BK163.out 9).trans rfl;have hfz13_0:=blk_frozen BK163.out 0;have hfz13_1:=blk_frozen BK163.out 1;have hfz13_2:=blk_frozen BK163.out 2;have hfz13_3:=blk_frozen BK163.out 3;have hfz13_4:=blk_frozen BK163.out 4;have hfz13_5:=blk_frozen BK163.out 5;have hfz13_6:=blk_frozen BK163.out 6;have hfz13_7:=blk_frozen BK163.out 7;have hfz13_8:=blk_frozen BK163.out 8;have hfz13_9:=blk_frozen BK163.out 9)|(go_at_call 26;(with_reducible refine (impl_CellOk.calls a0_2 a0_3 a0_4 a0_5 a1 false _ A4.out).mono ?_);rintro e w14 ⟨rfl,hb⟩;have n0_:=Aside0.mk (blk_below (g:=gb163) (o:=.cells #[.int .i64 a0_0,.bool a0_1,.int .i64 a0_2,.int .i64 a0_3,.int .i64 a0_4,.int .i64 a0_5,.int .i64 a0_6,.int .i64 a0_7,.int .i64 a0_8,.int .i64 a0_9] 29 (0,0)) (by (with_reducible repeat (first|refine blk_drewN ?_ _|refine blk_drew ?_|refine blk_alloc ?_ _));exact BK163.out) hb);have n1_:=Aside0.mk (below_step (by repeat (first|(with_reducible first|exact HB.out|apply below_alloc|apply pw_below_drewN|apply below_drew1|refine below_set ?_ GE163.out)|exact HB.out)) hb);clear BK163;clear HB;have BK163:=n0_;have HB:=n1_;clear n0_ n1_;(try clear hb);(try clear hb2);(try clear hk);(try clear hi)))
   go_ret
   exact ⟨by first|rfl|(simp [errW_none,errW_some] <;> rfl)|(simp [*,errW_none,errW_some] <;> rfl),by repeat (first|(with_reducible first|exact HB.out|apply below_alloc|apply pw_below_drewN|apply below_drew1|refine below_set ?_ GE163.out)|exact HB.out)⟩
 ·rw [if_neg c3] at H
  have c3b0:(a0_0 == 1)=false:=beq_eq_false_iff_ne.mpr c3
  have c3b1:(a0_0 != 1)=true:=bne_iff_ne.mpr c3
  by_cases c15:a0_0=2
  ·rw [if_pos c15] at H
   have c15b0:(a0_0 == 2)=true:=beq_iff_eq.mpr c15
   have c15b1:(a0_0 != 2)=false:=bne_eq_false_iff_eq.mpr c15
   clear c15
   replace H:=Option.bind_eq_some_iff.mp H
   obtain ⟨t166,A160,H⟩:=H
   (try dsimp only at H)
   have A16:=Aside0.mk A160
   clear A160
   by_cases c17:t166=true
   ·subst c17
    have H1:((impl_CellOk.f a0_6 a0_7 a0_8 a0_9 a1).bind fun t167=>(some t167))=some r:=by rw [if_pos rfl] at H;exact H
    clear H
    have H:=H1
    clear H1
    replace H:=Option.bind_eq_some_iff.mp H
    obtain ⟨t167,A180,H⟩:=H
    (try dsimp only at H)
    have A18:=Aside0.mk A180
    clear A180
    obtain rfl:=Option.some.inj H
    go_enter Tryd.func29,Tryd.ntmps29
    go_wp2_with (first|((with_reducible refine gate_dst (N:=2) rfl ?_);refine box_event ?hg (N:=2) ?hd (cs:=#[.int .i64 a0_0,.bool a0_1,.int .i64 a0_2,.int .i64 a0_3,.int .i64 a0_4,.int .i64 a0_5,.int .i64 a0_6,.int .i64 a0_7,.int .i64 a0_8,.int .i64 a0_9]) (t:=29) ?hr ?_;(case hd=>rfl);(case hg=>rfl);(case hr=>first|(go_simp;done)|(go_simp;rfl));intro gb163 hg w19 hbox hb;have n0_:=Aside0.mk (below_step zhb hb);have n1_:=Aside0.mk (hbox);have n2_:=Aside0.mk ((by rw [hg];exact (below_size zhb):w.heap.size≤gb163));have n3_:=Aside0.mk ((by rw [hg];exact (below_size zhb):w.heap.size≤gb163));clear HB;have HB:=n0_;have BK163:=n1_;have GW163:=n2_;have GE163:=n3_;clear n0_ n1_ n2_ n3_;clear hb hbox hg;have hcz20_0:w19.cell? ⟨gb163,0,none⟩=some (.int .i64 a0_0):=(blk_cell BK163.out 0).trans rfl;have hcz20_1:w19.cell? ⟨gb163,1,none⟩=some (.bool a0_1):=(blk_cell BK163.out 1).trans rfl;have hcz20_2:w19.cell? ⟨gb163,2,none⟩=some (.int .i64 a0_2):=(blk_cell BK163.out 2).trans rfl;have hcz20_3:w19.cell? ⟨gb163,3,none⟩=some (.int .i64 a0_3):=(blk_cell BK163.out 3).trans rfl;have hcz20_4:w19.cell? ⟨gb163,4,none⟩=some (.int .i64 a0_4):=(blk_cell BK163.out 4).trans rfl;have hcz20_5:w19.cell? ⟨gb163,5,none⟩=some (.int .i64 a0_5):=(blk_cell BK163.out 5).trans rfl;have hcz20_6:w19.cell? ⟨gb163,6,none⟩=some (.int .i64 a0_6):=(blk_cell BK163.out 6).trans rfl;have hcz20_7:w19.cell? ⟨gb163,7,none⟩=some (.int .i64 a0_7):=(blk_cell BK163.out 7).trans rfl;have hcz20_8:w19.cell? ⟨gb163,8,none⟩=some (.int .i64 a0_8):=(blk_cell BK163.out 8).trans rfl;have hcz20_9:w19.cell? ⟨gb163,9,none⟩=some (.int .i64 a0_9):=(blk_cell BK163.out 9).trans rfl;have hfz20_0:=blk_frozen BK163.out 0;have hfz20_1:=blk_frozen BK163.out 1;have hfz20_2:=blk_frozen BK163.out 2;have hfz20_3:=blk_frozen BK163.out 3;have hfz20_4:=blk_frozen BK163.out 4;have hfz20_5:=blk_frozen BK163.out 5;have hfz20_6:=blk_frozen BK163.out 6;have hfz20_7:=blk_frozen BK163.out 7;have hfz20_8:=blk_frozen BK163.out 8;have hfz20_9:=blk_frozen BK163.out 9)|(go_at_call 26;(with_reducible refine (impl_CellOk.calls a0_2 a0_3 a0_4 a0_5 a1 true _ A16.out).mono ?_);rintro e w21 ⟨rfl,hb⟩;have n0_:=Aside0.mk (blk_below (g:=gb163) (o:=.cells #[.int .i64 a0_0,.bool a0_1,.int .i64 a0_2,.int .i64 a0_3,.int .i64 a0_4,.int .i64 a0_5,.int .i64 a0_6,.int .i64 a0_7,.int .i64 a0_8,.int .i64 a0_9] 29 (0,0)) (by (with_reducible repeat (first|refine blk_drewN ?_ _|refine blk_drew ?_|refine blk_alloc ?_ _));exact BK163.out) hb);have n1_:=Aside0.mk (below_step (by repeat (first|(with_reducible first|exact HB.out|apply below_alloc|apply pw_below_drewN|apply below_drew1|refine below_set ?_ GE163.out)|exact HB.out)) hb);clear BK163;clear HB;have BK163:=n0_;have HB:=n1_;clear n0_ n1_;(try clear hb);(try clear hb2);(try clear hk);(try clear hi);have hcz22_0:w21.cell? ⟨gb163,0,none⟩=some (.int .i64 a0_0):=(blk_cell BK163.out 0).trans rfl;have hcz22_1:w21.cell? ⟨gb163,1,none⟩=some (.bool a0_1):=(blk_cell BK163.out 1).trans rfl;have hcz22_2:w21.cell? ⟨gb163,2,none⟩=some (.int .i64 a0_2):=(blk_cell BK163.out 2).trans rfl;have hcz22_3:w21.cell? ⟨gb163,3,none⟩=some (.int .i64 a0_3):=(blk_cell BK163.out 3).trans rfl;have hcz22_4:w21.cell? ⟨gb163,4,none⟩=some (.int .i64 a0_4):=(blk_cell BK163.out 4).trans rfl;have hcz22_5:w21.cell? ⟨gb163,5,none⟩=some (.int .i64 a0_5):=(blk_cell BK163.out 5).trans rfl;have hcz22_6:w21.cell? ⟨gb163,6,none⟩=some (.int .i64 a0_6):=(blk_cell BK163.out 6).trans rfl;have hcz22_7:w21.cell? ⟨gb163,7,none⟩=some (.int .i64 a0_7):=(blk_cell BK163.out 7).trans rfl;have hcz22_8:w21.cell? ⟨gb163,8,none⟩=some (.int .i64 a0_8):=(blk_cell BK163.out 8).trans rfl;have hcz22_9:w21.cell? ⟨gb163,9,none⟩=some (.int .i64 a0_9):=(blk_cell BK163.out 9).trans rfl;have hfz22_0:=blk_frozen BK163.out 0;have hfz22_1:=blk_frozen BK163.out 1;have hfz22_2:=blk_frozen BK163.out 2;have hfz22_3:=blk_frozen BK163.out 3;have hfz22_4:=blk_frozen BK163.out 4;have hfz22_5:=blk_frozen BK163.out 5;have hfz22_6:=blk_frozen BK163.out 6;have hfz22_7:=blk_frozen BK163.out 7;have hfz22_8:=blk_frozen BK163.out 8;have hfz22_9:=blk_frozen BK163.out 9)|(go_at_call 26;(with_reducible refine (impl_CellOk.calls a0_6 a0_7 a0_8 a0_9 a1 t167 _ A18.out).mono ?_);rintro e w23 ⟨rfl,hb⟩;have n0_:=Aside0.mk (blk_below (g:=gb163) (o:=.cells #[.int .i64 a0_0,.bool a0_1,.int .i64 a0_2,.int .i64 a0_3,.int .i64 a0_4,.int .i64 a0_5,.int .i64 a0_6,.int .i64 a0_7,.int .i64 a0_8,.int .i64 a0_9] 29 (0,0)) (by (with_reducible repeat (first|refine blk_drewN ?_ _|refine blk_drew ?_|refine blk_alloc ?_ _));exact BK163.out) hb);have n1_:=Aside0.mk (below_step (by repeat (first|(with_reducible first|exact HB.out|apply below_alloc|apply pw_below_drewN|apply below_drew1|refine below_set ?_ GE163.out)|exact HB.out)) hb);clear BK163;clear HB;have BK163:=n0_;have HB:=n1_;clear n0_ n1_;(try clear hb);(try clear hb2);(try clear hk);(try clear hi)))
    go_ret
    exact ⟨by first|rfl|(simp [errW_none,errW_some] <;> rfl)|(simp [*,errW_none,errW_some] <;> rfl),by repeat (first|(with_reducible first|exact HB.out|apply below_alloc|apply pw_below_drewN|apply below_drew1|refine below_set ?_ GE163.out)|exact HB.out)⟩
   ·replace c17:=Bool.eq_false_iff.mpr c17
    subst c17
    have H1:(some false)=some r:=by rw [if_neg (show ¬ (false=true) by decide)] at H;exact H
    clear H
    have H:=H1
    clear H1
    obtain rfl:=Option.some.inj H
    go_enter Tryd.func29,Tryd.ntmps29
    go_wp2_with (first|((with_reducible refine gate_dst (N:=2) rfl ?_);refine box_event ?hg (N:=2) ?hd (cs:=#[.int .i64 a0_0,.bool a0_1,.int .i64 a0_2,.int .i64 a0_3,.int .i64 a0_4,.int .i64 a0_5,.int .i64 a0_6,.int .i64 a0_7,.int .i64 a0_8,.int .i64 a0_9]) (t:=29) ?hr ?_;(case hd=>rfl);(case hg=>rfl);(case hr=>first|(go_simp;done)|(go_simp;rfl));intro gb163 hg w24 hbox hb;have n0_:=Aside0.mk (below_step zhb hb);have n1_:=Aside0.mk (hbox);have n2_:=Aside0.mk ((by rw [hg];exact (below_size zhb):w.heap.size≤gb163));have n3_:=Aside0.mk ((by rw [hg];exact (below_size zhb):w.heap.size≤gb163));clear HB;have HB:=n0_;have BK163:=n1_;have GW163:=n2_;have GE163:=n3_;clear n0_ n1_ n2_ n3_;clear hb hbox hg;have hcz25_0:w24.cell? ⟨gb163,0,none⟩=some (.int .i64 a0_0):=(blk_cell BK163.out 0).trans rfl;have hcz25_1:w24.cell? ⟨gb163,1,none⟩=some (.bool a0_1):=(blk_cell BK163.out 1).trans rfl;have hcz25_2:w24.cell? ⟨gb163,2,none⟩=some (.int .i64 a0_2):=(blk_cell BK163.out 2).trans rfl;have hcz25_3:w24.cell? ⟨gb163,3,none⟩=some (.int .i64 a0_3):=(blk_cell BK163.out 3).trans rfl;have hcz25_4:w24.cell? ⟨gb163,4,none⟩=some (.int .i64 a0_4):=(blk_cell BK163.out 4).trans rfl;have hcz25_5:w24.cell? ⟨gb163,5,none⟩=some (.int .i64 a0_5):=(blk_cell BK163.out 5).trans rfl;have hcz25_6:w24.cell? ⟨gb163,6,none⟩=some (.int .i64 a0_6):=(blk_cell BK163.out 6).trans rfl;have hcz25_7:w24.cell? ⟨gb163,7,none⟩=some (.int .i64 a0_7):=(blk_cell BK163.out 7).trans rfl;have hcz25_8:w24.cell? ⟨gb163,8,none⟩=some (.int .i64 a0_8):=(blk_cell BK163.out 8).trans rfl;have hcz25_9:w24.cell? ⟨gb163,9,none⟩=some (.int .i64 a0_9):=(blk_cell BK163.out 9).trans rfl;have hfz25_0:=blk_frozen BK163.out 0;have hfz25_1:=blk_frozen BK163.out 1;have hfz25_2:=blk_frozen BK163.out 2;have hfz25_3:=blk_frozen BK163.out 3;have hfz25_4:=blk_frozen BK163.out 4;have hfz25_5:=blk_frozen BK163.out 5;have hfz25_6:=blk_frozen BK163.out 6;have hfz25_7:=blk_frozen BK163.out 7;have hfz25_8:=blk_frozen BK163.out 8;have hfz25_9:=blk_frozen BK163.out 9)|(go_at_call 26;(with_reducible refine (impl_CellOk.calls a0_2 a0_3 a0_4 a0_5 a1 false _ A16.out).mono ?_);rintro e w26 ⟨rfl,hb⟩;have n0_:=Aside0.mk (blk_below (g:=gb163) (o:=.cells #[.int .i64 a0_0,.bool a0_1,.int .i64 a0_2,.int .i64 a0_3,.int .i64 a0_4,.int .i64 a0_5,.int .i64 a0_6,.int .i64 a0_7,.int .i64 a0_8,.int .i64 a0_9] 29 (0,0)) (by (with_reducible repeat (first|refine blk_drewN ?_ _|refine blk_drew ?_|refine blk_alloc ?_ _));exact BK163.out) hb);have n1_:=Aside0.mk (below_step (by repeat (first|(with_reducible first|exact HB.out|apply below_alloc|apply pw_below_drewN|apply below_drew1|refine below_set ?_ GE163.out)|exact HB.out)) hb);clear BK163;clear HB;have BK163:=n0_;have HB:=n1_;clear n0_ n1_;(try clear hb);(try clear hb2);(try clear hk);(try clear hi)))
    go_ret
    exact ⟨by first|rfl|(simp [errW_none,errW_some] <;> rfl)|(simp [*,errW_none,errW_some] <;> rfl),by repeat (first|(with_reducible first|exact HB.out|apply below_alloc|apply pw_below_drewN|apply below_drew1|refine below_set ?_ GE163.out)|exact HB.out)⟩
  ·rw [if_neg c15] at H
   have c15b0:(a0_0 == 2)=false:=beq_eq_false_iff_ne.mpr c15
   have c15b1:(a0_0 != 2)=true:=bne_iff_ne.mpr c15
   obtain rfl:=Option.some.inj H
   go_enter Tryd.func29,Tryd.ntmps29
   go_wp2_with (first|((with_reducible refine gate_dst (N:=2) rfl ?_);refine box_event ?hg (N:=2) ?hd (cs:=#[.int .i64 a0_0,.bool a0_1,.int .i64 a0_2,.int .i64 a0_3,.int .i64 a0_4,.int .i64 a0_5,.int .i64 a0_6,.int .i64 a0_7,.int .i64 a0_8,.int .i64 a0_9]) (t:=29) ?hr ?_;(case hd=>rfl);(case hg=>rfl);(case hr=>first|(go_simp;done)|(go_simp;rfl));intro gb163 hg w27 hbox hb;have n0_:=Aside0.mk (below_step zhb hb);have n1_:=Aside0.mk (hbox);have n2_:=Aside0.mk ((by rw [hg];exact (below_size zhb):w.heap.size≤gb163));have n3_:=Aside0.mk ((by rw [hg];exact (below_size zhb):w.heap.size≤gb163));clear HB;have HB:=n0_;have BK163:=n1_;have GW163:=n2_;have GE163:=n3_;clear n0_ n1_ n2_ n3_;clear hb hbox hg;have hcz28_0:w27.cell? ⟨gb163,0,none⟩=some (.int .i64 a0_0):=(blk_cell BK163.out 0).trans rfl;have hcz28_1:w27.cell? ⟨gb163,1,none⟩=some (.bool a0_1):=(blk_cell BK163.out 1).trans rfl;have hcz28_2:w27.cell? ⟨gb163,2,none⟩=some (.int .i64 a0_2):=(blk_cell BK163.out 2).trans rfl;have hcz28_3:w27.cell? ⟨gb163,3,none⟩=some (.int .i64 a0_3):=(blk_cell BK163.out 3).trans rfl;have hcz28_4:w27.cell? ⟨gb163,4,none⟩=some (.int .i64 a0_4):=(blk_cell BK163.out 4).trans rfl;have hcz28_5:w27.cell? ⟨gb163,5,none⟩=some (.int .i64 a0_5):=(blk_cell BK163.out 5).trans rfl;have hcz28_6:w27.cell? ⟨gb163,6,none⟩=some (.int .i64 a0_6):=(blk_cell BK163.out 6).trans rfl;have hcz28_7:w27.cell? ⟨gb163,7,none⟩=some (.int .i64 a0_7):=(blk_cell BK163.out 7).trans rfl;have hcz28_8:w27.cell? ⟨gb163,8,none⟩=some (.int .i64 a0_8):=(blk_cell BK163.out 8).trans rfl;have hcz28_9:w27.cell? ⟨gb163,9,none⟩=some (.int .i64 a0_9):=(blk_cell BK163.out 9).trans rfl;have hfz28_0:=blk_frozen BK163.out 0;have hfz28_1:=blk_frozen BK163.out 1;have hfz28_2:=blk_frozen BK163.out 2;have hfz28_3:=blk_frozen BK163.out 3;have hfz28_4:=blk_frozen BK163.out 4;have hfz28_5:=blk_frozen BK163.out 5;have hfz28_6:=blk_frozen BK163.out 6;have hfz28_7:=blk_frozen BK163.out 7;have hfz28_8:=blk_frozen BK163.out 8;have hfz28_9:=blk_frozen BK163.out 9))
   go_ret
   exact ⟨by first|rfl|(simp [errW_none,errW_some] <;> rfl)|(simp [*,errW_none,errW_some] <;> rfl),by repeat (first|(with_reducible first|exact HB.out|apply below_alloc|apply pw_below_drewN|apply below_drew1|refine below_set ?_ GE163.out)|exact HB.out)⟩

/-! ### impl_TestText: function 21 -/
def impl_TestText.f (a0_0:Int) (a0_1:Bool) (a0_2:Int) (a0_3:Int) (a0_4:Int) (a0_5:Int) (a0_6:Int) (a0_7:Int) (a0_8:Int) (a0_9:Int):Option (ByteArray):=(impl_TestOk.f a0_0 a0_1 a0_2 a0_3 a0_4 a0_5 a0_6 a0_7 a0_8 a0_9 6).bind fun t169=>(if t169=true then (if a0_1=true then (if a0_0=2 then ((impl_CellText.f a0_2 a0_3 a0_4 a0_5).bind fun t170=>(if 1 + t170.size≤9223372036854775807 then (if ((⟨#[33]⟩:ByteArray) ++ t170).size + 1≤9223372036854775807 then ((impl_CellText.f a0_6 a0_7 a0_8 a0_9).bind fun t171=>(if (((⟨#[33]⟩:ByteArray) ++ t170) ++ (⟨#[61]⟩:ByteArray)).size + t171.size≤9223372036854775807 then (some ((((⟨#[33]⟩:ByteArray) ++ t170) ++ (⟨#[61]⟩:ByteArray)) ++ t171)) else (none))) else (none)) else (none))) else ((impl_CellText.f a0_2 a0_3 a0_4 a0_5).bind fun t172=>(if 1 + t172.size≤9223372036854775807 then (if ((⟨#[33]⟩:ByteArray) ++ t172).size + 1≤9223372036854775807 then ((impl_CellText.f a0_6 a0_7 a0_8 a0_9).bind fun t173=>(if (((⟨#[33]⟩:ByteArray) ++ t172) ++ (⟨#[60]⟩:ByteArray)).size + t173.size≤9223372036854775807 then (some ((((⟨#[33]⟩:ByteArray) ++ t172) ++ (⟨#[60]⟩:ByteArray)) ++ t173)) else (none))) else (none)) else (none)))) else (if a0_0=2 then ((impl_CellText.f a0_2 a0_3 a0_4 a0_5).bind fun t174=>(if 0 + t174.size≤9223372036854775807 then (if ((⟨#[]⟩:ByteArray) ++ t174).size + 1≤9223372036854775807 then ((impl_CellText.f a0_6 a0_7 a0_8 a0_9).bind fun t175=>(if (((⟨#[]⟩:ByteArray) ++ t174) ++ (⟨#[61]⟩:ByteArray)).size + t175.size≤9223372036854775807 then (some ((((⟨#[]⟩:ByteArray) ++ t174) ++ (⟨#[61]⟩:ByteArray)) ++ t175)) else (none))) else (none)) else (none))) else ((impl_CellText.f a0_2 a0_3 a0_4 a0_5).bind fun t176=>(if 0 + t176.size≤9223372036854775807 then (if ((⟨#[]⟩:ByteArray) ++ t176).size + 1≤9223372036854775807 then ((impl_CellText.f a0_6 a0_7 a0_8 a0_9).bind fun t177=>(if (((⟨#[]⟩:ByteArray) ++ t176) ++ (⟨#[60]⟩:ByteArray)).size + t177.size≤9223372036854775807 then (some ((((⟨#[]⟩:ByteArray) ++ t176) ++ (⟨#[60]⟩:ByteArray)) ++ t177)) else (none))) else (none)) else (none))))) else (some (⟨#[]⟩:ByteArray)))
def impl_TestText.T8:Bool × List (List Nat × List Nat):=(true,[([],[]),([],[]),([1],[1]),([2],[2]),([0,3],[0,3]),([],[]),([4,5],[4,5]),([],[]),([7],[7]),([8,3],[8]),([6,9],[6,9]),([10,9,0,1,2,3,4,5,6,7,8,9,10],[10])])
def impl_TestText.B8:List Nat:=[0,0,2,6,15,0,63,0,128,398,1023,2047]
theorem impl_TestText.tab8:rtab .any (opsOf Tryd.f21 8)=impl_TestText.T8:=by kernel_rfl
theorem impl_TestText.bits8:waitsOk impl_TestText.T8.2 impl_TestText.B8=true:=by kernel_rfl
set_option maxHeartbeats 8000000 in
set_option maxRecDepth 100000 in
theorem impl_TestText.calls (a0_0 : Int) (a0_1 : Bool) (a0_2 : Int) (a0_3 : Int) (a0_4 : Int) (a0_5 : Int) (a0_6 : Int) (a0_7 : Int) (a0_8 : Int) (a0_9 : Int) (r : ByteArray) (w : World) (h : impl_TestText.f a0_0 a0_1 a0_2 a0_3 a0_4 a0_5 a0_6 a0_7 a0_8 a0_9 = some r) (hT : Lib.TabIs Tryd.prog w "internal/strconv.uint64pow10" .u64 Lib.pow10Tab := by first | exact TxtW.tab (TxtW.on HT0.out zhs) | exact tab_on HT0.out zhs) :
  Calls Tryd.prog 21 #[.agg #[.int .i64 a0_0,.bool a0_1,.int .i64 a0_2,.int .i64 a0_3,.int .i64 a0_4,.int .i64 a0_5,.int .i64 a0_6,.int .i64 a0_7,.int .i64 a0_8,.int .i64 a0_9]] w fun e w'=>e=.returned (.string r)∧Below w.heap.size w w':=by
 have HT0:=Aside0.mk hT
 clear hT
 have hu29:=Tryd.underlying29
 have hu23:=Tryd.underlying23
 have HB:=Aside0.mk (Below.refl w.heap.size w)
 have H:((impl_TestOk.f a0_0 a0_1 a0_2 a0_3 a0_4 a0_5 a0_6 a0_7 a0_8 a0_9 6).bind fun t169=>(if t169=true then (if a0_1=true then (if a0_0=2 then ((impl_CellText.f a0_2 a0_3 a0_4 a0_5).bind fun t170=>(if 1 + t170.size≤9223372036854775807 then (if ((⟨#[33]⟩:ByteArray) ++ t170).size + 1≤9223372036854775807 then ((impl_CellText.f a0_6 a0_7 a0_8 a0_9).bind fun t171=>(if (((⟨#[33]⟩:ByteArray) ++ t170) ++ (⟨#[61]⟩:ByteArray)).size + t171.size≤9223372036854775807 then (some ((((⟨#[33]⟩:ByteArray) ++ t170) ++ (⟨#[61]⟩:ByteArray)) ++ t171)) else (none))) else (none)) else (none))) else ((impl_CellText.f a0_2 a0_3 a0_4 a0_5).bind fun t172=>(if 1 + t172.size≤9223372036854775807 then (if ((⟨#[33]⟩:ByteArray) ++ t172).size + 1≤9223372036854775807 then ((impl_CellText.f a0_6 a0_7 a0_8 a0_9).bind fun t173=>(if (((⟨#[33]⟩:ByteArray) ++ t172) ++ (⟨#[60]⟩:ByteArray)).size + t173.size≤9223372036854775807 then (some ((((⟨#[33]⟩:ByteArray) ++ t172) ++ (⟨#[60]⟩:ByteArray)) ++ t173)) else (none))) else (none)) else (none)))) else (if a0_0=2 then ((impl_CellText.f a0_2 a0_3 a0_4 a0_5).bind fun t174=>(if 0 + t174.size≤9223372036854775807 then (if ((⟨#[]⟩:ByteArray) ++ t174).size + 1≤9223372036854775807 then ((impl_CellText.f a0_6 a0_7 a0_8 a0_9).bind fun t175=>(if (((⟨#[]⟩:ByteArray) ++ t174) ++ (⟨#[61]⟩:ByteArray)).size + t175.size≤9223372036854775807 then (some ((((⟨#[]⟩:ByteArray) ++ t174) ++ (⟨#[61]⟩:ByteArray)) ++ t175)) else (none))) else (none)) else (none))) else ((impl_CellText.f a0_2 a0_3 a0_4 a0_5).bind fun t176=>(if 0 + t176.size≤9223372036854775807 then (if ((⟨#[]⟩:ByteArray) ++ t176).size + 1≤9223372036854775807 then ((impl_CellText.f a0_6 a0_7 a0_8 a0_9).bind fun t177=>(if (((⟨#[]⟩:ByteArray) ++ t176) ++ (⟨#[60]⟩:ByteArray)).size + t177.size≤9223372036854775807 then (some ((((⟨#[]⟩:ByteArray) ++ t176) ++ (⟨#[60]⟩:ByteArray)) ++ t177)) else (none))) else (none)) else (none))))) else (some (⟨#[]⟩:ByteArray))))=some r:=h
 clear h
 replace H:=Option.bind_eq_some_iff.mp H
 obtain ⟨t169,A20,H⟩:=H
 (try dsimp only at H)
 have A2:=Aside0.mk A20
 clear A20
 by_cases c3:t169=true
 ·subst c3
  have H1:(if a0_1=true then (if a0_0=2 then ((impl_CellText.f a0_2 a0_3 a0_4 a0_5).bind fun t170=>(if 1 + t170.size≤9223372036854775807 then (if ((⟨#[33]⟩:ByteArray) ++ t170).size + 1≤9223372036854775807 then ((impl_CellText.f a0_6 a0_7 a0_8 a0_9).bind fun t171=>(if (((⟨#[33]⟩:ByteArray) ++ t170) ++ (⟨#[61]⟩:ByteArray)).size + t171.size≤9223372036854775807 then (some ((((⟨#[33]⟩:ByteArray) ++ t170) ++ (⟨#[61]⟩:ByteArray)) ++ t171)) else (none))) else (none)) else (none))) else ((impl_CellText.f a0_2 a0_3 a0_4 a0_5).bind fun t172=>(if 1 + t172.size≤9223372036854775807 then (if ((⟨#[33]⟩:ByteArray) ++ t172).size + 1≤9223372036854775807 then ((impl_CellText.f a0_6 a0_7 a0_8 a0_9).bind fun t173=>(if (((⟨#[33]⟩:ByteArray) ++ t172) ++ (⟨#[60]⟩:ByteArray)).size + t173.size≤9223372036854775807 then (some ((((⟨#[33]⟩:ByteArray) ++ t172) ++ (⟨#[60]⟩:ByteArray)) ++ t173)) else (none))) else (none)) else (none)))) else (if a0_0=2 then ((impl_CellText.f a0_2 a0_3 a0_4 a0_5).bind fun t174=>(if 0 + t174.size≤9223372036854775807 then (if ((⟨#[]⟩:ByteArray) ++ t174).size + 1≤9223372036854775807 then ((impl_CellText.f a0_6 a0_7 a0_8 a0_9).bind fun t175=>(if (((⟨#[]⟩:ByteArray) ++ t174) ++ (⟨#[61]⟩:ByteArray)).size + t175.size≤9223372036854775807 then (some ((((⟨#[]⟩:ByteArray) ++ t174) ++ (⟨#[61]⟩:ByteArray)) ++ t175)) else (none))) else (none)) else (none))) else ((impl_CellText.f a0_2 a0_3 a0_4 a0_5).bind fun t176=>(if 0 + t176.size≤9223372036854775807 then (if ((⟨#[]⟩:ByteArray) ++ t176).size + 1≤9223372036854775807 then ((impl_CellText.f a0_6 a0_7 a0_8 a0_9).bind fun t177=>(if (((⟨#[]⟩:ByteArray) ++ t176) ++ (⟨#[60]⟩:ByteArray)).size + t177.size≤9223372036854775807 then (some ((((⟨#[]⟩:ByteArray) ++ t176) ++ (⟨#[60]⟩:ByteArray)) ++ t177)) else (none))) else (none)) else (none)))))=some r:=by rw [if_pos rfl] at H;exact H
  clear H
  have H:=H1
  clear H1
  by_cases c4:a0_1=true
  ·subst c4
   have H1:(if a0_0=2 then ((impl_CellText.f a0_2 a0_3 a0_4 a0_5).bind fun t170=>(if 1 + t170.size≤9223372036854775807 then (if ((⟨#[33]⟩:ByteArray) ++ t170).size + 1≤9223372036854775807 then ((impl_CellText.f a0_6 a0_7 a0_8 a0_9).bind fun t171=>(if (((⟨#[33]⟩:ByteArray) ++ t170) ++ (⟨#[61]⟩:ByteArray)).size + t171.size≤9223372036854775807 then (some ((((⟨#[33]⟩:ByteArray) ++ t170) ++ (⟨#[61]⟩:ByteArray)) ++ t171)) else (none))) else (none)) else (none))) else ((impl_CellText.f a0_2 a0_3 a0_4 a0_5).bind fun t172=>(if 1 + t172.size≤9223372036854775807 then (if ((⟨#[33]⟩:ByteArray) ++ t172).size + 1≤9223372036854775807 then ((impl_CellText.f a0_6 a0_7 a0_8 a0_9).bind fun t173=>(if (((⟨#[33]⟩:ByteArray) ++ t172) ++ (⟨#[60]⟩:ByteArray)).size + t173.size≤9223372036854775807 then (some ((((⟨#[33]⟩:ByteArray) ++ t172) ++ (⟨#[60]⟩:ByteArray)) ++ t173)) else (none))) else (none)) else (none))))=some r:=by rw [if_pos rfl] at H;exact H
   clear H
   have H:=H1
   clear H1
   by_cases c5:a0_0=2
   ·rw [if_pos c5] at H
    have c5b0:(a0_0 == 2)=true:=beq_iff_eq.mpr c5
    have c5b1:(a0_0 != 2)=false:=bne_eq_false_iff_eq.mpr c5
    clear c5
    replace H:=Option.bind_eq_some_iff.mp H
    obtain ⟨t170,A60,H⟩:=H
    (try dsimp only at H)
    have A6:=Aside0.mk A60
    clear A60
    by_cases c7:1 + t170.size≤9223372036854775807
    ·rw [if_pos c7] at H
     have c7b0:=eq_true c7
     have c7b1:decide (1 + t170.size≤9223372036854775807)=true:=decide_eq_true c7
     try have c7b2:(9223372036854775807 < 1 + t170.size)=False:=eq_false (Nat.not_lt.2 c7)
     by_cases c8:((⟨#[33]⟩:ByteArray) ++ t170).size + 1≤9223372036854775807
     ·rw [if_pos c8] at H
      have c8b0:=eq_true c8
      have c8b1:decide (((⟨#[33]⟩:ByteArray) ++ t170).size + 1≤9223372036854775807)=true:=decide_eq_true c8
      (try (have c8b3:1 + t170.size + 1≤9223372036854775807:=by have h_:=c8;simp only [ByteArray.size_append] at h_;exact h_))
      (try have c8b4:=eq_true c8b3)
      (try have c8b5:decide (1 + t170.size + 1≤9223372036854775807)=true:=decide_eq_true c8b3)
      (try have c8b6:(9223372036854775807 < 1 + t170.size + 1)=False:=eq_false (Nat.not_lt.2 c8b3))
      try have c8b2:(9223372036854775807 < ((⟨#[33]⟩:ByteArray) ++ t170).size + 1)=False:=eq_false (Nat.not_lt.2 c8)
      replace H:=Option.bind_eq_some_iff.mp H
      obtain ⟨t171,A90,H⟩:=H
      (try dsimp only at H)
      have A9:=Aside0.mk A90
      clear A90
      by_cases c10:(((⟨#[33]⟩:ByteArray) ++ t170) ++ (⟨#[61]⟩:ByteArray)).size + t171.size≤9223372036854775807
      ·rw [if_pos c10] at H
       have c10b0:=eq_true c10
       have c10b1:decide ((((⟨#[33]⟩:ByteArray) ++ t170) ++ (⟨#[61]⟩:ByteArray)).size + t171.size≤9223372036854775807)=true:=decide_eq_true c10
       (try (have c10b3:1 + t170.size + 1 + t171.size≤9223372036854775807:=by have h_:=c10;simp only [ByteArray.size_append] at h_;exact h_))
       (try have c10b4:=eq_true c10b3)
       (try have c10b5:decide (1 + t170.size + 1 + t171.size≤9223372036854775807)=true:=decide_eq_true c10b3)
       (try have c10b6:(9223372036854775807 < 1 + t170.size + 1 + t171.size)=False:=eq_false (Nat.not_lt.2 c10b3))
       try have c10b2:(9223372036854775807 < (((⟨#[33]⟩:ByteArray) ++ t170) ++ (⟨#[61]⟩:ByteArray)).size + t171.size)=False:=eq_false (Nat.not_lt.2 c10)
       obtain rfl:=Option.some.inj H
       go_enter Tryd.func21,Tryd.ntmps21
       try go_wp2_with (first|((with_reducible refine gate_dst (N:=1) rfl ?_);refine box_event ?hg (N:=1) ?hd (cs:=#[.int .i64 a0_0,.bool true,.int .i64 a0_2,.int .i64 a0_3,.int .i64 a0_4,.int .i64 a0_5,.int .i64 a0_6,.int .i64 a0_7,.int .i64 a0_8,.int .i64 a0_9]) (t:=29) ?hr ?_;(case hd=>rfl);(case hg=>rfl);(case hr=>first|(go_simp;done)|(go_simp;rfl));intro gb168 hg w11 hbox hb;have n0_:=Aside0.mk (below_step zhb hb);have n1_:=Aside0.mk (hbox);have n2_:=Aside0.mk ((by rw [hg];exact (below_size zhb):w.heap.size≤gb168));have n3_:=Aside0.mk ((by rw [hg];exact (below_size zhb):w.heap.size≤gb168));clear HB;have HB:=n0_;have BK168:=n1_;have GW168:=n2_;have GE168:=n3_;clear n0_ n1_ n2_ n3_;clear hb hbox hg;have hcz12_0:w11.cell? ⟨gb168,0,none⟩=some (.int .i64 a0_0):=(blk_cell BK168.out 0).trans rfl;have hcz12_1:w11.cell? ⟨gb168,1,none⟩=some (.bool true):=(blk_cell BK168.out 1).trans rfl;have hcz12_2:w11.cell? ⟨gb168,2,none⟩=some (.int .i64 a0_2):=(blk_cell BK168.out 2).trans rfl;have hcz12_3:w11.cell? ⟨gb168,3,none⟩=some (.int .i64 a0_3):=(blk_cell BK168.out 3).trans rfl;have hcz12_4:w11.cell? ⟨gb168,4,none⟩=some (.int .i64 a0_4):=(blk_cell BK168.out 4).trans rfl;have hcz12_5:w11.cell? ⟨gb168,5,none⟩=some (.int .i64 a0_5):=(blk_cell BK168.out 5).trans rfl;have hcz12_6:w11.cell? ⟨gb168,6,none⟩=some (.int .i64 a0_6):=(blk_cell BK168.out 6).trans rfl;have hcz12_7:w11.cell? ⟨gb168,7,none⟩=some (.int .i64 a0_7):=(blk_cell BK168.out 7).trans rfl;have hcz12_8:w11.cell? ⟨gb168,8,none⟩=some (.int .i64 a0_8):=(blk_cell BK168.out 8).trans rfl;have hcz12_9:w11.cell? ⟨gb168,9,none⟩=some (.int .i64 a0_9):=(blk_cell BK168.out 9).trans rfl;have hfz12_0:=blk_frozen BK168.out 0;have hfz12_1:=blk_frozen BK168.out 1;have hfz12_2:=blk_frozen BK168.out 2;have hfz12_3:=blk_frozen BK168.out 3;have hfz12_4:=blk_frozen BK168.out 4;have hfz12_5:=blk_frozen BK168.out 5;have hfz12_6:=blk_frozen BK168.out 6;have hfz12_7:=blk_frozen BK168.out 7;have hfz12_8:=blk_frozen BK168.out 8;have hfz12_9:=blk_frozen BK168.out 9)|((with_reducible refine gate_callee (f:=29) rfl ?_);refine goesL_ (some 6) rfl rfl Tryd.func29 (by kernel_rfl) rfl #[.agg #[.int .i64 a0_0,.bool true,.int .i64 a0_2,.int .i64 a0_3,.int .i64 a0_4,.int .i64 a0_5,.int .i64 a0_6,.int .i64 a0_7,.int .i64 a0_8,.int .i64 a0_9],.int .i64 6] rfl zar ?_;(with_reducible refine (impl_TestOk.calls a0_0 true a0_2 a0_3 a0_4 a0_5 a0_6 a0_7 a0_8 a0_9 6 true _ A2.out).mono ?_);rintro e w13 ⟨rfl,hb⟩;refine ⟨_,rfl,?_⟩;have n0_:=Aside0.mk (blk_below (g:=gb168) (o:=.cells #[.int .i64 a0_0,.bool true,.int .i64 a0_2,.int .i64 a0_3,.int .i64 a0_4,.int .i64 a0_5,.int .i64 a0_6,.int .i64 a0_7,.int .i64 a0_8,.int .i64 a0_9] 29 (0,0)) (by (with_reducible repeat (first|refine blk_drewN ?_ _|refine blk_drew ?_|refine blk_alloc ?_ _));exact BK168.out) hb);have n1_:=Aside0.mk (below_step (by repeat (first|(with_reducible first|exact HB.out|apply below_alloc|apply pw_below_drewN|apply below_drew1|refine below_set ?_ GE168.out)|exact HB.out)) hb);clear BK168;clear HB;have BK168:=n0_;have HB:=n1_;clear n0_ n1_;(try clear hb);(try clear hb2);(try clear hk);(try clear hi);have hcz14_0:w13.cell? ⟨gb168,0,none⟩=some (.int .i64 a0_0):=(blk_cell BK168.out 0).trans rfl;have hcz14_1:w13.cell? ⟨gb168,1,none⟩=some (.bool true):=(blk_cell BK168.out 1).trans rfl;have hcz14_2:w13.cell? ⟨gb168,2,none⟩=some (.int .i64 a0_2):=(blk_cell BK168.out 2).trans rfl;have hcz14_3:w13.cell? ⟨gb168,3,none⟩=some (.int .i64 a0_3):=(blk_cell BK168.out 3).trans rfl;have hcz14_4:w13.cell? ⟨gb168,4,none⟩=some (.int .i64 a0_4):=(blk_cell BK168.out 4).trans rfl;have hcz14_5:w13.cell? ⟨gb168,5,none⟩=some (.int .i64 a0_5):=(blk_cell BK168.out 5).trans rfl;have hcz14_6:w13.cell? ⟨gb168,6,none⟩=some (.int .i64 a0_6):=(blk_cell BK168.out 6).trans rfl;have hcz14_7:w13.cell? ⟨gb168,7,none⟩=some (.int .i64 a0_7):=(blk_cell BK168.out 7).trans rfl;have hcz14_8:w13.cell? ⟨gb168,8,none⟩=some (.int .i64 a0_8):=(blk_cell BK168.out 8).trans rfl;have hcz14_9:w13.cell? ⟨gb168,9,none⟩=some (.int .i64 a0_9):=(blk_cell BK168.out 9).trans rfl;have hfz14_0:=blk_frozen BK168.out 0;have hfz14_1:=blk_frozen BK168.out 1;have hfz14_2:=blk_frozen BK168.out 2;have hfz14_3:=blk_frozen BK168.out 3;have hfz14_4:=blk_frozen BK168.out 4;have hfz14_5:=blk_frozen BK168.out 5;have hfz14_6:=blk_frozen BK168.out 6;have hfz14_7:=blk_frozen BK168.out 7;have hfz14_8:=blk_frozen BK168.out 8;have hfz14_9:=blk_frozen BK168.out 9))
       have n0_:=Aside0.mk (blk_drew BK168.out)
       have n1_:=Aside0.mk (below_drew1 HB.out)
       clear BK168
       clear HB
       have BK168:=n0_
       have HB:=n1_
       clear n0_ n1_
       refine start_ (n:=12) (S:=fun w'=>w'.cell? ⟨gb168,0,none⟩=some (.int .i64 a0_0)∧w'.cell? ⟨gb168,1,none⟩=some (.bool true)∧w'.cell? ⟨gb168,2,none⟩=some (.int .i64 a0_2)∧w'.cell? ⟨gb168,3,none⟩=some (.int .i64 a0_3)∧w'.cell? ⟨gb168,4,none⟩=some (.int .i64 a0_4)∧w'.cell? ⟨gb168,5,none⟩=some (.int .i64 a0_5)∧w'.cell? ⟨gb168,6,none⟩=some (.int .i64 a0_6)∧w'.cell? ⟨gb168,7,none⟩=some (.int .i64 a0_7)∧w'.cell? ⟨gb168,8,none⟩=some (.int .i64 a0_8)∧w'.cell? ⟨gb168,9,none⟩=some (.int .i64 a0_9)) (ds:=[]) #[X,X,X,X,X,X,X,X,X,X,X,X] (by kernel_rfl) rfl rfl ⟨(blk_cell BK168.out 0).trans rfl,(blk_cell BK168.out 1).trans rfl,(blk_cell BK168.out 2).trans rfl,(blk_cell BK168.out 3).trans rfl,(blk_cell BK168.out 4).trans rfl,(blk_cell BK168.out 5).trans rfl,(blk_cell BK168.out 6).trans rfl,(blk_cell BK168.out 7).trans rfl,(blk_cell BK168.out 8).trans rfl,(blk_cell BK168.out 9).trans rfl⟩ (fun hHeld=>?_);refine with_tabW impl_TestText.tab8 impl_TestText.bits8 (fun HT_ HW_=>?_)
       generalize w13.drew=w15 at BK168 HB hHeld ⊢
       refine pure_ (i:=0) (N:=some 13) (v:=?_) (a':=?_) #[Y,X,X,X,X,X,X,X,X,X,X,X] rfl rfl zan (fun _ _ _ h=>h) (Or.inl ⟨by rfl,?_⟩) ?_ ?_
       rotate_left
       ·intro w'
        go_simp
        with_reducible rfl
       rotate_left
       ·simp only [Act.put,zp1,zp2,zp3,i64_w,i32_w]
        rfl
       refine pure_ (i:=1) (N:=some 14) (v:=?_) (a':=?_) #[Y,Y,X,X,X,X,X,X,X,X,X,X] rfl rfl zan (fun _ _ _ h=>h) (Or.inl ⟨by rfl,?_⟩) ?_ ?_
       rotate_left
       ·intro w'
        go_simp
        with_reducible rfl
       rotate_left
       ·simp only [Act.put,zp1,zp2,zp3,i64_w,i32_w]
        rfl
       refine pure_ (i:=5) (N:=some 18) (v:=?_) (a':=?_) #[Y,Y,X,X,X,Y,X,X,X,X,X,X] rfl rfl zan (fun _ _ _ h=>h) (Or.inl ⟨by rfl,?_⟩) ?_ ?_
       rotate_left
       ·intro w'
        go_simp
        with_reducible rfl
       rotate_left
       ·simp only [Act.put,zp1,zp2,zp3,i64_w,i32_w]
        rfl
       refine pure_ (i:=7) (N:=some 20) (v:=?_) (a':=?_) #[Y,Y,X,X,X,Y,X,Y,X,X,X,X] rfl rfl zan (fun _ _ _ h=>h) (Or.inl ⟨by rfl,?_⟩) ?_ ?_
       rotate_left
       ·intro w'
        go_simp
        with_reducible rfl
       rotate_left
       ·simp only [Act.put,zp1,zp2,zp3,i64_w,i32_w]
        rfl
       refine take_ (i:=2) (N:=some 15) (v:=?_) (a':=?_) #[Y,Y,Y,X,X,Y,X,Y,X,X,X,X] rfl rfl ztw (fun _ _ _ h=>h) (Or.inl ⟨by rfl,?_⟩) hHeld ?_ ?_
       rotate_left
       ·rintro w' ⟨s0,s1,s2,s3,s4,s5,s6,s7,s8,s9⟩
        go_simp
        with_reducible rfl
       rotate_left
       ·simp only [Act.put,zp1,zp2,zp3,i64_w,i32_w]
        rfl
       refine take_ (i:=8) (N:=some 21) (v:=?_) (a':=?_) #[Y,Y,Y,X,X,Y,X,Y,Y,X,X,X] rfl rfl ztw (fun _ _ _ h=>h) (Or.inl ⟨by rfl,?_⟩) hHeld ?_ ?_
       rotate_left
       ·rintro w' ⟨s0,s1,s2,s3,s4,s5,s6,s7,s8,s9⟩
        go_simp
        with_reducible rfl
       rotate_left
       ·simp only [Act.put,zp1,zp2,zp3,i64_w,i32_w]
        rfl
       refine one_ (i:=3) (N:=some 16) #[Y,Y,Y,Y,X,Y,X,Y,Y,X,X,X] rfl rfl (one_of HT_.out (by kernel_rfl)) (by decide) (fun K hK=>?_)
       refine goes_ Tryd.func19 (by kernel_rfl) rfl #[.agg #[.int .i64 a0_2,.int .i64 a0_3,.int .i64 a0_4,.int .i64 a0_5]] (by rfl) rfl rfl zar ?_
       with_reducible refine (impl_CellText.calls a0_2 a0_3 a0_4 a0_5 t170 _ A6.out).mono ?_
       rintro e w16 ⟨rfl,hb⟩
       refine ⟨_,rfl,?_⟩
       have n0_:=Aside0.mk (blk_below (g:=gb168) (o:=.cells #[.int .i64 a0_0,.bool true,.int .i64 a0_2,.int .i64 a0_3,.int .i64 a0_4,.int .i64 a0_5,.int .i64 a0_6,.int .i64 a0_7,.int .i64 a0_8,.int .i64 a0_9] 29 (0,0)) (by (with_reducible repeat (first|refine blk_drewN ?_ _|refine blk_drew ?_|refine blk_alloc ?_ _));exact BK168.out) hb)
       have n1_:=Aside0.mk (below_step (by repeat (first|(with_reducible first|exact HB.out|apply below_alloc|apply pw_below_drewN|apply below_drew1|refine below_set ?_ GE168.out)|exact HB.out)) hb)
       clear BK168
       clear HB
       have BK168:=n0_
       have HB:=n1_
       clear n0_ n1_
       (try clear hb)
       (try clear hb2)
       (try clear hk)
       (try clear hi)
       refine hK.out _ _ ⟨(blk_cell BK168.out 0).trans rfl,(blk_cell BK168.out 1).trans rfl,(blk_cell BK168.out 2).trans rfl,(blk_cell BK168.out 3).trans rfl,(blk_cell BK168.out 4).trans rfl,(blk_cell BK168.out 5).trans rfl,(blk_cell BK168.out 6).trans rfl,(blk_cell BK168.out 7).trans rfl,(blk_cell BK168.out 8).trans rfl,(blk_cell BK168.out 9).trans rfl⟩ (fun hHeld=>?_)
       clear hK K
       refine norm_ (a':=?_) ?_ ?_
       rotate_left
       ·show Act.put _ (some 16) _=_
        simp only [Act.put,zp1,zp2,zp3,i64_w,i32_w]
        rfl
       refine pure_ (i:=4) (N:=some 17) (v:=?_) (a':=?_) #[Y,Y,Y,Y,Y,Y,X,Y,Y,X,X,X] rfl rfl zan (fun _ _ _ h=>h) (Or.inl ⟨by rfl,?_⟩) ?_ ?_
       rotate_left
       ·intro w'
        go_simp
        with_reducible rfl
       rotate_left
       ·simp only [Act.put,zp1,zp2,zp3,i64_w,i32_w]
        rfl
       refine pure_ (i:=6) (N:=some 19) (v:=?_) (a':=?_) #[Y,Y,Y,Y,Y,Y,Y,Y,Y,X,X,X] rfl rfl zan (fun _ _ _ h=>h) (Or.inl ⟨by rfl,?_⟩) ?_ ?_
       rotate_left
       ·intro w'
        go_simp
        with_reducible rfl
       rotate_left
       ·simp only [Act.put,zp1,zp2,zp3,i64_w,i32_w]
        rfl
       refine one_ (i:=9) (N:=some 22) #[Y,Y,Y,Y,Y,Y,Y,Y,Y,Y,X,X] rfl rfl (one_of HT_.out (by kernel_rfl)) (by decide) (fun K hK=>?_)
       refine goes_ Tryd.func19 (by kernel_rfl) rfl #[.agg #[.int .i64 a0_6,.int .i64 a0_7,.int .i64 a0_8,.int .i64 a0_9]] (by rfl) rfl rfl zar ?_
       with_reducible refine (impl_CellText.calls a0_6 a0_7 a0_8 a0_9 t171 _ A9.out).mono ?_
       rintro e w17 ⟨rfl,hb⟩
       refine ⟨_,rfl,?_⟩
       have n0_:=Aside0.mk (blk_below (g:=gb168) (o:=.cells #[.int .i64 a0_0,.bool true,.int .i64 a0_2,.int .i64 a0_3,.int .i64 a0_4,.int .i64 a0_5,.int .i64 a0_6,.int .i64 a0_7,.int .i64 a0_8,.int .i64 a0_9] 29 (0,0)) (by (with_reducible repeat (first|refine blk_drewN ?_ _|refine blk_drew ?_|refine blk_alloc ?_ _));exact BK168.out) hb)
       have n1_:=Aside0.mk (below_step (by repeat (first|(with_reducible first|exact HB.out|apply below_alloc|apply pw_below_drewN|apply below_drew1|refine below_set ?_ GE168.out)|exact HB.out)) hb)
       clear BK168
       clear HB
       have BK168:=n0_
       have HB:=n1_
       clear n0_ n1_
       (try clear hb)
       (try clear hb2)
       (try clear hk)
       (try clear hi)
       refine hK.out _ _ ⟨(blk_cell BK168.out 0).trans rfl,(blk_cell BK168.out 1).trans rfl,(blk_cell BK168.out 2).trans rfl,(blk_cell BK168.out 3).trans rfl,(blk_cell BK168.out 4).trans rfl,(blk_cell BK168.out 5).trans rfl,(blk_cell BK168.out 6).trans rfl,(blk_cell BK168.out 7).trans rfl,(blk_cell BK168.out 8).trans rfl,(blk_cell BK168.out 9).trans rfl⟩ (fun hHeld=>?_)
       clear hK K
       refine norm_ (a':=?_) ?_ ?_
       rotate_left
       ·show Act.put _ (some 22) _=_
        simp only [Act.put,zp1,zp2,zp3,i64_w,i32_w]
        rfl
       refine pure_ (i:=10) (N:=some 23) (v:=?_) (a':=?_) #[Y,Y,Y,Y,Y,Y,Y,Y,Y,Y,Y,X] rfl rfl zan (fun _ _ _ h=>h) (Or.inl ⟨by rfl,?_⟩) ?_ ?_
       rotate_left
       ·intro w'
        go_simp
        with_reducible rfl
       rotate_left
       ·simp only [Act.put,zp1,zp2,zp3,i64_w,i32_w]
        rfl
       refine pure_ (i:=11) (N:=some 2) (v:=?_) (a':=?_) #[Y,Y,Y,Y,Y,Y,Y,Y,Y,Y,Y,Y] rfl rfl zan (fun _ _ _ h=>h) (Or.inl ⟨by rfl,?_⟩) ?_ ?_
       rotate_left
       ·intro w'
        go_simp
        with_reducible rfl
       rotate_left
       ·simp only [Act.put,zp1,zp2,zp3,i64_w,i32_w]
        rfl
       refine done_ (done_of HT_.out (by kernel_rfl)) ?_
       try go_wp2
       go_ret
       exact ⟨by first|rfl|(simp [errW_none,errW_some] <;> rfl)|(simp [*,errW_none,errW_some] <;> rfl),by repeat (first|(with_reducible first|exact HB.out|apply below_alloc|apply pw_below_drewN|apply below_drew1|refine below_set ?_ GE168.out)|exact HB.out)⟩
      ·rw [if_neg c10] at H
       exact absurd H (by simp)
     ·rw [if_neg c8] at H
      exact absurd H (by simp)
    ·rw [if_neg c7] at H
     exact absurd H (by simp)
   ·rw [if_neg c5] at H
    have c5b0:(a0_0 == 2)=false:=beq_eq_false_iff_ne.mpr c5
    have c5b1:(a0_0 != 2)=true:=bne_iff_ne.mpr c5
    replace H:=Option.bind_eq_some_iff.mp H
    obtain ⟨t172,A180,H⟩:=H
    (try dsimp only at H)
    have A18:=Aside0.mk A180
    clear A180
    by_cases c19:1 + t172.size≤9223372036854775807
    ·rw [if_pos c19] at H
     have c19b0:=eq_true c19
     have c19b1:decide (1 + t172.size≤9223372036854775807)=true:=decide_eq_true c19
     try have c19b2:(9223372036854775807 < 1 + t172.size)=False:=eq_false (Nat.not_lt.2 c19)
     by_cases c20:((⟨#[33]⟩:ByteArray) ++ t172).size + 1≤9223372036854775807
     ·rw [if_pos c20] at H
      have c20b0:=eq_true c20
      have c20b1:decide (((⟨#[33]⟩:ByteArray) ++ t172).size + 1≤9223372036854775807)=true:=decide_eq_true c20
      (try (have c20b3:1 + t172.size + 1≤9223372036854775807:=by have h_:=c20;simp only [ByteArray.size_append] at h_;exact h_))
      (try have c20b4:=eq_true c20b3)
      (try have c20b5:decide (1 + t172.size + 1≤9223372036854775807)=true:=decide_eq_true c20b3)
      (try have c20b6:(9223372036854775807 < 1 + t172.size + 1)=False:=eq_false (Nat.not_lt.2 c20b3))
      try have c20b2:(9223372036854775807 < ((⟨#[33]⟩:ByteArray) ++ t172).size + 1)=False:=eq_false (Nat.not_lt.2 c20)
      replace H:=Option.bind_eq_some_iff.mp H
      obtain ⟨t173,A210,H⟩:=H
      (try dsimp only at H)
      have A21:=Aside0.mk A210
      clear A210
      by_cases c22:(((⟨#[33]⟩:ByteArray) ++ t172) ++ (⟨#[60]⟩:ByteArray)).size + t173.size≤9223372036854775807
      ·rw [if_pos c22] at H
       have c22b0:=eq_true c22
       have c22b1:decide ((((⟨#[33]⟩:ByteArray) ++ t172) ++ (⟨#[60]⟩:ByteArray)).size + t173.size≤9223372036854775807)=true:=decide_eq_true c22
       (try (have c22b3:1 + t172.size + 1 + t173.size≤9223372036854775807:=by have h_:=c22;simp only [ByteArray.size_append] at h_;exact h_))
       (try have c22b4:=eq_true c22b3)
       (try have c22b5:decide (1 + t172.size + 1 + t173.size≤9223372036854775807)=true:=decide_eq_true c22b3)
       (try have c22b6:(9223372036854775807 < 1 + t172.size + 1 + t173.size)=False:=eq_false (Nat.not_lt.2 c22b3))
       try have c22b2:(9223372036854775807 < (((⟨#[33]⟩:ByteArray) ++ t172) ++ (⟨#[60]⟩:ByteArray)).size + t173.size)=False:=eq_false (Nat.not_lt.2 c22)
       obtain rfl:=Option.some.inj H
       go_enter Tryd.func21,Tryd.ntmps21
       try go_wp2_with (first|((with_reducible refine gate_dst (N:=1) rfl ?_);refine box_event ?hg (N:=1) ?hd (cs:=#[.int .i64 a0_0,.bool true,.int .i64 a0_2,.int .i64 a0_3,.int .i64 a0_4,.int .i64 a0_5,.int .i64 a0_6,.int .i64 a0_7,.int .i64 a0_8,.int .i64 a0_9]) (t:=29) ?hr ?_;(case hd=>rfl);(case hg=>rfl);(case hr=>first|(go_simp;done)|(go_simp;rfl));intro gb168 hg w23 hbox hb;have n0_:=Aside0.mk (below_step zhb hb);have n1_:=Aside0.mk (hbox);have n2_:=Aside0.mk ((by rw [hg];exact (below_size zhb):w.heap.size≤gb168));have n3_:=Aside0.mk ((by rw [hg];exact (below_size zhb):w.heap.size≤gb168));clear HB;have HB:=n0_;have BK168:=n1_;have GW168:=n2_;have GE168:=n3_;clear n0_ n1_ n2_ n3_;clear hb hbox hg;have hcz24_0:w23.cell? ⟨gb168,0,none⟩=some (.int .i64 a0_0):=(blk_cell BK168.out 0).trans rfl;have hcz24_1:w23.cell? ⟨gb168,1,none⟩=some (.bool true):=(blk_cell BK168.out 1).trans rfl;have hcz24_2:w23.cell? ⟨gb168,2,none⟩=some (.int .i64 a0_2):=(blk_cell BK168.out 2).trans rfl;have hcz24_3:w23.cell? ⟨gb168,3,none⟩=some (.int .i64 a0_3):=(blk_cell BK168.out 3).trans rfl;have hcz24_4:w23.cell? ⟨gb168,4,none⟩=some (.int .i64 a0_4):=(blk_cell BK168.out 4).trans rfl;have hcz24_5:w23.cell? ⟨gb168,5,none⟩=some (.int .i64 a0_5):=(blk_cell BK168.out 5).trans rfl;have hcz24_6:w23.cell? ⟨gb168,6,none⟩=some (.int .i64 a0_6):=(blk_cell BK168.out 6).trans rfl;have hcz24_7:w23.cell? ⟨gb168,7,none⟩=some (.int .i64 a0_7):=(blk_cell BK168.out 7).trans rfl;have hcz24_8:w23.cell? ⟨gb168,8,none⟩=some (.int .i64 a0_8):=(blk_cell BK168.out 8).trans rfl;have hcz24_9:w23.cell? ⟨gb168,9,none⟩=some (.int .i64 a0_9):=(blk_cell BK168.out 9).trans rfl;have hfz24_0:=blk_frozen BK168.out 0;have hfz24_1:=blk_frozen BK168.out 1;have hfz24_2:=blk_frozen BK168.out 2;have hfz24_3:=blk_frozen BK168.out 3;have hfz24_4:=blk_frozen BK168.out 4;have hfz24_5:=blk_frozen BK168.out 5;have hfz24_6:=blk_frozen BK168.out 6;have hfz24_7:=blk_frozen BK168.out 7;have hfz24_8:=blk_frozen BK168.out 8;have hfz24_9:=blk_frozen BK168.out 9)|((with_reducible refine gate_callee (f:=29) rfl ?_);refine goesL_ (some 6) rfl rfl Tryd.func29 (by kernel_rfl) rfl #[.agg #[.int .i64 a0_0,.bool true,.int .i64 a0_2,.int .i64 a0_3,.int .i64 a0_4,.int .i64 a0_5,.int .i64 a0_6,.int .i64 a0_7,.int .i64 a0_8,.int .i64 a0_9],.int .i64 6] rfl zar ?_;(with_reducible refine (impl_TestOk.calls a0_0 true a0_2 a0_3 a0_4 a0_5 a0_6 a0_7 a0_8 a0_9 6 true _ A2.out).mono ?_);rintro e w25 ⟨rfl,hb⟩;refine ⟨_,rfl,?_⟩;have n0_:=Aside0.mk (blk_below (g:=gb168) (o:=.cells #[.int .i64 a0_0,.bool true,.int .i64 a0_2,.int .i64 a0_3,.int .i64 a0_4,.int .i64 a0_5,.int .i64 a0_6,.int .i64 a0_7,.int .i64 a0_8,.int .i64 a0_9] 29 (0,0)) (by (with_reducible repeat (first|refine blk_drewN ?_ _|refine blk_drew ?_|refine blk_alloc ?_ _));exact BK168.out) hb);have n1_:=Aside0.mk (below_step (by repeat (first|(with_reducible first|exact HB.out|apply below_alloc|apply pw_below_drewN|apply below_drew1|refine below_set ?_ GE168.out)|exact HB.out)) hb);clear BK168;clear HB;have BK168:=n0_;have HB:=n1_;clear n0_ n1_;(try clear hb);(try clear hb2);(try clear hk);(try clear hi);have hcz26_0:w25.cell? ⟨gb168,0,none⟩=some (.int .i64 a0_0):=(blk_cell BK168.out 0).trans rfl;have hcz26_1:w25.cell? ⟨gb168,1,none⟩=some (.bool true):=(blk_cell BK168.out 1).trans rfl;have hcz26_2:w25.cell? ⟨gb168,2,none⟩=some (.int .i64 a0_2):=(blk_cell BK168.out 2).trans rfl;have hcz26_3:w25.cell? ⟨gb168,3,none⟩=some (.int .i64 a0_3):=(blk_cell BK168.out 3).trans rfl;have hcz26_4:w25.cell? ⟨gb168,4,none⟩=some (.int .i64 a0_4):=(blk_cell BK168.out 4).trans rfl;have hcz26_5:w25.cell? ⟨gb168,5,none⟩=some (.int .i64 a0_5):=(blk_cell BK168.out 5).trans rfl;have hcz26_6:w25.cell? ⟨gb168,6,none⟩=some (.int .i64 a0_6):=(blk_cell BK168.out 6).trans rfl;have hcz26_7:w25.cell? ⟨gb168,7,none⟩=some (.int .i64 a0_7):=(blk_cell BK168.out 7).trans rfl;have hcz26_8:w25.cell? ⟨gb168,8,none⟩=some (.int .i64 a0_8):=(blk_cell BK168.out 8).trans rfl;have hcz26_9:w25.cell? ⟨gb168,9,none⟩=some (.int .i64 a0_9):=(blk_cell BK168.out 9).trans rfl;have hfz26_0:=blk_frozen BK168.out 0;have hfz26_1:=blk_frozen BK168.out 1;have hfz26_2:=blk_frozen BK168.out 2;have hfz26_3:=blk_frozen BK168.out 3;have hfz26_4:=blk_frozen BK168.out 4;have hfz26_5:=blk_frozen BK168.out 5;have hfz26_6:=blk_frozen BK168.out 6;have hfz26_7:=blk_frozen BK168.out 7;have hfz26_8:=blk_frozen BK168.out 8;have hfz26_9:=blk_frozen BK168.out 9))
       have n0_:=Aside0.mk (blk_drew BK168.out)
       have n1_:=Aside0.mk (below_drew1 HB.out)
       clear BK168
       clear HB
       have BK168:=n0_
       have HB:=n1_
       clear n0_ n1_
       refine start_ (n:=12) (S:=fun w'=>w'.cell? ⟨gb168,0,none⟩=some (.int .i64 a0_0)∧w'.cell? ⟨gb168,1,none⟩=some (.bool true)∧w'.cell? ⟨gb168,2,none⟩=some (.int .i64 a0_2)∧w'.cell? ⟨gb168,3,none⟩=some (.int .i64 a0_3)∧w'.cell? ⟨gb168,4,none⟩=some (.int .i64 a0_4)∧w'.cell? ⟨gb168,5,none⟩=some (.int .i64 a0_5)∧w'.cell? ⟨gb168,6,none⟩=some (.int .i64 a0_6)∧w'.cell? ⟨gb168,7,none⟩=some (.int .i64 a0_7)∧w'.cell? ⟨gb168,8,none⟩=some (.int .i64 a0_8)∧w'.cell? ⟨gb168,9,none⟩=some (.int .i64 a0_9)) (ds:=[]) #[X,X,X,X,X,X,X,X,X,X,X,X] (by kernel_rfl) rfl rfl ⟨(blk_cell BK168.out 0).trans rfl,(blk_cell BK168.out 1).trans rfl,(blk_cell BK168.out 2).trans rfl,(blk_cell BK168.out 3).trans rfl,(blk_cell BK168.out 4).trans rfl,(blk_cell BK168.out 5).trans rfl,(blk_cell BK168.out 6).trans rfl,(blk_cell BK168.out 7).trans rfl,(blk_cell BK168.out 8).trans rfl,(blk_cell BK168.out 9).trans rfl⟩ (fun hHeld=>?_);refine with_tabW impl_TestText.tab8 impl_TestText.bits8 (fun HT_ HW_=>?_)
       generalize w25.drew=w27 at BK168 HB hHeld ⊢
       refine pure_ (i:=0) (N:=some 13) (v:=?_) (a':=?_) #[Y,X,X,X,X,X,X,X,X,X,X,X] rfl rfl zan (fun _ _ _ h=>h) (Or.inl ⟨by rfl,?_⟩) ?_ ?_
       rotate_left
       ·intro w'
        go_simp
        with_reducible rfl
       rotate_left
       ·simp only [Act.put,zp1,zp2,zp3,i64_w,i32_w]
        rfl
       refine pure_ (i:=1) (N:=some 14) (v:=?_) (a':=?_) #[Y,Y,X,X,X,X,X,X,X,X,X,X] rfl rfl zan (fun _ _ _ h=>h) (Or.inl ⟨by rfl,?_⟩) ?_ ?_
       rotate_left
       ·intro w'
        go_simp
        with_reducible rfl
       rotate_left
       ·simp only [Act.put,zp1,zp2,zp3,i64_w,i32_w]
        rfl
       refine pure_ (i:=5) (N:=some 18) (v:=?_) (a':=?_) #[Y,Y,X,X,X,Y,X,X,X,X,X,X] rfl rfl zan (fun _ _ _ h=>h) (Or.inl ⟨by rfl,?_⟩) ?_ ?_
       rotate_left
       ·intro w'
        go_simp
        with_reducible rfl
       rotate_left
       ·simp only [Act.put,zp1,zp2,zp3,i64_w,i32_w]
        rfl
       refine pure_ (i:=7) (N:=some 20) (v:=?_) (a':=?_) #[Y,Y,X,X,X,Y,X,Y,X,X,X,X] rfl rfl zan (fun _ _ _ h=>h) (Or.inl ⟨by rfl,?_⟩) ?_ ?_
       rotate_left
       ·intro w'
        go_simp
        with_reducible rfl
       rotate_left
       ·simp only [Act.put,zp1,zp2,zp3,i64_w,i32_w]
        rfl
       refine take_ (i:=2) (N:=some 15) (v:=?_) (a':=?_) #[Y,Y,Y,X,X,Y,X,Y,X,X,X,X] rfl rfl ztw (fun _ _ _ h=>h) (Or.inl ⟨by rfl,?_⟩) hHeld ?_ ?_
       rotate_left
       ·rintro w' ⟨s0,s1,s2,s3,s4,s5,s6,s7,s8,s9⟩
        go_simp
        with_reducible rfl
       rotate_left
       ·simp only [Act.put,zp1,zp2,zp3,i64_w,i32_w]
        rfl
       refine take_ (i:=8) (N:=some 21) (v:=?_) (a':=?_) #[Y,Y,Y,X,X,Y,X,Y,Y,X,X,X] rfl rfl ztw (fun _ _ _ h=>h) (Or.inl ⟨by rfl,?_⟩) hHeld ?_ ?_
       rotate_left
       ·rintro w' ⟨s0,s1,s2,s3,s4,s5,s6,s7,s8,s9⟩
        go_simp
        with_reducible rfl
       rotate_left
       ·simp only [Act.put,zp1,zp2,zp3,i64_w,i32_w]
        rfl
       refine one_ (i:=3) (N:=some 16) #[Y,Y,Y,Y,X,Y,X,Y,Y,X,X,X] rfl rfl (one_of HT_.out (by kernel_rfl)) (by decide) (fun K hK=>?_)
       refine goes_ Tryd.func19 (by kernel_rfl) rfl #[.agg #[.int .i64 a0_2,.int .i64 a0_3,.int .i64 a0_4,.int .i64 a0_5]] (by rfl) rfl rfl zar ?_
       with_reducible refine (impl_CellText.calls a0_2 a0_3 a0_4 a0_5 t172 _ A18.out).mono ?_
       rintro e w28 ⟨rfl,hb⟩
       refine ⟨_,rfl,?_⟩
       have n0_:=Aside0.mk (blk_below (g:=gb168) (o:=.cells #[.int .i64 a0_0,.bool true,.int .i64 a0_2,.int .i64 a0_3,.int .i64 a0_4,.int .i64 a0_5,.int .i64 a0_6,.int .i64 a0_7,.int .i64 a0_8,.int .i64 a0_9] 29 (0,0)) (by (with_reducible repeat (first|refine blk_drewN ?_ _|refine blk_drew ?_|refine blk_alloc ?_ _));exact BK168.out) hb)
       have n1_:=Aside0.mk (below_step (by repeat (first|(with_reducible first|exact HB.out|apply below_alloc|apply pw_below_drewN|apply below_drew1|refine below_set ?_ GE168.out)|exact HB.out)) hb)
       clear BK168
       clear HB
       have BK168:=n0_
       have HB:=n1_
       clear n0_ n1_
       (try clear hb)
       (try clear hb2)
       (try clear hk)
       (try clear hi)
       refine hK.out _ _ ⟨(blk_cell BK168.out 0).trans rfl,(blk_cell BK168.out 1).trans rfl,(blk_cell BK168.out 2).trans rfl,(blk_cell BK168.out 3).trans rfl,(blk_cell BK168.out 4).trans rfl,(blk_cell BK168.out 5).trans rfl,(blk_cell BK168.out 6).trans rfl,(blk_cell BK168.out 7).trans rfl,(blk_cell BK168.out 8).trans rfl,(blk_cell BK168.out 9).trans rfl⟩ (fun hHeld=>?_)
       clear hK K
       refine norm_ (a':=?_) ?_ ?_
       rotate_left
       ·show Act.put _ (some 16) _=_
        simp only [Act.put,zp1,zp2,zp3,i64_w,i32_w]
        rfl
       refine pure_ (i:=4) (N:=some 17) (v:=?_) (a':=?_) #[Y,Y,Y,Y,Y,Y,X,Y,Y,X,X,X] rfl rfl zan (fun _ _ _ h=>h) (Or.inl ⟨by rfl,?_⟩) ?_ ?_
       rotate_left
       ·intro w'
        go_simp
        with_reducible rfl
       rotate_left
       ·simp only [Act.put,zp1,zp2,zp3,i64_w,i32_w]
        rfl
       refine pure_ (i:=6) (N:=some 19) (v:=?_) (a':=?_) #[Y,Y,Y,Y,Y,Y,Y,Y,Y,X,X,X] rfl rfl zan (fun _ _ _ h=>h) (Or.inl ⟨by rfl,?_⟩) ?_ ?_
       rotate_left
       ·intro w'
        go_simp
        with_reducible rfl
       rotate_left
       ·simp only [Act.put,zp1,zp2,zp3,i64_w,i32_w]
        rfl
       refine one_ (i:=9) (N:=some 22) #[Y,Y,Y,Y,Y,Y,Y,Y,Y,Y,X,X] rfl rfl (one_of HT_.out (by kernel_rfl)) (by decide) (fun K hK=>?_)
       refine goes_ Tryd.func19 (by kernel_rfl) rfl #[.agg #[.int .i64 a0_6,.int .i64 a0_7,.int .i64 a0_8,.int .i64 a0_9]] (by rfl) rfl rfl zar ?_
       with_reducible refine (impl_CellText.calls a0_6 a0_7 a0_8 a0_9 t173 _ A21.out).mono ?_
       rintro e w29 ⟨rfl,hb⟩
       refine ⟨_,rfl,?_⟩
       have n0_:=Aside0.mk (blk_below (g:=gb168) (o:=.cells #[.int .i64 a0_0,.bool true,.int .i64 a0_2,.int .i64 a0_3,.int .i64 a0_4,.int .i64 a0_5,.int .i64 a0_6,.int .i64 a0_7,.int .i64 a0_8,.int .i64 a0_9] 29 (0,0)) (by (with_reducible repeat (first|refine blk_drewN ?_ _|refine blk_drew ?_|refine blk_alloc ?_ _));exact BK168.out) hb)
       have n1_:=Aside0.mk (below_step (by repeat (first|(with_reducible first|exact HB.out|apply below_alloc|apply pw_below_drewN|apply below_drew1|refine below_set ?_ GE168.out)|exact HB.out)) hb)
       clear BK168
       clear HB
       have BK168:=n0_
       have HB:=n1_
       clear n0_ n1_
       (try clear hb)
       (try clear hb2)
       (try clear hk)
       (try clear hi)
       refine hK.out _ _ ⟨(blk_cell BK168.out 0).trans rfl,(blk_cell BK168.out 1).trans rfl,(blk_cell BK168.out 2).trans rfl,(blk_cell BK168.out 3).trans rfl,(blk_cell BK168.out 4).trans rfl,(blk_cell BK168.out 5).trans rfl,(blk_cell BK168.out 6).trans rfl,(blk_cell BK168.out 7).trans rfl,(blk_cell BK168.out 8).trans rfl,(blk_cell BK168.out 9).trans rfl⟩ (fun hHeld=>?_)
       clear hK K
       refine norm_ (a':=?_) ?_ ?_
       rotate_left
       ·show Act.put _ (some 22) _=_
        simp only [Act.put,zp1,zp2,zp3,i64_w,i32_w]
        rfl
       refine pure_ (i:=10) (N:=some 23) (v:=?_) (a':=?_) #[Y,Y,Y,Y,Y,Y,Y,Y,Y,Y,Y,X] rfl rfl zan (fun _ _ _ h=>h) (Or.inl ⟨by rfl,?_⟩) ?_ ?_
       rotate_left
       ·intro w'
        go_simp
        with_reducible rfl
       rotate_left
       ·simp only [Act.put,zp1,zp2,zp3,i64_w,i32_w]
        rfl
       refine pure_ (i:=11) (N:=some 2) (v:=?_) (a':=?_) #[Y,Y,Y,Y,Y,Y,Y,Y,Y,Y,Y,Y] rfl rfl zan (fun _ _ _ h=>h) (Or.inl ⟨by rfl,?_⟩) ?_ ?_
       rotate_left
       ·intro w'
        go_simp
        with_reducible rfl
       rotate_left
       ·simp only [Act.put,zp1,zp2,zp3,i64_w,i32_w]
        rfl
       refine done_ (done_of HT_.out (by kernel_rfl)) ?_
       try go_wp2
       go_ret
       exact ⟨by first|rfl|(simp [errW_none,errW_some] <;> rfl)|(simp [*,errW_none,errW_some] <;> rfl),by repeat (first|(with_reducible first|exact HB.out|apply below_alloc|apply pw_below_drewN|apply below_drew1|refine below_set ?_ GE168.out)|exact HB.out)⟩
      ·rw [if_neg c22] at H
       exact absurd H (by simp)
     ·rw [if_neg c20] at H
      exact absurd H (by simp)
    ·rw [if_neg c19] at H
     exact absurd H (by simp)
  ·replace c4:=Bool.eq_false_iff.mpr c4
   subst c4
   have H1:(if a0_0=2 then ((impl_CellText.f a0_2 a0_3 a0_4 a0_5).bind fun t174=>(if 0 + t174.size≤9223372036854775807 then (if ((⟨#[]⟩:ByteArray) ++ t174).size + 1≤9223372036854775807 then ((impl_CellText.f a0_6 a0_7 a0_8 a0_9).bind fun t175=>(if (((⟨#[]⟩:ByteArray) ++ t174) ++ (⟨#[61]⟩:ByteArray)).size + t175.size≤9223372036854775807 then (some ((((⟨#[]⟩:ByteArray) ++ t174) ++ (⟨#[61]⟩:ByteArray)) ++ t175)) else (none))) else (none)) else (none))) else ((impl_CellText.f a0_2 a0_3 a0_4 a0_5).bind fun t176=>(if 0 + t176.size≤9223372036854775807 then (if ((⟨#[]⟩:ByteArray) ++ t176).size + 1≤9223372036854775807 then ((impl_CellText.f a0_6 a0_7 a0_8 a0_9).bind fun t177=>(if (((⟨#[]⟩:ByteArray) ++ t176) ++ (⟨#[60]⟩:ByteArray)).size + t177.size≤9223372036854775807 then (some ((((⟨#[]⟩:ByteArray) ++ t176) ++ (⟨#[60]⟩:ByteArray)) ++ t177)) else (none))) else (none)) else (none))))=some r:=by rw [if_neg (show ¬ (false=true) by decide)] at H;exact H
   clear H
   have H:=H1
   clear H1
   by_cases c30:a0_0=2
   ·rw [if_pos c30] at H
    have c30b0:(a0_0 == 2)=true:=beq_iff_eq.mpr c30
    have c30b1:(a0_0 != 2)=false:=bne_eq_false_iff_eq.mpr c30
    clear c30
    replace H:=Option.bind_eq_some_iff.mp H
    obtain ⟨t174,A310,H⟩:=H
    (try dsimp only at H)
    have A31:=Aside0.mk A310
    clear A310
    by_cases c32:0 + t174.size≤9223372036854775807
    ·rw [if_pos c32] at H
     have c32z:(9223372036854775807 < t174.size)=False:=eq_false (by omega)
     have c32b0:=eq_true c32
     have c32b1:decide (0 + t174.size≤9223372036854775807)=true:=decide_eq_true c32
     try have c32b2:(9223372036854775807 < 0 + t174.size)=False:=eq_false (Nat.not_lt.2 c32)
     by_cases c33:((⟨#[]⟩:ByteArray) ++ t174).size + 1≤9223372036854775807
     ·rw [if_pos c33] at H
      have c33z:(9223372036854775807 < t174.size + 1)=False:=eq_false (by have e:((⟨#[]⟩:ByteArray) ++ t174).size=t174.size:=(by rw [ByteArray.size_append];exact Nat.zero_add _);omega)
      have c33b0:=eq_true c33
      have c33b1:decide (((⟨#[]⟩:ByteArray) ++ t174).size + 1≤9223372036854775807)=true:=decide_eq_true c33
      (try (have c33b3:0 + t174.size + 1≤9223372036854775807:=by have h_:=c33;simp only [ByteArray.size_append] at h_;exact h_))
      (try have c33b4:=eq_true c33b3)
      (try have c33b5:decide (0 + t174.size + 1≤9223372036854775807)=true:=decide_eq_true c33b3)
      (try have c33b6:(9223372036854775807 < 0 + t174.size + 1)=False:=eq_false (Nat.not_lt.2 c33b3))
      try have c33b2:(9223372036854775807 < ((⟨#[]⟩:ByteArray) ++ t174).size + 1)=False:=eq_false (Nat.not_lt.2 c33)
      replace H:=Option.bind_eq_some_iff.mp H
      obtain ⟨t175,A340,H⟩:=H
      (try dsimp only at H)
      have A34:=Aside0.mk A340
      clear A340
      by_cases c35:(((⟨#[]⟩:ByteArray) ++ t174) ++ (⟨#[61]⟩:ByteArray)).size + t175.size≤9223372036854775807
      ·rw [if_pos c35] at H
       have c35z:(9223372036854775807 < t174.size + 1 + t175.size)=False:=eq_false (by have e:(((⟨#[]⟩:ByteArray) ++ t174) ++ (⟨#[61]⟩:ByteArray)).size=t174.size + 1:=(by rw [ByteArray.size_append,ByteArray.size_append];show 0 + t174.size + 1=_;omega);omega)
       have c35b0:=eq_true c35
       have c35b1:decide ((((⟨#[]⟩:ByteArray) ++ t174) ++ (⟨#[61]⟩:ByteArray)).size + t175.size≤9223372036854775807)=true:=decide_eq_true c35
       (try (have c35b3:0 + t174.size + 1 + t175.size≤9223372036854775807:=by have h_:=c35;simp only [ByteArray.size_append] at h_;exact h_))
       (try have c35b4:=eq_true c35b3)
       (try have c35b5:decide (0 + t174.size + 1 + t175.size≤9223372036854775807)=true:=decide_eq_true c35b3)
       (try have c35b6:(9223372036854775807 < 0 + t174.size + 1 + t175.size)=False:=eq_false (Nat.not_lt.2 c35b3))
       try have c35b2:(9223372036854775807 < (((⟨#[]⟩:ByteArray) ++ t174) ++ (⟨#[61]⟩:ByteArray)).size + t175.size)=False:=eq_false (Nat.not_lt.2 c35)
       obtain rfl:=Option.some.inj H
       go_enter Tryd.func21,Tryd.ntmps21
       try go_wp2_with (first|((with_reducible refine gate_dst (N:=1) rfl ?_);refine box_event ?hg (N:=1) ?hd (cs:=#[.int .i64 a0_0,.bool false,.int .i64 a0_2,.int .i64 a0_3,.int .i64 a0_4,.int .i64 a0_5,.int .i64 a0_6,.int .i64 a0_7,.int .i64 a0_8,.int .i64 a0_9]) (t:=29) ?hr ?_;(case hd=>rfl);(case hg=>rfl);(case hr=>first|(go_simp;done)|(go_simp;rfl));intro gb168 hg w36 hbox hb;have n0_:=Aside0.mk (below_step zhb hb);have n1_:=Aside0.mk (hbox);have n2_:=Aside0.mk ((by rw [hg];exact (below_size zhb):w.heap.size≤gb168));have n3_:=Aside0.mk ((by rw [hg];exact (below_size zhb):w.heap.size≤gb168));clear HB;have HB:=n0_;have BK168:=n1_;have GW168:=n2_;have GE168:=n3_;clear n0_ n1_ n2_ n3_;clear hb hbox hg;have hcz37_0:w36.cell? ⟨gb168,0,none⟩=some (.int .i64 a0_0):=(blk_cell BK168.out 0).trans rfl;have hcz37_1:w36.cell? ⟨gb168,1,none⟩=some (.bool false):=(blk_cell BK168.out 1).trans rfl;have hcz37_2:w36.cell? ⟨gb168,2,none⟩=some (.int .i64 a0_2):=(blk_cell BK168.out 2).trans rfl;have hcz37_3:w36.cell? ⟨gb168,3,none⟩=some (.int .i64 a0_3):=(blk_cell BK168.out 3).trans rfl;have hcz37_4:w36.cell? ⟨gb168,4,none⟩=some (.int .i64 a0_4):=(blk_cell BK168.out 4).trans rfl;have hcz37_5:w36.cell? ⟨gb168,5,none⟩=some (.int .i64 a0_5):=(blk_cell BK168.out 5).trans rfl;have hcz37_6:w36.cell? ⟨gb168,6,none⟩=some (.int .i64 a0_6):=(blk_cell BK168.out 6).trans rfl;have hcz37_7:w36.cell? ⟨gb168,7,none⟩=some (.int .i64 a0_7):=(blk_cell BK168.out 7).trans rfl;have hcz37_8:w36.cell? ⟨gb168,8,none⟩=some (.int .i64 a0_8):=(blk_cell BK168.out 8).trans rfl;have hcz37_9:w36.cell? ⟨gb168,9,none⟩=some (.int .i64 a0_9):=(blk_cell BK168.out 9).trans rfl;have hfz37_0:=blk_frozen BK168.out 0;have hfz37_1:=blk_frozen BK168.out 1;have hfz37_2:=blk_frozen BK168.out 2;have hfz37_3:=blk_frozen BK168.out 3;have hfz37_4:=blk_frozen BK168.out 4;have hfz37_5:=blk_frozen BK168.out 5;have hfz37_6:=blk_frozen BK168.out 6;have hfz37_7:=blk_frozen BK168.out 7;have hfz37_8:=blk_frozen BK168.out 8;have hfz37_9:=blk_frozen BK168.out 9)|((with_reducible refine gate_callee (f:=29) rfl ?_);refine goesL_ (some 6) rfl rfl Tryd.func29 (by kernel_rfl) rfl #[.agg #[.int .i64 a0_0,.bool false,.int .i64 a0_2,.int .i64 a0_3,.int .i64 a0_4,.int .i64 a0_5,.int .i64 a0_6,.int .i64 a0_7,.int .i64 a0_8,.int .i64 a0_9],.int .i64 6] rfl zar ?_;(with_reducible refine (impl_TestOk.calls a0_0 false a0_2 a0_3 a0_4 a0_5 a0_6 a0_7 a0_8 a0_9 6 true _ A2.out).mono ?_);rintro e w38 ⟨rfl,hb⟩;refine ⟨_,rfl,?_⟩;have n0_:=Aside0.mk (blk_below (g:=gb168) (o:=.cells #[.int .i64 a0_0,.bool false,.int .i64 a0_2,.int .i64 a0_3,.int .i64 a0_4,.int .i64 a0_5,.int .i64 a0_6,.int .i64 a0_7,.int .i64 a0_8,.int .i64 a0_9] 29 (0,0)) (by (with_reducible repeat (first|refine blk_drewN ?_ _|refine blk_drew ?_|refine blk_alloc ?_ _));exact BK168.out) hb);have n1_:=Aside0.mk (below_step (by repeat (first|(with_reducible first|exact HB.out|apply below_alloc|apply pw_below_drewN|apply below_drew1|refine below_set ?_ GE168.out)|exact HB.out)) hb);clear BK168;clear HB;have BK168:=n0_;have HB:=n1_;clear n0_ n1_;(try clear hb);(try clear hb2);(try clear hk);(try clear hi);have hcz39_0:w38.cell? ⟨gb168,0,none⟩=some (.int .i64 a0_0):=(blk_cell BK168.out 0).trans rfl;have hcz39_1:w38.cell? ⟨gb168,1,none⟩=some (.bool false):=(blk_cell BK168.out 1).trans rfl;have hcz39_2:w38.cell? ⟨gb168,2,none⟩=some (.int .i64 a0_2):=(blk_cell BK168.out 2).trans rfl;have hcz39_3:w38.cell? ⟨gb168,3,none⟩=some (.int .i64 a0_3):=(blk_cell BK168.out 3).trans rfl;have hcz39_4:w38.cell? ⟨gb168,4,none⟩=some (.int .i64 a0_4):=(blk_cell BK168.out 4).trans rfl;have hcz39_5:w38.cell? ⟨gb168,5,none⟩=some (.int .i64 a0_5):=(blk_cell BK168.out 5).trans rfl;have hcz39_6:w38.cell? ⟨gb168,6,none⟩=some (.int .i64 a0_6):=(blk_cell BK168.out 6).trans rfl;have hcz39_7:w38.cell? ⟨gb168,7,none⟩=some (.int .i64 a0_7):=(blk_cell BK168.out 7).trans rfl;have hcz39_8:w38.cell? ⟨gb168,8,none⟩=some (.int .i64 a0_8):=(blk_cell BK168.out 8).trans rfl;have hcz39_9:w38.cell? ⟨gb168,9,none⟩=some (.int .i64 a0_9):=(blk_cell BK168.out 9).trans rfl;have hfz39_0:=blk_frozen BK168.out 0;have hfz39_1:=blk_frozen BK168.out 1;have hfz39_2:=blk_frozen BK168.out 2;have hfz39_3:=blk_frozen BK168.out 3;have hfz39_4:=blk_frozen BK168.out 4;have hfz39_5:=blk_frozen BK168.out 5;have hfz39_6:=blk_frozen BK168.out 6;have hfz39_7:=blk_frozen BK168.out 7;have hfz39_8:=blk_frozen BK168.out 8;have hfz39_9:=blk_frozen BK168.out 9))
       have n0_:=Aside0.mk (blk_drew BK168.out)
       have n1_:=Aside0.mk (below_drew1 HB.out)
       clear BK168
       clear HB
       have BK168:=n0_
       have HB:=n1_
       clear n0_ n1_
       refine start_ (n:=12) (S:=fun w'=>w'.cell? ⟨gb168,0,none⟩=some (.int .i64 a0_0)∧w'.cell? ⟨gb168,1,none⟩=some (.bool false)∧w'.cell? ⟨gb168,2,none⟩=some (.int .i64 a0_2)∧w'.cell? ⟨gb168,3,none⟩=some (.int .i64 a0_3)∧w'.cell? ⟨gb168,4,none⟩=some (.int .i64 a0_4)∧w'.cell? ⟨gb168,5,none⟩=some (.int .i64 a0_5)∧w'.cell? ⟨gb168,6,none⟩=some (.int .i64 a0_6)∧w'.cell? ⟨gb168,7,none⟩=some (.int .i64 a0_7)∧w'.cell? ⟨gb168,8,none⟩=some (.int .i64 a0_8)∧w'.cell? ⟨gb168,9,none⟩=some (.int .i64 a0_9)) (ds:=[]) #[X,X,X,X,X,X,X,X,X,X,X,X] (by kernel_rfl) rfl rfl ⟨(blk_cell BK168.out 0).trans rfl,(blk_cell BK168.out 1).trans rfl,(blk_cell BK168.out 2).trans rfl,(blk_cell BK168.out 3).trans rfl,(blk_cell BK168.out 4).trans rfl,(blk_cell BK168.out 5).trans rfl,(blk_cell BK168.out 6).trans rfl,(blk_cell BK168.out 7).trans rfl,(blk_cell BK168.out 8).trans rfl,(blk_cell BK168.out 9).trans rfl⟩ (fun hHeld=>?_);refine with_tabW impl_TestText.tab8 impl_TestText.bits8 (fun HT_ HW_=>?_)
       generalize w38.drew=w40 at BK168 HB hHeld ⊢
       refine pure_ (i:=0) (N:=some 13) (v:=?_) (a':=?_) #[Y,X,X,X,X,X,X,X,X,X,X,X] rfl rfl zan (fun _ _ _ h=>h) (Or.inl ⟨by rfl,?_⟩) ?_ ?_
       rotate_left
       ·intro w'
        go_simp
        with_reducible rfl
       rotate_left
       ·simp only [Act.put,zp1,zp2,zp3,i64_w,i32_w]
        rfl
       refine pure_ (i:=1) (N:=some 14) (v:=?_) (a':=?_) #[Y,Y,X,X,X,X,X,X,X,X,X,X] rfl rfl zan (fun _ _ _ h=>h) (Or.inl ⟨by rfl,?_⟩) ?_ ?_
       rotate_left
       ·intro w'
        go_simp
        with_reducible rfl
       rotate_left
       ·simp only [Act.put,zp1,zp2,zp3,i64_w,i32_w]
        rfl
       refine pure_ (i:=5) (N:=some 18) (v:=?_) (a':=?_) #[Y,Y,X,X,X,Y,X,X,X,X,X,X] rfl rfl zan (fun _ _ _ h=>h) (Or.inl ⟨by rfl,?_⟩) ?_ ?_
       rotate_left
       ·intro w'
        go_simp
        with_reducible rfl
       rotate_left
       ·simp only [Act.put,zp1,zp2,zp3,i64_w,i32_w]
        rfl
       refine pure_ (i:=7) (N:=some 20) (v:=?_) (a':=?_) #[Y,Y,X,X,X,Y,X,Y,X,X,X,X] rfl rfl zan (fun _ _ _ h=>h) (Or.inl ⟨by rfl,?_⟩) ?_ ?_
       rotate_left
       ·intro w'
        go_simp
        with_reducible rfl
       rotate_left
       ·simp only [Act.put,zp1,zp2,zp3,i64_w,i32_w]
        rfl
       refine take_ (i:=2) (N:=some 15) (v:=?_) (a':=?_) #[Y,Y,Y,X,X,Y,X,Y,X,X,X,X] rfl rfl ztw (fun _ _ _ h=>h) (Or.inl ⟨by rfl,?_⟩) hHeld ?_ ?_
       rotate_left
       ·rintro w' ⟨s0,s1,s2,s3,s4,s5,s6,s7,s8,s9⟩
        go_simp
        with_reducible rfl
       rotate_left
       ·simp only [Act.put,zp1,zp2,zp3,i64_w,i32_w]
        rfl
       refine take_ (i:=8) (N:=some 21) (v:=?_) (a':=?_) #[Y,Y,Y,X,X,Y,X,Y,Y,X,X,X] rfl rfl ztw (fun _ _ _ h=>h) (Or.inl ⟨by rfl,?_⟩) hHeld ?_ ?_
       rotate_left
       ·rintro w' ⟨s0,s1,s2,s3,s4,s5,s6,s7,s8,s9⟩
        go_simp
        with_reducible rfl
       rotate_left
       ·simp only [Act.put,zp1,zp2,zp3,i64_w,i32_w]
        rfl
       refine one_ (i:=3) (N:=some 16) #[Y,Y,Y,Y,X,Y,X,Y,Y,X,X,X] rfl rfl (one_of HT_.out (by kernel_rfl)) (by decide) (fun K hK=>?_)
       refine goes_ Tryd.func19 (by kernel_rfl) rfl #[.agg #[.int .i64 a0_2,.int .i64 a0_3,.int .i64 a0_4,.int .i64 a0_5]] (by rfl) rfl rfl zar ?_
       with_reducible refine (impl_CellText.calls a0_2 a0_3 a0_4 a0_5 t174 _ A31.out).mono ?_
       rintro e w41 ⟨rfl,hb⟩
       refine ⟨_,rfl,?_⟩
       have n0_:=Aside0.mk (blk_below (g:=gb168) (o:=.cells #[.int .i64 a0_0,.bool false,.int .i64 a0_2,.int .i64 a0_3,.int .i64 a0_4,.int .i64 a0_5,.int .i64 a0_6,.int .i64 a0_7,.int .i64 a0_8,.int .i64 a0_9] 29 (0,0)) (by (with_reducible repeat (first|refine blk_drewN ?_ _|refine blk_drew ?_|refine blk_alloc ?_ _));exact BK168.out) hb)
       have n1_:=Aside0.mk (below_step (by repeat (first|(with_reducible first|exact HB.out|apply below_alloc|apply pw_below_drewN|apply below_drew1|refine below_set ?_ GE168.out)|exact HB.out)) hb)
       clear BK168
       clear HB
       have BK168:=n0_
       have HB:=n1_
       clear n0_ n1_
       (try clear hb)
       (try clear hb2)
       (try clear hk)
       (try clear hi)
       refine hK.out _ _ ⟨(blk_cell BK168.out 0).trans rfl,(blk_cell BK168.out 1).trans rfl,(blk_cell BK168.out 2).trans rfl,(blk_cell BK168.out 3).trans rfl,(blk_cell BK168.out 4).trans rfl,(blk_cell BK168.out 5).trans rfl,(blk_cell BK168.out 6).trans rfl,(blk_cell BK168.out 7).trans rfl,(blk_cell BK168.out 8).trans rfl,(blk_cell BK168.out 9).trans rfl⟩ (fun hHeld=>?_)
       clear hK K
       refine norm_ (a':=?_) ?_ ?_
       rotate_left
       ·show Act.put _ (some 16) _=_
        simp only [Act.put,zp1,zp2,zp3,i64_w,i32_w]
        rfl
       refine pure_ (i:=4) (N:=some 17) (v:=?_) (a':=?_) #[Y,Y,Y,Y,Y,Y,X,Y,Y,X,X,X] rfl rfl zan (fun _ _ _ h=>h) (Or.inl ⟨by rfl,?_⟩) ?_ ?_
       rotate_left
       ·intro w'
        go_simp
        with_reducible rfl
       rotate_left
       ·simp only [Act.put,zp1,zp2,zp3,i64_w,i32_w]
        rfl
       refine pure_ (i:=6) (N:=some 19) (v:=?_) (a':=?_) #[Y,Y,Y,Y,Y,Y,Y,Y,Y,X,X,X] rfl rfl zan (fun _ _ _ h=>h) (Or.inl ⟨by rfl,?_⟩) ?_ ?_
       rotate_left
       ·intro w'
        go_simp
        with_reducible rfl
       rotate_left
       ·simp only [Act.put,zp1,zp2,zp3,i64_w,i32_w]
        rfl
       refine one_ (i:=9) (N:=some 22) #[Y,Y,Y,Y,Y,Y,Y,Y,Y,Y,X,X] rfl rfl (one_of HT_.out (by kernel_rfl)) (by decide) (fun K hK=>?_)
       refine goes_ Tryd.func19 (by kernel_rfl) rfl #[.agg #[.int .i64 a0_6,.int .i64 a0_7,.int .i64 a0_8,.int .i64 a0_9]] (by rfl) rfl rfl zar ?_
       with_reducible refine (impl_CellText.calls a0_6 a0_7 a0_8 a0_9 t175 _ A34.out).mono ?_
       rintro e w42 ⟨rfl,hb⟩
       refine ⟨_,rfl,?_⟩
       have n0_:=Aside0.mk (blk_below (g:=gb168) (o:=.cells #[.int .i64 a0_0,.bool false,.int .i64 a0_2,.int .i64 a0_3,.int .i64 a0_4,.int .i64 a0_5,.int .i64 a0_6,.int .i64 a0_7,.int .i64 a0_8,.int .i64 a0_9] 29 (0,0)) (by (with_reducible repeat (first|refine blk_drewN ?_ _|refine blk_drew ?_|refine blk_alloc ?_ _));exact BK168.out) hb)
       have n1_:=Aside0.mk (below_step (by repeat (first|(with_reducible first|exact HB.out|apply below_alloc|apply pw_below_drewN|apply below_drew1|refine below_set ?_ GE168.out)|exact HB.out)) hb)
       clear BK168
       clear HB
       have BK168:=n0_
       have HB:=n1_
       clear n0_ n1_
       (try clear hb)
       (try clear hb2)
       (try clear hk)
       (try clear hi)
       refine hK.out _ _ ⟨(blk_cell BK168.out 0).trans rfl,(blk_cell BK168.out 1).trans rfl,(blk_cell BK168.out 2).trans rfl,(blk_cell BK168.out 3).trans rfl,(blk_cell BK168.out 4).trans rfl,(blk_cell BK168.out 5).trans rfl,(blk_cell BK168.out 6).trans rfl,(blk_cell BK168.out 7).trans rfl,(blk_cell BK168.out 8).trans rfl,(blk_cell BK168.out 9).trans rfl⟩ (fun hHeld=>?_)
       clear hK K
       refine norm_ (a':=?_) ?_ ?_
       rotate_left
       ·show Act.put _ (some 22) _=_
        simp only [Act.put,zp1,zp2,zp3,i64_w,i32_w]
        rfl
       refine pure_ (i:=10) (N:=some 23) (v:=?_) (a':=?_) #[Y,Y,Y,Y,Y,Y,Y,Y,Y,Y,Y,X] rfl rfl zan (fun _ _ _ h=>h) (Or.inl ⟨by rfl,?_⟩) ?_ ?_
       rotate_left
       ·intro w'
        go_simp
        with_reducible rfl
       rotate_left
       ·simp only [Act.put,zp1,zp2,zp3,i64_w,i32_w]
        rfl
       refine pure_ (i:=11) (N:=some 2) (v:=?_) (a':=?_) #[Y,Y,Y,Y,Y,Y,Y,Y,Y,Y,Y,Y] rfl rfl zan (fun _ _ _ h=>h) (Or.inl ⟨by rfl,?_⟩) ?_ ?_
       rotate_left
       ·intro w'
        go_simp
        with_reducible rfl
       rotate_left
       ·simp only [Act.put,zp1,zp2,zp3,i64_w,i32_w]
        rfl
       refine done_ (done_of HT_.out (by kernel_rfl)) ?_
       try go_wp2
       go_ret
       exact ⟨by first|rfl|(simp [errW_none,errW_some] <;> rfl)|(simp [*,errW_none,errW_some] <;> rfl),by repeat (first|(with_reducible first|exact HB.out|apply below_alloc|apply pw_below_drewN|apply below_drew1|refine below_set ?_ GE168.out)|exact HB.out)⟩
      ·rw [if_neg c35] at H
       exact absurd H (by simp)
     ·rw [if_neg c33] at H
      exact absurd H (by simp)
    ·rw [if_neg c32] at H
     exact absurd H (by simp)
   ·rw [if_neg c30] at H
    have c30b0:(a0_0 == 2)=false:=beq_eq_false_iff_ne.mpr c30
    have c30b1:(a0_0 != 2)=true:=bne_iff_ne.mpr c30
    replace H:=Option.bind_eq_some_iff.mp H
    obtain ⟨t176,A430,H⟩:=H
    (try dsimp only at H)
    have A43:=Aside0.mk A430
    clear A430
    by_cases c44:0 + t176.size≤9223372036854775807
    ·rw [if_pos c44] at H
     have c44z:(9223372036854775807 < t176.size)=False:=eq_false (by omega)
     have c44b0:=eq_true c44
     have c44b1:decide (0 + t176.size≤9223372036854775807)=true:=decide_eq_true c44
     try have c44b2:(9223372036854775807 < 0 + t176.size)=False:=eq_false (Nat.not_lt.2 c44)
     by_cases c45:((⟨#[]⟩:ByteArray) ++ t176).size + 1≤9223372036854775807
     ·rw [if_pos c45] at H
      have c45z:(9223372036854775807 < t176.size + 1)=False:=eq_false (by have e:((⟨#[]⟩:ByteArray) ++ t176).size=t176.size:=(by rw [ByteArray.size_append];exact Nat.zero_add _);omega)
      have c45b0:=eq_true c45
      have c45b1:decide (((⟨#[]⟩:ByteArray) ++ t176).size + 1≤9223372036854775807)=true:=decide_eq_true c45
      (try (have c45b3:0 + t176.size + 1≤9223372036854775807:=by have h_:=c45;simp only [ByteArray.size_append] at h_;exact h_))
      (try have c45b4:=eq_true c45b3)
      (try have c45b5:decide (0 + t176.size + 1≤9223372036854775807)=true:=decide_eq_true c45b3)
      (try have c45b6:(9223372036854775807 < 0 + t176.size + 1)=False:=eq_false (Nat.not_lt.2 c45b3))
      try have c45b2:(9223372036854775807 < ((⟨#[]⟩:ByteArray) ++ t176).size + 1)=False:=eq_false (Nat.not_lt.2 c45)
      replace H:=Option.bind_eq_some_iff.mp H
      obtain ⟨t177,A460,H⟩:=H
      (try dsimp only at H)
      have A46:=Aside0.mk A460
      clear A460
      by_cases c47:(((⟨#[]⟩:ByteArray) ++ t176) ++ (⟨#[60]⟩:ByteArray)).size + t177.size≤9223372036854775807
      ·rw [if_pos c47] at H
       have c47z:(9223372036854775807 < t176.size + 1 + t177.size)=False:=eq_false (by have e:(((⟨#[]⟩:ByteArray) ++ t176) ++ (⟨#[60]⟩:ByteArray)).size=t176.size + 1:=(by rw [ByteArray.size_append,ByteArray.size_append];show 0 + t176.size + 1=_;omega);omega)
       have c47b0:=eq_true c47
       have c47b1:decide ((((⟨#[]⟩:ByteArray) ++ t176) ++ (⟨#[60]⟩:ByteArray)).size + t177.size≤9223372036854775807)=true:=decide_eq_true c47
       (try (have c47b3:0 + t176.size + 1 + t177.size≤9223372036854775807:=by have h_:=c47;simp only [ByteArray.size_append] at h_;exact h_))
       (try have c47b4:=eq_true c47b3)
       (try have c47b5:decide (0 + t176.size + 1 + t177.size≤9223372036854775807)=true:=decide_eq_true c47b3)
       (try have c47b6:(9223372036854775807 < 0 + t176.size + 1 + t177.size)=False:=eq_false (Nat.not_lt.2 c47b3))
       try have c47b2:(9223372036854775807 < (((⟨#[]⟩:ByteArray) ++ t176) ++ (⟨#[60]⟩:ByteArray)).size + t177.size)=False:=eq_false (Nat.not_lt.2 c47)
       obtain rfl:=Option.some.inj H
       go_enter Tryd.func21,Tryd.ntmps21
       try go_wp2_with (first|((with_reducible refine gate_dst (N:=1) rfl ?_);refine box_event ?hg (N:=1) ?hd (cs:=#[.int .i64 a0_0,.bool false,.int .i64 a0_2,.int .i64 a0_3,.int .i64 a0_4,.int .i64 a0_5,.int .i64 a0_6,.int .i64 a0_7,.int .i64 a0_8,.int .i64 a0_9]) (t:=29) ?hr ?_;(case hd=>rfl);(case hg=>rfl);(case hr=>first|(go_simp;done)|(go_simp;rfl));intro gb168 hg w48 hbox hb;have n0_:=Aside0.mk (below_step zhb hb);have n1_:=Aside0.mk (hbox);have n2_:=Aside0.mk ((by rw [hg];exact (below_size zhb):w.heap.size≤gb168));have n3_:=Aside0.mk ((by rw [hg];exact (below_size zhb):w.heap.size≤gb168));clear HB;have HB:=n0_;have BK168:=n1_;have GW168:=n2_;have GE168:=n3_;clear n0_ n1_ n2_ n3_;clear hb hbox hg;have hcz49_0:w48.cell? ⟨gb168,0,none⟩=some (.int .i64 a0_0):=(blk_cell BK168.out 0).trans rfl;have hcz49_1:w48.cell? ⟨gb168,1,none⟩=some (.bool false):=(blk_cell BK168.out 1).trans rfl;have hcz49_2:w48.cell? ⟨gb168,2,none⟩=some (.int .i64 a0_2):=(blk_cell BK168.out 2).trans rfl;have hcz49_3:w48.cell? ⟨gb168,3,none⟩=some (.int .i64 a0_3):=(blk_cell BK168.out 3).trans rfl;have hcz49_4:w48.cell? ⟨gb168,4,none⟩=some (.int .i64 a0_4):=(blk_cell BK168.out 4).trans rfl;have hcz49_5:w48.cell? ⟨gb168,5,none⟩=some (.int .i64 a0_5):=(blk_cell BK168.out 5).trans rfl;have hcz49_6:w48.cell? ⟨gb168,6,none⟩=some (.int .i64 a0_6):=(blk_cell BK168.out 6).trans rfl;have hcz49_7:w48.cell? ⟨gb168,7,none⟩=some (.int .i64 a0_7):=(blk_cell BK168.out 7).trans rfl;have hcz49_8:w48.cell? ⟨gb168,8,none⟩=some (.int .i64 a0_8):=(blk_cell BK168.out 8).trans rfl;have hcz49_9:w48.cell? ⟨gb168,9,none⟩=some (.int .i64 a0_9):=(blk_cell BK168.out 9).trans rfl;have hfz49_0:=blk_frozen BK168.out 0;have hfz49_1:=blk_frozen BK168.out 1;have hfz49_2:=blk_frozen BK168.out 2;have hfz49_3:=blk_frozen BK168.out 3;have hfz49_4:=blk_frozen BK168.out 4;have hfz49_5:=blk_frozen BK168.out 5;have hfz49_6:=blk_frozen BK168.out 6;have hfz49_7:=blk_frozen BK168.out 7;have hfz49_8:=blk_frozen BK168.out 8;have hfz49_9:=blk_frozen BK168.out 9)|((with_reducible refine gate_callee (f:=29) rfl ?_);refine goesL_ (some 6) rfl rfl Tryd.func29 (by kernel_rfl) rfl #[.agg #[.int .i64 a0_0,.bool false,.int .i64 a0_2,.int .i64 a0_3,.int .i64 a0_4,.int .i64 a0_5,.int .i64 a0_6,.int .i64 a0_7,.int .i64 a0_8,.int .i64 a0_9],.int .i64 6] rfl zar ?_;(with_reducible refine (impl_TestOk.calls a0_0 false a0_2 a0_3 a0_4 a0_5 a0_6 a0_7 a0_8 a0_9 6 true _ A2.out).mono ?_);rintro e w50 ⟨rfl,hb⟩;refine ⟨_,rfl,?_⟩;have n0_:=Aside0.mk (blk_below (g:=gb168) (o:=.cells #[.int .i64 a0_0,.bool false,.int .i64 a0_2,.int .i64 a0_3,.int .i64 a0_4,.int .i64 a0_5,.int .i64 a0_6,.int .i64 a0_7,.int .i64 a0_8,.int .i64 a0_9] 29 (0,0)) (by (with_reducible repeat (first|refine blk_drewN ?_ _|refine blk_drew ?_|refine blk_alloc ?_ _));exact BK168.out) hb);have n1_:=Aside0.mk (below_step (by repeat (first|(with_reducible first|exact HB.out|apply below_alloc|apply pw_below_drewN|apply below_drew1|refine below_set ?_ GE168.out)|exact HB.out)) hb);clear BK168;clear HB;have BK168:=n0_;have HB:=n1_;clear n0_ n1_;(try clear hb);(try clear hb2);(try clear hk);(try clear hi);have hcz51_0:w50.cell? ⟨gb168,0,none⟩=some (.int .i64 a0_0):=(blk_cell BK168.out 0).trans rfl;have hcz51_1:w50.cell? ⟨gb168,1,none⟩=some (.bool false):=(blk_cell BK168.out 1).trans rfl;have hcz51_2:w50.cell? ⟨gb168,2,none⟩=some (.int .i64 a0_2):=(blk_cell BK168.out 2).trans rfl;have hcz51_3:w50.cell? ⟨gb168,3,none⟩=some (.int .i64 a0_3):=(blk_cell BK168.out 3).trans rfl;have hcz51_4:w50.cell? ⟨gb168,4,none⟩=some (.int .i64 a0_4):=(blk_cell BK168.out 4).trans rfl;have hcz51_5:w50.cell? ⟨gb168,5,none⟩=some (.int .i64 a0_5):=(blk_cell BK168.out 5).trans rfl;have hcz51_6:w50.cell? ⟨gb168,6,none⟩=some (.int .i64 a0_6):=(blk_cell BK168.out 6).trans rfl;have hcz51_7:w50.cell? ⟨gb168,7,none⟩=some (.int .i64 a0_7):=(blk_cell BK168.out 7).trans rfl;have hcz51_8:w50.cell? ⟨gb168,8,none⟩=some (.int .i64 a0_8):=(blk_cell BK168.out 8).trans rfl;have hcz51_9:w50.cell? ⟨gb168,9,none⟩=some (.int .i64 a0_9):=(blk_cell BK168.out 9).trans rfl;have hfz51_0:=blk_frozen BK168.out 0;have hfz51_1:=blk_frozen BK168.out 1;have hfz51_2:=blk_frozen BK168.out 2;have hfz51_3:=blk_frozen BK168.out 3;have hfz51_4:=blk_frozen BK168.out 4;have hfz51_5:=blk_frozen BK168.out 5;have hfz51_6:=blk_frozen BK168.out 6;have hfz51_7:=blk_frozen BK168.out 7;have hfz51_8:=blk_frozen BK168.out 8;have hfz51_9:=blk_frozen BK168.out 9))
       have n0_:=Aside0.mk (blk_drew BK168.out)
       have n1_:=Aside0.mk (below_drew1 HB.out)
       clear BK168
       clear HB
       have BK168:=n0_
       have HB:=n1_
       clear n0_ n1_
       refine start_ (n:=12) (S:=fun w'=>w'.cell? ⟨gb168,0,none⟩=some (.int .i64 a0_0)∧w'.cell? ⟨gb168,1,none⟩=some (.bool false)∧w'.cell? ⟨gb168,2,none⟩=some (.int .i64 a0_2)∧w'.cell? ⟨gb168,3,none⟩=some (.int .i64 a0_3)∧w'.cell? ⟨gb168,4,none⟩=some (.int .i64 a0_4)∧w'.cell? ⟨gb168,5,none⟩=some (.int .i64 a0_5)∧w'.cell? ⟨gb168,6,none⟩=some (.int .i64 a0_6)∧w'.cell? ⟨gb168,7,none⟩=some (.int .i64 a0_7)∧w'.cell? ⟨gb168,8,none⟩=some (.int .i64 a0_8)∧w'.cell? ⟨gb168,9,none⟩=some (.int .i64 a0_9)) (ds:=[]) #[X,X,X,X,X,X,X,X,X,X,X,X] (by kernel_rfl) rfl rfl ⟨(blk_cell BK168.out 0).trans rfl,(blk_cell BK168.out 1).trans rfl,(blk_cell BK168.out 2).trans rfl,(blk_cell BK168.out 3).trans rfl,(blk_cell BK168.out 4).trans rfl,(blk_cell BK168.out 5).trans rfl,(blk_cell BK168.out 6).trans rfl,(blk_cell BK168.out 7).trans rfl,(blk_cell BK168.out 8).trans rfl,(blk_cell BK168.out 9).trans rfl⟩ (fun hHeld=>?_);refine with_tabW impl_TestText.tab8 impl_TestText.bits8 (fun HT_ HW_=>?_)
       generalize w50.drew=w52 at BK168 HB hHeld ⊢
       refine pure_ (i:=0) (N:=some 13) (v:=?_) (a':=?_) #[Y,X,X,X,X,X,X,X,X,X,X,X] rfl rfl zan (fun _ _ _ h=>h) (Or.inl ⟨by rfl,?_⟩) ?_ ?_
       rotate_left
       ·intro w'
        go_simp
        with_reducible rfl
       rotate_left
       ·simp only [Act.put,zp1,zp2,zp3,i64_w,i32_w]
        rfl
       refine pure_ (i:=1) (N:=some 14) (v:=?_) (a':=?_) #[Y,Y,X,X,X,X,X,X,X,X,X,X] rfl rfl zan (fun _ _ _ h=>h) (Or.inl ⟨by rfl,?_⟩) ?_ ?_
       rotate_left
       ·intro w'
        go_simp
        with_reducible rfl
       rotate_left
       ·simp only [Act.put,zp1,zp2,zp3,i64_w,i32_w]
        rfl
       refine pure_ (i:=5) (N:=some 18) (v:=?_) (a':=?_) #[Y,Y,X,X,X,Y,X,X,X,X,X,X] rfl rfl zan (fun _ _ _ h=>h) (Or.inl ⟨by rfl,?_⟩) ?_ ?_
       rotate_left
       ·intro w'
        go_simp
        with_reducible rfl
       rotate_left
       ·simp only [Act.put,zp1,zp2,zp3,i64_w,i32_w]
        rfl
       refine pure_ (i:=7) (N:=some 20) (v:=?_) (a':=?_) #[Y,Y,X,X,X,Y,X,Y,X,X,X,X] rfl rfl zan (fun _ _ _ h=>h) (Or.inl ⟨by rfl,?_⟩) ?_ ?_
       rotate_left
       ·intro w'
        go_simp
        with_reducible rfl
       rotate_left
       ·simp only [Act.put,zp1,zp2,zp3,i64_w,i32_w]
        rfl
       refine take_ (i:=2) (N:=some 15) (v:=?_) (a':=?_) #[Y,Y,Y,X,X,Y,X,Y,X,X,X,X] rfl rfl ztw (fun _ _ _ h=>h) (Or.inl ⟨by rfl,?_⟩) hHeld ?_ ?_
       rotate_left
       ·rintro w' ⟨s0,s1,s2,s3,s4,s5,s6,s7,s8,s9⟩
        go_simp
        with_reducible rfl
       rotate_left
       ·simp only [Act.put,zp1,zp2,zp3,i64_w,i32_w]
        rfl
       refine take_ (i:=8) (N:=some 21) (v:=?_) (a':=?_) #[Y,Y,Y,X,X,Y,X,Y,Y,X,X,X] rfl rfl ztw (fun _ _ _ h=>h) (Or.inl ⟨by rfl,?_⟩) hHeld ?_ ?_
       rotate_left
       ·rintro w' ⟨s0,s1,s2,s3,s4,s5,s6,s7,s8,s9⟩
        go_simp
        with_reducible rfl
       rotate_left
       ·simp only [Act.put,zp1,zp2,zp3,i64_w,i32_w]
        rfl
       refine one_ (i:=3) (N:=some 16) #[Y,Y,Y,Y,X,Y,X,Y,Y,X,X,X] rfl rfl (one_of HT_.out (by kernel_rfl)) (by decide) (fun K hK=>?_)
       refine goes_ Tryd.func19 (by kernel_rfl) rfl #[.agg #[.int .i64 a0_2,.int .i64 a0_3,.int .i64 a0_4,.int .i64 a0_5]] (by rfl) rfl rfl zar ?_
       with_reducible refine (impl_CellText.calls a0_2 a0_3 a0_4 a0_5 t176 _ A43.out).mono ?_
       rintro e w53 ⟨rfl,hb⟩
       refine ⟨_,rfl,?_⟩
       have n0_:=Aside0.mk (blk_below (g:=gb168) (o:=.cells #[.int .i64 a0_0,.bool false,.int .i64 a0_2,.int .i64 a0_3,.int .i64 a0_4,.int .i64 a0_5,.int .i64 a0_6,.int .i64 a0_7,.int .i64 a0_8,.int .i64 a0_9] 29 (0,0)) (by (with_reducible repeat (first|refine blk_drewN ?_ _|refine blk_drew ?_|refine blk_alloc ?_ _));exact BK168.out) hb)
       have n1_:=Aside0.mk (below_step (by repeat (first|(with_reducible first|exact HB.out|apply below_alloc|apply pw_below_drewN|apply below_drew1|refine below_set ?_ GE168.out)|exact HB.out)) hb)
       clear BK168
       clear HB
       have BK168:=n0_
       have HB:=n1_
       clear n0_ n1_
       (try clear hb)
       (try clear hb2)
       (try clear hk)
       (try clear hi)
       refine hK.out _ _ ⟨(blk_cell BK168.out 0).trans rfl,(blk_cell BK168.out 1).trans rfl,(blk_cell BK168.out 2).trans rfl,(blk_cell BK168.out 3).trans rfl,(blk_cell BK168.out 4).trans rfl,(blk_cell BK168.out 5).trans rfl,(blk_cell BK168.out 6).trans rfl,(blk_cell BK168.out 7).trans rfl,(blk_cell BK168.out 8).trans rfl,(blk_cell BK168.out 9).trans rfl⟩ (fun hHeld=>?_)
       clear hK K
       refine norm_ (a':=?_) ?_ ?_
       rotate_left
       ·show Act.put _ (some 16) _=_
        simp only [Act.put,zp1,zp2,zp3,i64_w,i32_w]
        rfl
       refine pure_ (i:=4) (N:=some 17) (v:=?_) (a':=?_) #[Y,Y,Y,Y,Y,Y,X,Y,Y,X,X,X] rfl rfl zan (fun _ _ _ h=>h) (Or.inl ⟨by rfl,?_⟩) ?_ ?_
       rotate_left
       ·intro w'
        go_simp
        with_reducible rfl
       rotate_left
       ·simp only [Act.put,zp1,zp2,zp3,i64_w,i32_w]
        rfl
       refine pure_ (i:=6) (N:=some 19) (v:=?_) (a':=?_) #[Y,Y,Y,Y,Y,Y,Y,Y,Y,X,X,X] rfl rfl zan (fun _ _ _ h=>h) (Or.inl ⟨by rfl,?_⟩) ?_ ?_
       rotate_left
       ·intro w'
        go_simp
        with_reducible rfl
       rotate_left
       ·simp only [Act.put,zp1,zp2,zp3,i64_w,i32_w]
        rfl
       refine one_ (i:=9) (N:=some 22) #[Y,Y,Y,Y,Y,Y,Y,Y,Y,Y,X,X] rfl rfl (one_of HT_.out (by kernel_rfl)) (by decide) (fun K hK=>?_)
       refine goes_ Tryd.func19 (by kernel_rfl) rfl #[.agg #[.int .i64 a0_6,.int .i64 a0_7,.int .i64 a0_8,.int .i64 a0_9]] (by rfl) rfl rfl zar ?_
       with_reducible refine (impl_CellText.calls a0_6 a0_7 a0_8 a0_9 t177 _ A46.out).mono ?_
       rintro e w54 ⟨rfl,hb⟩
       refine ⟨_,rfl,?_⟩
       have n0_:=Aside0.mk (blk_below (g:=gb168) (o:=.cells #[.int .i64 a0_0,.bool false,.int .i64 a0_2,.int .i64 a0_3,.int .i64 a0_4,.int .i64 a0_5,.int .i64 a0_6,.int .i64 a0_7,.int .i64 a0_8,.int .i64 a0_9] 29 (0,0)) (by (with_reducible repeat (first|refine blk_drewN ?_ _|refine blk_drew ?_|refine blk_alloc ?_ _));exact BK168.out) hb)
       have n1_:=Aside0.mk (below_step (by repeat (first|(with_reducible first|exact HB.out|apply below_alloc|apply pw_below_drewN|apply below_drew1|refine below_set ?_ GE168.out)|exact HB.out)) hb)
       clear BK168
       clear HB
       have BK168:=n0_
       have HB:=n1_
       clear n0_ n1_
       (try clear hb)
       (try clear hb2)
       (try clear hk)
       (try clear hi)
       refine hK.out _ _ ⟨(blk_cell BK168.out 0).trans rfl,(blk_cell BK168.out 1).trans rfl,(blk_cell BK168.out 2).trans rfl,(blk_cell BK168.out 3).trans rfl,(blk_cell BK168.out 4).trans rfl,(blk_cell BK168.out 5).trans rfl,(blk_cell BK168.out 6).trans rfl,(blk_cell BK168.out 7).trans rfl,(blk_cell BK168.out 8).trans rfl,(blk_cell BK168.out 9).trans rfl⟩ (fun hHeld=>?_)
       clear hK K
       refine norm_ (a':=?_) ?_ ?_
       rotate_left
       ·show Act.put _ (some 22) _=_
        simp only [Act.put,zp1,zp2,zp3,i64_w,i32_w]
        rfl
       refine pure_ (i:=10) (N:=some 23) (v:=?_) (a':=?_) #[Y,Y,Y,Y,Y,Y,Y,Y,Y,Y,Y,X] rfl rfl zan (fun _ _ _ h=>h) (Or.inl ⟨by rfl,?_⟩) ?_ ?_
       rotate_left
       ·intro w'
        go_simp
        with_reducible rfl
       rotate_left
       ·simp only [Act.put,zp1,zp2,zp3,i64_w,i32_w]
        rfl
       refine pure_ (i:=11) (N:=some 2) (v:=?_) (a':=?_) #[Y,Y,Y,Y,Y,Y,Y,Y,Y,Y,Y,Y] rfl rfl zan (fun _ _ _ h=>h) (Or.inl ⟨by rfl,?_⟩) ?_ ?_
       rotate_left
       ·intro w'
        go_simp
        with_reducible rfl
       rotate_left
       ·simp only [Act.put,zp1,zp2,zp3,i64_w,i32_w]
        rfl
       refine done_ (done_of HT_.out (by kernel_rfl)) ?_
       try go_wp2
       go_ret
       exact ⟨by first|rfl|(simp [errW_none,errW_some] <;> rfl)|(simp [*,errW_none,errW_some] <;> rfl),by repeat (first|(with_reducible first|exact HB.out|apply below_alloc|apply pw_below_drewN|apply below_drew1|refine below_set ?_ GE168.out)|exact HB.out)⟩
      ·rw [if_neg c47] at H
       exact absurd H (by simp)
     ·rw [if_neg c45] at H
      exact absurd H (by simp)
    ·rw [if_neg c44] at H
     exact absurd H (by simp)
 ·replace c3:=Bool.eq_false_iff.mpr c3
  subst c3
  have H1:(some (⟨#[]⟩:ByteArray))=some r:=by rw [if_neg (show ¬ (false=true) by decide)] at H;exact H
  clear H
  have H:=H1
  clear H1
  obtain rfl:=Option.some.inj H
  go_enter Tryd.func21,Tryd.ntmps21
  go_wp2_with (first|((with_reducible refine gate_dst (N:=1) rfl ?_);refine box_event ?hg (N:=1) ?hd (cs:=#[.int .i64 a0_0,.bool a0_1,.int .i64 a0_2,.int .i64 a0_3,.int .i64 a0_4,.int .i64 a0_5,.int .i64 a0_6,.int .i64 a0_7,.int .i64 a0_8,.int .i64 a0_9]) (t:=29) ?hr ?_;(case hd=>rfl);(case hg=>rfl);(case hr=>first|(go_simp;done)|(go_simp;rfl));intro gb168 hg w55 hbox hb;have n0_:=Aside0.mk (below_step zhb hb);have n1_:=Aside0.mk (hbox);have n2_:=Aside0.mk ((by rw [hg];exact (below_size zhb):w.heap.size≤gb168));have n3_:=Aside0.mk ((by rw [hg];exact (below_size zhb):w.heap.size≤gb168));clear HB;have HB:=n0_;have BK168:=n1_;have GW168:=n2_;have GE168:=n3_;clear n0_ n1_ n2_ n3_;clear hb hbox hg;have hcz56_0:w55.cell? ⟨gb168,0,none⟩=some (.int .i64 a0_0):=(blk_cell BK168.out 0).trans rfl;have hcz56_1:w55.cell? ⟨gb168,1,none⟩=some (.bool a0_1):=(blk_cell BK168.out 1).trans rfl;have hcz56_2:w55.cell? ⟨gb168,2,none⟩=some (.int .i64 a0_2):=(blk_cell BK168.out 2).trans rfl;have hcz56_3:w55.cell? ⟨gb168,3,none⟩=some (.int .i64 a0_3):=(blk_cell BK168.out 3).trans rfl;have hcz56_4:w55.cell? ⟨gb168,4,none⟩=some (.int .i64 a0_4):=(blk_cell BK168.out 4).trans rfl;have hcz56_5:w55.cell? ⟨gb168,5,none⟩=some (.int .i64 a0_5):=(blk_cell BK168.out 5).trans rfl;have hcz56_6:w55.cell? ⟨gb168,6,none⟩=some (.int .i64 a0_6):=(blk_cell BK168.out 6).trans rfl;have hcz56_7:w55.cell? ⟨gb168,7,none⟩=some (.int .i64 a0_7):=(blk_cell BK168.out 7).trans rfl;have hcz56_8:w55.cell? ⟨gb168,8,none⟩=some (.int .i64 a0_8):=(blk_cell BK168.out 8).trans rfl;have hcz56_9:w55.cell? ⟨gb168,9,none⟩=some (.int .i64 a0_9):=(blk_cell BK168.out 9).trans rfl;have hfz56_0:=blk_frozen BK168.out 0;have hfz56_1:=blk_frozen BK168.out 1;have hfz56_2:=blk_frozen BK168.out 2;have hfz56_3:=blk_frozen BK168.out 3;have hfz56_4:=blk_frozen BK168.out 4;have hfz56_5:=blk_frozen BK168.out 5;have hfz56_6:=blk_frozen BK168.out 6;have hfz56_7:=blk_frozen BK168.out 7;have hfz56_8:=blk_frozen BK168.out 8;have hfz56_9:=blk_frozen BK168.out 9)|((with_reducible refine gate_callee (f:=29) rfl ?_);refine goesL_ (some 6) rfl rfl Tryd.func29 (by kernel_rfl) rfl #[.agg #[.int .i64 a0_0,.bool a0_1,.int .i64 a0_2,.int .i64 a0_3,.int .i64 a0_4,.int .i64 a0_5,.int .i64 a0_6,.int .i64 a0_7,.int .i64 a0_8,.int .i64 a0_9],.int .i64 6] rfl zar ?_;(with_reducible refine (impl_TestOk.calls a0_0 a0_1 a0_2 a0_3 a0_4 a0_5 a0_6 a0_7 a0_8 a0_9 6 false _ A2.out).mono ?_);rintro e w57 ⟨rfl,hb⟩;refine ⟨_,rfl,?_⟩;have n0_:=Aside0.mk (blk_below (g:=gb168) (o:=.cells #[.int .i64 a0_0,.bool a0_1,.int .i64 a0_2,.int .i64 a0_3,.int .i64 a0_4,.int .i64 a0_5,.int .i64 a0_6,.int .i64 a0_7,.int .i64 a0_8,.int .i64 a0_9] 29 (0,0)) (by (with_reducible repeat (first|refine blk_drewN ?_ _|refine blk_drew ?_|refine blk_alloc ?_ _));exact BK168.out) hb);have n1_:=Aside0.mk (below_step (by repeat (first|(with_reducible first|exact HB.out|apply below_alloc|apply pw_below_drewN|apply below_drew1|refine below_set ?_ GE168.out)|exact HB.out)) hb);clear BK168;clear HB;have BK168:=n0_;have HB:=n1_;clear n0_ n1_;(try clear hb);(try clear hb2);(try clear hk);(try clear hi)))
  go_ret
  exact ⟨by first|rfl|(simp [errW_none,errW_some] <;> rfl)|(simp [*,errW_none,errW_some] <;> rfl),by repeat (first|(with_reducible first|exact HB.out|apply below_alloc|apply pw_below_drewN|apply below_drew1|refine below_set ?_ GE168.out)|exact HB.out)⟩

end Go.Proofs.YthmcbekemnabdaaDoor.PFnExactTestRead
