-- Written by wip/tools/pp.py, a program of this session over the kit's printer: not the kit's own print
import Derived.Test.YtlpgnkndjmfcjaaGreatPFnExactPlanManyx1
namespace Go.Proofs.YtlpgnkndjmfcjaaGreat.PFnExactPlanMany
open Go.RowKit Go.Proofs.YtlpgnkndjmfcjaaGreatW.PrintWords Go.Proofs.YtlpgnkndjmfcjaaGreatW.PrintLast Go.Proofs.YtlpgnkndjmfcjaaGreatW.PrintMore
attribute [local go_sem] max2_int min2_int max_two min_two max_three min_three max_four min_four   -- for this text's walks alone
set_option linter.unusedVariables false
set_option linter.unusedSimpArgs false
/-! ### laws_eqCell: function 43 -/
def laws_eqCell.f (a0_0:Int) (a0_1:Int) (a0_2:Int) (a0_3:Int) (a1_0:Int) (a1_1:Int) (a1_2:Int) (a1_3:Int):Option (Bool):=if a0_0=a1_0 then (if a0_1=a1_1 then (if a0_2=a1_2 then (if a0_3=a1_3 then (some true) else (some false)) else (some false)) else (some false)) else (some false)
set_option maxHeartbeats 8000000 in
set_option maxRecDepth 100000 in
theorem laws_eqCell.calls (a0_0:Int) (a0_1:Int) (a0_2:Int) (a0_3:Int) (a1_0:Int) (a1_1:Int) (a1_2:Int) (a1_3:Int) (r:Bool) (w:World) (h:laws_eqCell.f a0_0 a0_1 a0_2 a0_3 a1_0 a1_1 a1_2 a1_3=some r) :
  Calls Tryz.prog 43 #[.agg #[.int .i64 a0_0,.int .i64 a0_1,.int .i64 a0_2,.int .i64 a0_3],.agg #[.int .i64 a1_0,.int .i64 a1_1,.int .i64 a1_2,.int .i64 a1_3]] w fun e w'=>e=.returned (.bool r)∧Below w.heap.size w w':=by
 have hu33:=Tryz.underlying33
 have HB:=Aside0.mk (Below.refl w.heap.size w)
 have H:(if a0_0=a1_0 then (if a0_1=a1_1 then (if a0_2=a1_2 then (if a0_3=a1_3 then (some true) else (some false)) else (some false)) else (some false)) else (some false))=some r:=h
 clear h
 by_cases c3:a0_0=a1_0
 ·rw [if_pos c3] at H
  have c3b0:(a0_0 == a1_0)=true:=beq_iff_eq.mpr c3
  have c3b1:(a0_0 != a1_0)=false:=bne_eq_false_iff_eq.mpr c3
  clear c3
  by_cases c4:a0_1=a1_1
  ·rw [if_pos c4] at H
   have c4b0:(a0_1 == a1_1)=true:=beq_iff_eq.mpr c4
   have c4b1:(a0_1 != a1_1)=false:=bne_eq_false_iff_eq.mpr c4
   clear c4
   by_cases c5:a0_2=a1_2
   ·rw [if_pos c5] at H
    have c5b0:(a0_2 == a1_2)=true:=beq_iff_eq.mpr c5
    have c5b1:(a0_2 != a1_2)=false:=bne_eq_false_iff_eq.mpr c5
    clear c5
    by_cases c6:a0_3=a1_3
    ·rw [if_pos c6] at H
     have c6b0:(a0_3 == a1_3)=true:=beq_iff_eq.mpr c6
     have c6b1:(a0_3 != a1_3)=false:=bne_eq_false_iff_eq.mpr c6
     clear c6
     obtain rfl:=Option.some.inj H
     go_enter Tryz.func43,Tryz.ntmps43
     go_wp2_with (first|((with_reducible refine gate_dst (N:=2) rfl ?_);refine box_event ?hg (N:=2) ?hd (cs:=#[.int .i64 a0_0,.int .i64 a0_1,.int .i64 a0_2,.int .i64 a0_3]) (t:=33) ?hr ?_;(case hd=>rfl);(case hg=>rfl);(case hr=>first|(go_simp;done)|(go_simp;rfl));intro gb231 hg w7 hbox hb;have n0_:=Aside0.mk (below_step zhb hb);have n1_:=Aside0.mk (hbox);have n2_:=Aside0.mk ((by rw [hg];exact (below_size zhb):w.heap.size≤gb231));have n3_:=Aside0.mk ((by rw [hg];exact (below_size zhb):w.heap.size≤gb231));clear HB;have HB:=n0_;have BK231:=n1_;have GW231:=n2_;have GE231:=n3_;clear n0_ n1_ n2_ n3_;clear hb hbox hg)|((with_reducible refine gate_dst (N:=3) rfl ?_);refine box_event ?hg (N:=3) ?hd (cs:=#[.int .i64 a1_0,.int .i64 a1_1,.int .i64 a1_2,.int .i64 a1_3]) (t:=33) ?hr ?_;(case hd=>rfl);(case hg=>rfl);(case hr=>first|(go_simp;done)|(go_simp;rfl));intro gb232 hg w8 hbox hb;have n0_:=Aside0.mk (blk_below (g:=gb231) (o:=.cells #[.int .i64 a0_0,.int .i64 a0_1,.int .i64 a0_2,.int .i64 a0_3] 33 (0,0)) (by (with_reducible repeat (first|refine blk_drewN ?_ _|refine blk_drew ?_|refine blk_alloc ?_ _));exact BK231.out) hb);have n1_:=Aside0.mk (below_step (by repeat (first|(with_reducible first|exact HB.out|apply below_alloc|apply pw_below_drewN|apply below_drew1|refine below_set ?_ GE231.out)|exact HB.out)) hb);have n2_:=Aside0.mk (hbox);have n3_:=Aside0.mk ((by rw [hg];exact (below_size (by repeat (first|(with_reducible first|exact HB.out|apply below_alloc|apply pw_below_drewN|apply below_drew1|refine below_set ?_ GE231.out)|exact HB.out))):w.heap.size≤gb232));have n4_:=Aside0.mk ((by rw [hg];exact (below_size (by repeat (first|(with_reducible first|exact HB.out|apply below_alloc|apply pw_below_drewN|apply below_drew1|refine below_set ?_ GE231.out)|exact HB.out))):w.heap.size≤gb232));have n5_:=Aside0.mk ((by rw [hg];exact Nat.ne_of_lt (blk_lt (g:=gb231) (o:=.cells #[.int .i64 a0_0,.int .i64 a0_1,.int .i64 a0_2,.int .i64 a0_3] 33 (0,0)) (by (with_reducible repeat (first|refine blk_drewN ?_ _|refine blk_drew ?_|refine blk_alloc ?_ _));exact BK231.out)):gb231≠gb232));have n6_:=Aside0.mk ((by rw [hg];exact Nat.ne_of_gt (blk_lt (g:=gb231) (o:=.cells #[.int .i64 a0_0,.int .i64 a0_1,.int .i64 a0_2,.int .i64 a0_3] 33 (0,0)) (by (with_reducible repeat (first|refine blk_drewN ?_ _|refine blk_drew ?_|refine blk_alloc ?_ _));exact BK231.out)):gb232≠gb231));clear BK231;clear HB;have BK231:=n0_;have HB:=n1_;have BK232:=n2_;have GW232:=n3_;have GE232:=n4_;have NB231_232:=n5_;have NB232_231:=n6_;clear n0_ n1_ n2_ n3_ n4_ n5_ n6_;clear hb hbox hg;have hnb9:=NB231_232.out;have hnc9:=NB232_231.out;have hcz10_0:w8.cell? ⟨gb231,0,none⟩=some (.int .i64 a0_0):=(blk_cell BK231.out 0).trans rfl;have hcz10_1:w8.cell? ⟨gb231,1,none⟩=some (.int .i64 a0_1):=(blk_cell BK231.out 1).trans rfl;have hcz10_2:w8.cell? ⟨gb231,2,none⟩=some (.int .i64 a0_2):=(blk_cell BK231.out 2).trans rfl;have hcz10_3:w8.cell? ⟨gb231,3,none⟩=some (.int .i64 a0_3):=(blk_cell BK231.out 3).trans rfl;have hfz10_0:=blk_frozen BK231.out 0;have hfz10_1:=blk_frozen BK231.out 1;have hfz10_2:=blk_frozen BK231.out 2;have hfz10_3:=blk_frozen BK231.out 3;have hcz11_0:w8.cell? ⟨gb232,0,none⟩=some (.int .i64 a1_0):=(blk_cell BK232.out 0).trans rfl;have hcz11_1:w8.cell? ⟨gb232,1,none⟩=some (.int .i64 a1_1):=(blk_cell BK232.out 1).trans rfl;have hcz11_2:w8.cell? ⟨gb232,2,none⟩=some (.int .i64 a1_2):=(blk_cell BK232.out 2).trans rfl;have hcz11_3:w8.cell? ⟨gb232,3,none⟩=some (.int .i64 a1_3):=(blk_cell BK232.out 3).trans rfl;have hfz11_0:=blk_frozen BK232.out 0;have hfz11_1:=blk_frozen BK232.out 1;have hfz11_2:=blk_frozen BK232.out 2;have hfz11_3:=blk_frozen BK232.out 3))
     go_ret
     exact ⟨by first|rfl|(simp [errW_none,errW_some] <;> rfl)|(simp [*,errW_none,errW_some] <;> rfl),by repeat (first|(with_reducible first|exact HB.out|apply below_alloc|apply pw_below_drewN|apply below_drew1|refine below_set ?_ GE231.out|refine below_set ?_ GE232.out)|exact HB.out)⟩
    ·rw [if_neg c6] at H
     have c6b0:(a0_3 == a1_3)=false:=beq_eq_false_iff_ne.mpr c6
     have c6b1:(a0_3 != a1_3)=true:=bne_iff_ne.mpr c6
     obtain rfl:=Option.some.inj H
     go_enter Tryz.func43,Tryz.ntmps43
     go_wp2_with (first|((with_reducible refine gate_dst (N:=2) rfl ?_);refine box_event ?hg (N:=2) ?hd (cs:=#[.int .i64 a0_0,.int .i64 a0_1,.int .i64 a0_2,.int .i64 a0_3]) (t:=33) ?hr ?_;(case hd=>rfl);(case hg=>rfl);(case hr=>first|(go_simp;done)|(go_simp;rfl));intro gb231 hg w12 hbox hb;have n0_:=Aside0.mk (below_step zhb hb);have n1_:=Aside0.mk (hbox);have n2_:=Aside0.mk ((by rw [hg];exact (below_size zhb):w.heap.size≤gb231));have n3_:=Aside0.mk ((by rw [hg];exact (below_size zhb):w.heap.size≤gb231));clear HB;have HB:=n0_;have BK231:=n1_;have GW231:=n2_;have GE231:=n3_;clear n0_ n1_ n2_ n3_;clear hb hbox hg)|((with_reducible refine gate_dst (N:=3) rfl ?_);refine box_event ?hg (N:=3) ?hd (cs:=#[.int .i64 a1_0,.int .i64 a1_1,.int .i64 a1_2,.int .i64 a1_3]) (t:=33) ?hr ?_;(case hd=>rfl);(case hg=>rfl);(case hr=>first|(go_simp;done)|(go_simp;rfl));intro gb232 hg w13 hbox hb;have n0_:=Aside0.mk (blk_below (g:=gb231) (o:=.cells #[.int .i64 a0_0,.int .i64 a0_1,.int .i64 a0_2,.int .i64 a0_3] 33 (0,0)) (by (with_reducible repeat (first|refine blk_drewN ?_ _|refine blk_drew ?_|refine blk_alloc ?_ _));exact BK231.out) hb);have n1_:=Aside0.mk (below_step (by repeat (first|(with_reducible first|exact HB.out|apply below_alloc|apply pw_below_drewN|apply below_drew1|refine below_set ?_ GE231.out)|exact HB.out)) hb);have n2_:=Aside0.mk (hbox);have n3_:=Aside0.mk ((by rw [hg];exact (below_size (by repeat (first|(with_reducible first|exact HB.out|apply below_alloc|apply pw_below_drewN|apply below_drew1|refine below_set ?_ GE231.out)|exact HB.out))):w.heap.size≤gb232));have n4_:=Aside0.mk ((by rw [hg];exact (below_size (by repeat (first|(with_reducible first|exact HB.out|apply below_alloc|apply pw_below_drewN|apply below_drew1|refine below_set ?_ GE231.out)|exact HB.out))):w.heap.size≤gb232));have n5_:=Aside0.mk ((by rw [hg];exact Nat.ne_of_lt (blk_lt (g:=gb231) (o:=.cells #[.int .i64 a0_0,.int .i64 a0_1,.int .i64 a0_2,.int .i64 a0_3] 33 (0,0)) (by (with_reducible repeat (first|refine blk_drewN ?_ _|refine blk_drew ?_|refine blk_alloc ?_ _));exact BK231.out)):gb231≠gb232));have n6_:=Aside0.mk ((by rw [hg];exact Nat.ne_of_gt (blk_lt (g:=gb231) (o:=.cells #[.int .i64 a0_0,.int .i64 a0_1,.int .i64 a0_2,.int .i64 a0_3] 33 (0,0)) (by (with_reducible repeat (first|refine blk_drewN ?_ _|refine blk_drew ?_|refine blk_alloc ?_ _));exact BK231.out)):gb232≠gb231));clear BK231;clear HB;have BK231:=n0_;have HB:=n1_;have BK232:=n2_;have GW232:=n3_;have GE232:=n4_;have NB231_232:=n5_;have NB232_231:=n6_;clear n0_ n1_ n2_ n3_ n4_ n5_ n6_;clear hb hbox hg;have hnb14:=NB231_232.out;have hnc14:=NB232_231.out;have hcz15_0:w13.cell? ⟨gb231,0,none⟩=some (.int .i64 a0_0):=(blk_cell BK231.out 0).trans rfl;have hcz15_1:w13.cell? ⟨gb231,1,none⟩=some (.int .i64 a0_1):=(blk_cell BK231.out 1).trans rfl;have hcz15_2:w13.cell? ⟨gb231,2,none⟩=some (.int .i64 a0_2):=(blk_cell BK231.out 2).trans rfl;have hcz15_3:w13.cell? ⟨gb231,3,none⟩=some (.int .i64 a0_3):=(blk_cell BK231.out 3).trans rfl;have hfz15_0:=blk_frozen BK231.out 0;have hfz15_1:=blk_frozen BK231.out 1;have hfz15_2:=blk_frozen BK231.out 2;have hfz15_3:=blk_frozen BK231.out 3;have hcz16_0:w13.cell? ⟨gb232,0,none⟩=some (.int .i64 a1_0):=(blk_cell BK232.out 0).trans rfl;have hcz16_1:w13.cell? ⟨gb232,1,none⟩=some (.int .i64 a1_1):=(blk_cell BK232.out 1).trans rfl;have hcz16_2:w13.cell? ⟨gb232,2,none⟩=some (.int .i64 a1_2):=(blk_cell BK232.out 2).trans rfl;have hcz16_3:w13.cell? ⟨gb232,3,none⟩=some (.int .i64 a1_3):=(blk_cell BK232.out 3).trans rfl;have hfz16_0:=blk_frozen BK232.out 0;have hfz16_1:=blk_frozen BK232.out 1;have hfz16_2:=blk_frozen BK232.out 2;have hfz16_3:=blk_frozen BK232.out 3))
     go_ret
     exact ⟨by first|rfl|(simp [errW_none,errW_some] <;> rfl)|(simp [*,errW_none,errW_some] <;> rfl),by repeat (first|(with_reducible first|exact HB.out|apply below_alloc|apply pw_below_drewN|apply below_drew1|refine below_set ?_ GE231.out|refine below_set ?_ GE232.out)|exact HB.out)⟩
   ·rw [if_neg c5] at H
    have c5b0:(a0_2 == a1_2)=false:=beq_eq_false_iff_ne.mpr c5
    have c5b1:(a0_2 != a1_2)=true:=bne_iff_ne.mpr c5
    obtain rfl:=Option.some.inj H
    go_enter Tryz.func43,Tryz.ntmps43
    go_wp2_with (first|((with_reducible refine gate_dst (N:=2) rfl ?_);refine box_event ?hg (N:=2) ?hd (cs:=#[.int .i64 a0_0,.int .i64 a0_1,.int .i64 a0_2,.int .i64 a0_3]) (t:=33) ?hr ?_;(case hd=>rfl);(case hg=>rfl);(case hr=>first|(go_simp;done)|(go_simp;rfl));intro gb231 hg w17 hbox hb;have n0_:=Aside0.mk (below_step zhb hb);have n1_:=Aside0.mk (hbox);have n2_:=Aside0.mk ((by rw [hg];exact (below_size zhb):w.heap.size≤gb231));have n3_:=Aside0.mk ((by rw [hg];exact (below_size zhb):w.heap.size≤gb231));clear HB;have HB:=n0_;have BK231:=n1_;have GW231:=n2_;have GE231:=n3_;clear n0_ n1_ n2_ n3_;clear hb hbox hg)|((with_reducible refine gate_dst (N:=3) rfl ?_);refine box_event ?hg (N:=3) ?hd (cs:=#[.int .i64 a1_0,.int .i64 a1_1,.int .i64 a1_2,.int .i64 a1_3]) (t:=33) ?hr ?_;(case hd=>rfl);(case hg=>rfl);(case hr=>first|(go_simp;done)|(go_simp;rfl));intro gb232 hg w18 hbox hb;have n0_:=Aside0.mk (blk_below (g:=gb231) (o:=.cells #[.int .i64 a0_0,.int .i64 a0_1,.int .i64 a0_2,.int .i64 a0_3] 33 (0,0)) (by (with_reducible repeat (first|refine blk_drewN ?_ _|refine blk_drew ?_|refine blk_alloc ?_ _));exact BK231.out) hb);have n1_:=Aside0.mk (below_step (by repeat (first|(with_reducible first|exact HB.out|apply below_alloc|apply pw_below_drewN|apply below_drew1|refine below_set ?_ GE231.out)|exact HB.out)) hb);have n2_:=Aside0.mk (hbox);have n3_:=Aside0.mk ((by rw [hg];exact (below_size (by repeat (first|(with_reducible first|exact HB.out|apply below_alloc|apply pw_below_drewN|apply below_drew1|refine below_set ?_ GE231.out)|exact HB.out))):w.heap.size≤gb232));have n4_:=Aside0.mk ((by rw [hg];exact (below_size (by repeat (first|(with_reducible first|exact HB.out|apply below_alloc|apply pw_below_drewN|apply below_drew1|refine below_set ?_ GE231.out)|exact HB.out))):w.heap.size≤gb232));have n5_:=Aside0.mk ((by rw [hg];exact Nat.ne_of_lt (blk_lt (g:=gb231) (o:=.cells #[.int .i64 a0_0,.int .i64 a0_1,.int .i64 a0_2,.int .i64 a0_3] 33 (0,0)) (by (with_reducible repeat (first|refine blk_drewN ?_ _|refine blk_drew ?_|refine blk_alloc ?_ _));exact BK231.out)):gb231≠gb232));have n6_:=Aside0.mk ((by rw [hg];exact Nat.ne_of_gt (blk_lt (g:=gb231) (o:=.cells #[.int .i64 a0_0,.int .i64 a0_1,.int .i64 a0_2,.int .i64 a0_3] 33 (0,0)) (by (with_reducible repeat (first|refine blk_drewN ?_ _|refine blk_drew ?_|refine blk_alloc ?_ _));exact BK231.out)):gb232≠gb231));clear BK231;clear HB;have BK231:=n0_;have HB:=n1_;have BK232:=n2_;have GW232:=n3_;have GE232:=n4_;have NB231_232:=n5_;have NB232_231:=n6_;clear n0_ n1_ n2_ n3_ n4_ n5_ n6_;clear hb hbox hg;have hnb19:=NB231_232.out;have hnc19:=NB232_231.out;have hcz20_0:w18.cell? ⟨gb231,0,none⟩=some (.int .i64 a0_0):=(blk_cell BK231.out 0).trans rfl;have hcz20_1:w18.cell? ⟨gb231,1,none⟩=some (.int .i64 a0_1):=(blk_cell BK231.out 1).trans rfl;have hcz20_2:w18.cell? ⟨gb231,2,none⟩=some (.int .i64 a0_2):=(blk_cell BK231.out 2).trans rfl;have hcz20_3:w18.cell? ⟨gb231,3,none⟩=some (.int .i64 a0_3):=(blk_cell BK231.out 3).trans rfl;have hfz20_0:=blk_frozen BK231.out 0;have hfz20_1:=blk_frozen BK231.out 1;have hfz20_2:=blk_frozen BK231.out 2;have hfz20_3:=blk_frozen BK231.out 3;have hcz21_0:w18.cell? ⟨gb232,0,none⟩=some (.int .i64 a1_0):=(blk_cell BK232.out 0).trans rfl;have hcz21_1:w18.cell? ⟨gb232,1,none⟩=some (.int .i64 a1_1):=(blk_cell BK232.out 1).trans rfl;have hcz21_2:w18.cell? ⟨gb232,2,none⟩=some (.int .i64 a1_2):=(blk_cell BK232.out 2).trans rfl;have hcz21_3:w18.cell? ⟨gb232,3,none⟩=some (.int .i64 a1_3):=(blk_cell BK232.out 3).trans rfl;have hfz21_0:=blk_frozen BK232.out 0;have hfz21_1:=blk_frozen BK232.out 1;have hfz21_2:=blk_frozen BK232.out 2;have hfz21_3:=blk_frozen BK232.out 3))
    go_ret
    exact ⟨by first|rfl|(simp [errW_none,errW_some] <;> rfl)|(simp [*,errW_none,errW_some] <;> rfl),by repeat (first|(with_reducible first|exact HB.out|apply below_alloc|apply pw_below_drewN|apply below_drew1|refine below_set ?_ GE231.out|refine below_set ?_ GE232.out)|exact HB.out)⟩
  ·rw [if_neg c4] at H
   have c4b0:(a0_1 == a1_1)=false:=beq_eq_false_iff_ne.mpr c4
   have c4b1:(a0_1 != a1_1)=true:=bne_iff_ne.mpr c4
   obtain rfl:=Option.some.inj H
   go_enter Tryz.func43,Tryz.ntmps43
   go_wp2_with (first|((with_reducible refine gate_dst (N:=2) rfl ?_);refine box_event ?hg (N:=2) ?hd (cs:=#[.int .i64 a0_0,.int .i64 a0_1,.int .i64 a0_2,.int .i64 a0_3]) (t:=33) ?hr ?_;(case hd=>rfl);(case hg=>rfl);(case hr=>first|(go_simp;done)|(go_simp;rfl));intro gb231 hg w22 hbox hb;have n0_:=Aside0.mk (below_step zhb hb);have n1_:=Aside0.mk (hbox);have n2_:=Aside0.mk ((by rw [hg];exact (below_size zhb):w.heap.size≤gb231));have n3_:=Aside0.mk ((by rw [hg];exact (below_size zhb):w.heap.size≤gb231));clear HB;have HB:=n0_;have BK231:=n1_;have GW231:=n2_;have GE231:=n3_;clear n0_ n1_ n2_ n3_;clear hb hbox hg)|((with_reducible refine gate_dst (N:=3) rfl ?_);refine box_event ?hg (N:=3) ?hd (cs:=#[.int .i64 a1_0,.int .i64 a1_1,.int .i64 a1_2,.int .i64 a1_3]) (t:=33) ?hr ?_;(case hd=>rfl);(case hg=>rfl);(case hr=>first|(go_simp;done)|(go_simp;rfl));intro gb232 hg w23 hbox hb;have n0_:=Aside0.mk (blk_below (g:=gb231) (o:=.cells #[.int .i64 a0_0,.int .i64 a0_1,.int .i64 a0_2,.int .i64 a0_3] 33 (0,0)) (by (with_reducible repeat (first|refine blk_drewN ?_ _|refine blk_drew ?_|refine blk_alloc ?_ _));exact BK231.out) hb);have n1_:=Aside0.mk (below_step (by repeat (first|(with_reducible first|exact HB.out|apply below_alloc|apply pw_below_drewN|apply below_drew1|refine below_set ?_ GE231.out)|exact HB.out)) hb);have n2_:=Aside0.mk (hbox);have n3_:=Aside0.mk ((by rw [hg];exact (below_size (by repeat (first|(with_reducible first|exact HB.out|apply below_alloc|apply pw_below_drewN|apply below_drew1|refine below_set ?_ GE231.out)|exact HB.out))):w.heap.size≤gb232));have n4_:=Aside0.mk ((by rw [hg];exact (below_size (by repeat (first|(with_reducible first|exact HB.out|apply below_alloc|apply pw_below_drewN|apply below_drew1|refine below_set ?_ GE231.out)|exact HB.out))):w.heap.size≤gb232));have n5_:=Aside0.mk ((by rw [hg];exact Nat.ne_of_lt (blk_lt (g:=gb231) (o:=.cells #[.int .i64 a0_0,.int .i64 a0_1,.int .i64 a0_2,.int .i64 a0_3] 33 (0,0)) (by (with_reducible repeat (first|refine blk_drewN ?_ _|refine blk_drew ?_|refine blk_alloc ?_ _));exact BK231.out)):gb231≠gb232));have n6_:=Aside0.mk ((by rw [hg];exact Nat.ne_of_gt (blk_lt (g:=gb231) (o:=.cells #[.int .i64 a0_0,.int .i64 a0_1,.int .i64 a0_2,.int .i64 a0_3] 33 (0,0)) (by (with_reducible repeat (first|refine blk_drewN ?_ _|refine blk_drew ?_|refine blk_alloc ?_ _));exact BK231.out)):gb232≠gb231));clear BK231;clear HB;have BK231:=n0_;have HB:=n1_;have BK232:=n2_;have GW232:=n3_;have GE232:=n4_;have NB231_232:=n5_;have NB232_231:=n6_;clear n0_ n1_ n2_ n3_ n4_ n5_ n6_;clear hb hbox hg;have hnb24:=NB231_232.out;have hnc24:=NB232_231.out;have hcz25_0:w23.cell? ⟨gb231,0,none⟩=some (.int .i64 a0_0):=(blk_cell BK231.out 0).trans rfl;have hcz25_1:w23.cell? ⟨gb231,1,none⟩=some (.int .i64 a0_1):=(blk_cell BK231.out 1).trans rfl;have hcz25_2:w23.cell? ⟨gb231,2,none⟩=some (.int .i64 a0_2):=(blk_cell BK231.out 2).trans rfl;have hcz25_3:w23.cell? ⟨gb231,3,none⟩=some (.int .i64 a0_3):=(blk_cell BK231.out 3).trans rfl;have hfz25_0:=blk_frozen BK231.out 0;have hfz25_1:=blk_frozen BK231.out 1;have hfz25_2:=blk_frozen BK231.out 2;have hfz25_3:=blk_frozen BK231.out 3;have hcz26_0:w23.cell? ⟨gb232,0,none⟩=some (.int .i64 a1_0):=(blk_cell BK232.out 0).trans rfl;have hcz26_1:w23.cell? ⟨gb232,1,none⟩=some (.int .i64 a1_1):=(blk_cell BK232.out 1).trans rfl;have hcz26_2:w23.cell? ⟨gb232,2,none⟩=some (.int .i64 a1_2):=(blk_cell BK232.out 2).trans rfl;have hcz26_3:w23.cell? ⟨gb232,3,none⟩=some (.int .i64 a1_3):=(blk_cell BK232.out 3).trans rfl;have hfz26_0:=blk_frozen BK232.out 0;have hfz26_1:=blk_frozen BK232.out 1;have hfz26_2:=blk_frozen BK232.out 2;have hfz26_3:=blk_frozen BK232.out 3))
   go_ret
   exact ⟨by first|rfl|(simp [errW_none,errW_some] <;> rfl)|(simp [*,errW_none,errW_some] <;> rfl),by repeat (first|(with_reducible first|exact HB.out|apply below_alloc|apply pw_below_drewN|apply below_drew1|refine below_set ?_ GE231.out|refine below_set ?_ GE232.out)|exact HB.out)⟩
 ·rw [if_neg c3] at H
  have c3b0:(a0_0 == a1_0)=false:=beq_eq_false_iff_ne.mpr c3
  have c3b1:(a0_0 != a1_0)=true:=bne_iff_ne.mpr c3
  obtain rfl:=Option.some.inj H
  go_enter Tryz.func43,Tryz.ntmps43
  go_wp2_with (first|((with_reducible refine gate_dst (N:=2) rfl ?_);refine box_event ?hg (N:=2) ?hd (cs:=#[.int .i64 a0_0,.int .i64 a0_1,.int .i64 a0_2,.int .i64 a0_3]) (t:=33) ?hr ?_;(case hd=>rfl);(case hg=>rfl);(case hr=>first|(go_simp;done)|(go_simp;rfl));intro gb231 hg w27 hbox hb;have n0_:=Aside0.mk (below_step zhb hb);have n1_:=Aside0.mk (hbox);have n2_:=Aside0.mk ((by rw [hg];exact (below_size zhb):w.heap.size≤gb231));have n3_:=Aside0.mk ((by rw [hg];exact (below_size zhb):w.heap.size≤gb231));clear HB;have HB:=n0_;have BK231:=n1_;have GW231:=n2_;have GE231:=n3_;clear n0_ n1_ n2_ n3_;clear hb hbox hg)|((with_reducible refine gate_dst (N:=3) rfl ?_);refine box_event ?hg (N:=3) ?hd (cs:=#[.int .i64 a1_0,.int .i64 a1_1,.int .i64 a1_2,.int .i64 a1_3]) (t:=33) ?hr ?_;(case hd=>rfl);(case hg=>rfl);(case hr=>first|(go_simp;done)|(go_simp;rfl));intro gb232 hg w28 hbox hb;have n0_:=Aside0.mk (blk_below (g:=gb231) (o:=.cells #[.int .i64 a0_0,.int .i64 a0_1,.int .i64 a0_2,.int .i64 a0_3] 33 (0,0)) (by (with_reducible repeat (first|refine blk_drewN ?_ _|refine blk_drew ?_|refine blk_alloc ?_ _));exact BK231.out) hb);have n1_:=Aside0.mk (below_step (by repeat (first|(with_reducible first|exact HB.out|apply below_alloc|apply pw_below_drewN|apply below_drew1|refine below_set ?_ GE231.out)|exact HB.out)) hb);have n2_:=Aside0.mk (hbox);have n3_:=Aside0.mk ((by rw [hg];exact (below_size (by repeat (first|(with_reducible first|exact HB.out|apply below_alloc|apply pw_below_drewN|apply below_drew1|refine below_set ?_ GE231.out)|exact HB.out))):w.heap.size≤gb232));have n4_:=Aside0.mk ((by rw [hg];exact (below_size (by repeat (first|(with_reducible first|exact HB.out|apply below_alloc|apply pw_below_drewN|apply below_drew1|refine below_set ?_ GE231.out)|exact HB.out))):w.heap.size≤gb232));have n5_:=Aside0.mk ((by rw [hg];exact Nat.ne_of_lt (blk_lt (g:=gb231) (o:=.cells #[.int .i64 a0_0,.int .i64 a0_1,.int .i64 a0_2,.int .i64 a0_3] 33 (0,0)) (by (with_reducible repeat (first|refine blk_drewN ?_ _|refine blk_drew ?_|refine blk_alloc ?_ _));exact BK231.out)):gb231≠gb232));have n6_:=Aside0.mk ((by rw [hg];exact Nat.ne_of_gt (blk_lt (g:=gb231) (o:=.cells #[.int .i64 a0_0,.int .i64 a0_1,.int .i64 a0_2,.int .i64 a0_3] 33 (0,0)) (by (with_reducible repeat (first|refine blk_drewN ?_ _|refine blk_drew ?_|refine blk_alloc ?_ _));exact BK231.out)):gb232≠gb231));clear BK231;clear HB;have BK231:=n0_;have HB:=n1_;have BK232:=n2_;have GW232:=n3_;have GE232:=n4_;have NB231_232:=n5_;have NB232_231:=n6_;clear n0_ n1_ n2_ n3_ n4_ n5_ n6_;clear hb hbox hg;have hnb29:=NB231_232.out;have hnc29:=NB232_231.out;have hcz30_0:w28.cell? ⟨gb231,0,none⟩=some (.int .i64 a0_0):=(blk_cell BK231.out 0).trans rfl;have hcz30_1:w28.cell? ⟨gb231,1,none⟩=some (.int .i64 a0_1):=(blk_cell BK231.out 1).trans rfl;have hcz30_2:w28.cell? ⟨gb231,2,none⟩=some (.int .i64 a0_2):=(blk_cell BK231.out 2).trans rfl;have hcz30_3:w28.cell? ⟨gb231,3,none⟩=some (.int .i64 a0_3):=(blk_cell BK231.out 3).trans rfl;have hfz30_0:=blk_frozen BK231.out 0;have hfz30_1:=blk_frozen BK231.out 1;have hfz30_2:=blk_frozen BK231.out 2;have hfz30_3:=blk_frozen BK231.out 3;have hcz31_0:w28.cell? ⟨gb232,0,none⟩=some (.int .i64 a1_0):=(blk_cell BK232.out 0).trans rfl;have hcz31_1:w28.cell? ⟨gb232,1,none⟩=some (.int .i64 a1_1):=(blk_cell BK232.out 1).trans rfl;have hcz31_2:w28.cell? ⟨gb232,2,none⟩=some (.int .i64 a1_2):=(blk_cell BK232.out 2).trans rfl;have hcz31_3:w28.cell? ⟨gb232,3,none⟩=some (.int .i64 a1_3):=(blk_cell BK232.out 3).trans rfl;have hfz31_0:=blk_frozen BK232.out 0;have hfz31_1:=blk_frozen BK232.out 1;have hfz31_2:=blk_frozen BK232.out 2;have hfz31_3:=blk_frozen BK232.out 3))
  go_ret
  exact ⟨by first|rfl|(simp [errW_none,errW_some] <;> rfl)|(simp [*,errW_none,errW_some] <;> rfl),by repeat (first|(with_reducible first|exact HB.out|apply below_alloc|apply pw_below_drewN|apply below_drew1|refine below_set ?_ GE231.out|refine below_set ?_ GE232.out)|exact HB.out)⟩

/-! ### laws_eqTest: function 26 -/
def laws_eqTest.f (a0_0:Int) (a0_1:Bool) (a0_2:Int) (a0_3:Int) (a0_4:Int) (a0_5:Int) (a0_6:Int) (a0_7:Int) (a0_8:Int) (a0_9:Int) (a1_0:Int) (a1_1:Bool) (a1_2:Int) (a1_3:Int) (a1_4:Int) (a1_5:Int) (a1_6:Int) (a1_7:Int) (a1_8:Int) (a1_9:Int):Option (Bool):=if a0_0=a1_0 then (if (a0_1 != a1_1)=true then (some false) else ((laws_eqCell.f a0_2 a0_3 a0_4 a0_5 a1_2 a1_3 a1_4 a1_5).bind fun t235=>(if t235=true then ((laws_eqCell.f a0_6 a0_7 a0_8 a0_9 a1_6 a1_7 a1_8 a1_9).bind fun t236=>(if t236=true then (some true) else (some false))) else (some false)))) else (some false)
set_option maxHeartbeats 8000000 in
set_option maxRecDepth 100000 in
theorem laws_eqTest.calls (a0_0:Int) (a0_1:Bool) (a0_2:Int) (a0_3:Int) (a0_4:Int) (a0_5:Int) (a0_6:Int) (a0_7:Int) (a0_8:Int) (a0_9:Int) (a1_0:Int) (a1_1:Bool) (a1_2:Int) (a1_3:Int) (a1_4:Int) (a1_5:Int) (a1_6:Int) (a1_7:Int) (a1_8:Int) (a1_9:Int) (r:Bool) (w:World) (h:laws_eqTest.f a0_0 a0_1 a0_2 a0_3 a0_4 a0_5 a0_6 a0_7 a0_8 a0_9 a1_0 a1_1 a1_2 a1_3 a1_4 a1_5 a1_6 a1_7 a1_8 a1_9=some r) :
  Calls Tryz.prog 26 #[.agg #[.int .i64 a0_0,.bool a0_1,.int .i64 a0_2,.int .i64 a0_3,.int .i64 a0_4,.int .i64 a0_5,.int .i64 a0_6,.int .i64 a0_7,.int .i64 a0_8,.int .i64 a0_9],.agg #[.int .i64 a1_0,.bool a1_1,.int .i64 a1_2,.int .i64 a1_3,.int .i64 a1_4,.int .i64 a1_5,.int .i64 a1_6,.int .i64 a1_7,.int .i64 a1_8,.int .i64 a1_9]] w fun e w'=>e=.returned (.bool r)∧Below w.heap.size w w':=by
 have hu35:=Tryz.underlying35
 have hu33:=Tryz.underlying33
 have HB:=Aside0.mk (Below.refl w.heap.size w)
 have H:(if a0_0=a1_0 then (if (a0_1 != a1_1)=true then (some false) else ((laws_eqCell.f a0_2 a0_3 a0_4 a0_5 a1_2 a1_3 a1_4 a1_5).bind fun t235=>(if t235=true then ((laws_eqCell.f a0_6 a0_7 a0_8 a0_9 a1_6 a1_7 a1_8 a1_9).bind fun t236=>(if t236=true then (some true) else (some false))) else (some false)))) else (some false))=some r:=h
 clear h
 by_cases c3:a0_0=a1_0
 ·rw [if_pos c3] at H
  have c3b0:(a0_0 == a1_0)=true:=beq_iff_eq.mpr c3
  have c3b1:(a0_0 != a1_0)=false:=bne_eq_false_iff_eq.mpr c3
  clear c3
  by_cases c4:(a0_1 != a1_1)=true
  ·rw [if_pos c4] at H
   have c4b0:(a0_1 != a1_1)=true:=c4
   (try (have c4b1:decide (a0_1=a1_1)=false:=by simpa using c4))
   (try (have c4b2:(a0_1 == a1_1)=false:=by simpa using c4))
   (try (have c4b3 : ¬ (a0_1=a1_1):=by simpa using c4))
   clear c4
   obtain rfl:=Option.some.inj H
   go_enter Tryz.func26,Tryz.ntmps26
   go_wp2_with (first|((with_reducible refine gate_dst (N:=2) rfl ?_);refine box_event ?hg (N:=2) ?hd (cs:=#[.int .i64 a0_0,.bool a0_1,.int .i64 a0_2,.int .i64 a0_3,.int .i64 a0_4,.int .i64 a0_5,.int .i64 a0_6,.int .i64 a0_7,.int .i64 a0_8,.int .i64 a0_9]) (t:=35) ?hr ?_;(case hd=>rfl);(case hg=>rfl);(case hr=>first|(go_simp;done)|(go_simp;rfl));intro gb233 hg w5 hbox hb;have n0_:=Aside0.mk (below_step zhb hb);have n1_:=Aside0.mk (hbox);have n2_:=Aside0.mk ((by rw [hg];exact (below_size zhb):w.heap.size≤gb233));have n3_:=Aside0.mk ((by rw [hg];exact (below_size zhb):w.heap.size≤gb233));clear HB;have HB:=n0_;have BK233:=n1_;have GW233:=n2_;have GE233:=n3_;clear n0_ n1_ n2_ n3_;clear hb hbox hg)|((with_reducible refine gate_dst (N:=3) rfl ?_);refine box_event ?hg (N:=3) ?hd (cs:=#[.int .i64 a1_0,.bool a1_1,.int .i64 a1_2,.int .i64 a1_3,.int .i64 a1_4,.int .i64 a1_5,.int .i64 a1_6,.int .i64 a1_7,.int .i64 a1_8,.int .i64 a1_9]) (t:=35) ?hr ?_;(case hd=>rfl);(case hg=>rfl);(case hr=>first|(go_simp;done)|(go_simp;rfl));intro gb234 hg w6 hbox hb;have n0_:=Aside0.mk (blk_below (g:=gb233) (o:=.cells #[.int .i64 a0_0,.bool a0_1,.int .i64 a0_2,.int .i64 a0_3,.int .i64 a0_4,.int .i64 a0_5,.int .i64 a0_6,.int .i64 a0_7,.int .i64 a0_8,.int .i64 a0_9] 35 (0,0)) (by (with_reducible repeat (first|refine blk_drewN ?_ _|refine blk_drew ?_|refine blk_alloc ?_ _));exact BK233.out) hb);have n1_:=Aside0.mk (below_step (by repeat (first|(with_reducible first|exact HB.out|apply below_alloc|apply pw_below_drewN|apply below_drew1|refine below_set ?_ GE233.out)|exact HB.out)) hb);have n2_:=Aside0.mk (hbox);have n3_:=Aside0.mk ((by rw [hg];exact (below_size (by repeat (first|(with_reducible first|exact HB.out|apply below_alloc|apply pw_below_drewN|apply below_drew1|refine below_set ?_ GE233.out)|exact HB.out))):w.heap.size≤gb234));have n4_:=Aside0.mk ((by rw [hg];exact (below_size (by repeat (first|(with_reducible first|exact HB.out|apply below_alloc|apply pw_below_drewN|apply below_drew1|refine below_set ?_ GE233.out)|exact HB.out))):w.heap.size≤gb234));have n5_:=Aside0.mk ((by rw [hg];exact Nat.ne_of_lt (blk_lt (g:=gb233) (o:=.cells #[.int .i64 a0_0,.bool a0_1,.int .i64 a0_2,.int .i64 a0_3,.int .i64 a0_4,.int .i64 a0_5,.int .i64 a0_6,.int .i64 a0_7,.int .i64 a0_8,.int .i64 a0_9] 35 (0,0)) (by (with_reducible repeat (first|refine blk_drewN ?_ _|refine blk_drew ?_|refine blk_alloc ?_ _));exact BK233.out)):gb233≠gb234));have n6_:=Aside0.mk ((by rw [hg];exact Nat.ne_of_gt (blk_lt (g:=gb233) (o:=.cells #[.int .i64 a0_0,.bool a0_1,.int .i64 a0_2,.int .i64 a0_3,.int .i64 a0_4,.int .i64 a0_5,.int .i64 a0_6,.int .i64 a0_7,.int .i64 a0_8,.int .i64 a0_9] 35 (0,0)) (by (with_reducible repeat (first|refine blk_drewN ?_ _|refine blk_drew ?_|refine blk_alloc ?_ _));exact BK233.out)):gb234≠gb233));clear BK233;clear HB;have BK233:=n0_;have HB:=n1_;have BK234:=n2_;have GW234:=n3_;have GE234:=n4_;have NB233_234:=n5_;have NB234_233:=n6_;clear n0_ n1_ n2_ n3_ n4_ n5_ n6_;clear hb hbox hg;have hnb7:=NB233_234.out;have hnc7:=NB234_233.out;have hcz8_0:w6.cell? ⟨gb233,0,none⟩=some (.int .i64 a0_0):=(blk_cell BK233.out 0).trans rfl;have hcz8_1:w6.cell? ⟨gb233,1,none⟩=some (.bool a0_1):=(blk_cell BK233.out 1).trans rfl;have hcz8_2:w6.cell? ⟨gb233,2,none⟩=some (.int .i64 a0_2):=(blk_cell BK233.out 2).trans rfl;have hcz8_3:w6.cell? ⟨gb233,3,none⟩=some (.int .i64 a0_3):=(blk_cell BK233.out 3).trans rfl;have hcz8_4:w6.cell? ⟨gb233,4,none⟩=some (.int .i64 a0_4):=(blk_cell BK233.out 4).trans rfl;have hcz8_5:w6.cell? ⟨gb233,5,none⟩=some (.int .i64 a0_5):=(blk_cell BK233.out 5).trans rfl;have hcz8_6:w6.cell? ⟨gb233,6,none⟩=some (.int .i64 a0_6):=(blk_cell BK233.out 6).trans rfl;have hcz8_7:w6.cell? ⟨gb233,7,none⟩=some (.int .i64 a0_7):=(blk_cell BK233.out 7).trans rfl;have hcz8_8:w6.cell? ⟨gb233,8,none⟩=some (.int .i64 a0_8):=(blk_cell BK233.out 8).trans rfl;have hcz8_9:w6.cell? ⟨gb233,9,none⟩=some (.int .i64 a0_9):=(blk_cell BK233.out 9).trans rfl;have hfz8_0:=blk_frozen BK233.out 0;have hfz8_1:=blk_frozen BK233.out 1;have hfz8_2:=blk_frozen BK233.out 2;have hfz8_3:=blk_frozen BK233.out 3;have hfz8_4:=blk_frozen BK233.out 4;have hfz8_5:=blk_frozen BK233.out 5;have hfz8_6:=blk_frozen BK233.out 6;have hfz8_7:=blk_frozen BK233.out 7;have hfz8_8:=blk_frozen BK233.out 8;have hfz8_9:=blk_frozen BK233.out 9;have hcz9_0:w6.cell? ⟨gb234,0,none⟩=some (.int .i64 a1_0):=(blk_cell BK234.out 0).trans rfl;have hcz9_1:w6.cell? ⟨gb234,1,none⟩=some (.bool a1_1):=(blk_cell BK234.out 1).trans rfl;have hcz9_2:w6.cell? ⟨gb234,2,none⟩=some (.int .i64 a1_2):=(blk_cell BK234.out 2).trans rfl;have hcz9_3:w6.cell? ⟨gb234,3,none⟩=some (.int .i64 a1_3):=(blk_cell BK234.out 3).trans rfl;have hcz9_4:w6.cell? ⟨gb234,4,none⟩=some (.int .i64 a1_4):=(blk_cell BK234.out 4).trans rfl;have hcz9_5:w6.cell? ⟨gb234,5,none⟩=some (.int .i64 a1_5):=(blk_cell BK234.out 5).trans rfl;have hcz9_6:w6.cell? ⟨gb234,6,none⟩=some (.int .i64 a1_6):=(blk_cell BK234.out 6).trans rfl;have hcz9_7:w6.cell? ⟨gb234,7,none⟩=some (.int .i64 a1_7):=(blk_cell BK234.out 7).trans rfl;have hcz9_8:w6.cell? ⟨gb234,8,none⟩=some (.int .i64 a1_8):=(blk_cell BK234.out 8).trans rfl;have hcz9_9:w6.cell? ⟨gb234,9,none⟩=some (.int .i64 a1_9):=(blk_cell BK234.out 9).trans rfl;have hfz9_0:=blk_frozen BK234.out 0;have hfz9_1:=blk_frozen BK234.out 1;have hfz9_2:=blk_frozen BK234.out 2;have hfz9_3:=blk_frozen BK234.out 3;have hfz9_4:=blk_frozen BK234.out 4;have hfz9_5:=blk_frozen BK234.out 5;have hfz9_6:=blk_frozen BK234.out 6;have hfz9_7:=blk_frozen BK234.out 7;have hfz9_8:=blk_frozen BK234.out 8;have hfz9_9:=blk_frozen BK234.out 9))
   go_ret
   exact ⟨by first|rfl|(simp [errW_none,errW_some] <;> rfl)|(simp [*,errW_none,errW_some] <;> rfl),by repeat (first|(with_reducible first|exact HB.out|apply below_alloc|apply pw_below_drewN|apply below_drew1|refine below_set ?_ GE233.out|refine below_set ?_ GE234.out)|exact HB.out)⟩
  ·rw [if_neg c4] at H
   have c4b0:(a0_1 != a1_1)=false:=by simpa using c4
   (try (have c4b1:decide (a0_1=a1_1)=true:=by simpa using c4))
   (try (have c4b2:(a0_1 == a1_1)=true:=by simpa using c4))
   clear c4
   replace H:=Option.bind_eq_some_iff.mp H
   obtain ⟨t235,A100,H⟩:=H
   (try dsimp only at H)
   have A10:=Aside0.mk A100
   clear A100
   by_cases c11:t235=true
   ·subst c11
    have H1:((laws_eqCell.f a0_6 a0_7 a0_8 a0_9 a1_6 a1_7 a1_8 a1_9).bind fun t236=>(if t236=true then (some true) else (some false)))=some r:=by rw [if_pos rfl] at H;exact H
    clear H
    have H:=H1
    clear H1
    replace H:=Option.bind_eq_some_iff.mp H
    obtain ⟨t236,A120,H⟩:=H
    (try dsimp only at H)
    have A12:=Aside0.mk A120
    clear A120
    by_cases c13:t236=true
    ·subst c13
     have H1:(some true)=some r:=by rw [if_pos rfl] at H;exact H
     clear H
     have H:=H1
     clear H1
     obtain rfl:=Option.some.inj H
     go_enter Tryz.func26,Tryz.ntmps26
     go_wp2_with (first|((with_reducible refine gate_dst (N:=2) rfl ?_);refine box_event ?hg (N:=2) ?hd (cs:=#[.int .i64 a0_0,.bool a0_1,.int .i64 a0_2,.int .i64 a0_3,.int .i64 a0_4,.int .i64 a0_5,.int .i64 a0_6,.int .i64 a0_7,.int .i64 a0_8,.int .i64 a0_9]) (t:=35) ?hr ?_;(case hd=>rfl);(case hg=>rfl);(case hr=>first|(go_simp;done)|(go_simp;rfl));intro gb233 hg w14 hbox hb;have n0_:=Aside0.mk (below_step zhb hb);have n1_:=Aside0.mk (hbox);have n2_:=Aside0.mk ((by rw [hg];exact (below_size zhb):w.heap.size≤gb233));have n3_:=Aside0.mk ((by rw [hg];exact (below_size zhb):w.heap.size≤gb233));clear HB;have HB:=n0_;have BK233:=n1_;have GW233:=n2_;have GE233:=n3_;clear n0_ n1_ n2_ n3_;clear hb hbox hg)|((with_reducible refine gate_dst (N:=3) rfl ?_);refine box_event ?hg (N:=3) ?hd (cs:=#[.int .i64 a1_0,.bool a1_1,.int .i64 a1_2,.int .i64 a1_3,.int .i64 a1_4,.int .i64 a1_5,.int .i64 a1_6,.int .i64 a1_7,.int .i64 a1_8,.int .i64 a1_9]) (t:=35) ?hr ?_;(case hd=>rfl);(case hg=>rfl);(case hr=>first|(go_simp;done)|(go_simp;rfl));intro gb234 hg w15 hbox hb;have n0_:=Aside0.mk (blk_below (g:=gb233) (o:=.cells #[.int .i64 a0_0,.bool a0_1,.int .i64 a0_2,.int .i64 a0_3,.int .i64 a0_4,.int .i64 a0_5,.int .i64 a0_6,.int .i64 a0_7,.int .i64 a0_8,.int .i64 a0_9] 35 (0,0)) (by (with_reducible repeat (first|refine blk_drewN ?_ _|refine blk_drew ?_|refine blk_alloc ?_ _));exact BK233.out) hb);have n1_:=Aside0.mk (below_step (by repeat (first|(with_reducible first|exact HB.out|apply below_alloc|apply pw_below_drewN|apply below_drew1|refine below_set ?_ GE233.out)|exact HB.out)) hb);have n2_:=Aside0.mk (hbox);have n3_:=Aside0.mk ((by rw [hg];exact (below_size (by repeat (first|(with_reducible first|exact HB.out|apply below_alloc|apply pw_below_drewN|apply below_drew1|refine below_set ?_ GE233.out)|exact HB.out))):w.heap.size≤gb234));have n4_:=Aside0.mk ((by rw [hg];exact (below_size (by repeat (first|(with_reducible first|exact HB.out|apply below_alloc|apply pw_below_drewN|apply below_drew1|refine below_set ?_ GE233.out)|exact HB.out))):w.heap.size≤gb234));have n5_:=Aside0.mk ((by rw [hg];exact Nat.ne_of_lt (blk_lt (g:=gb233) (o:=.cells #[.int .i64 a0_0,.bool a0_1,.int .i64 a0_2,.int .i64 a0_3,.int .i64 a0_4,.int .i64 a0_5,.int .i64 a0_6,.int .i64 a0_7,.int .i64 a0_8,.int .i64 a0_9] 35 (0,0)) (by (with_reducible repeat (first|refine blk_drewN ?_ _|refine blk_drew ?_|refine blk_alloc ?_ _));exact BK233.out)):gb233≠gb234));have n6_:=Aside0.mk ((by rw [hg];exact Nat.ne_of_gt (blk_lt (g:=gb233) (o:=.cells #[.int .i64 a0_0,.bool a0_1,.int .i64 a0_2,.int .i64 a0_3,.int .i64 a0_4,.int .i64 a0_5,.int .i64 a0_6,.int .i64 a0_7,.int .i64 a0_8,.int .i64 a0_9] 35 (0,0)) (by (with_reducible repeat (first|refine blk_drewN ?_ _|refine blk_drew ?_|refine blk_alloc ?_ _));exact BK233.out)):gb234≠gb233));clear BK233;clear HB;have BK233:=n0_;have HB:=n1_;have BK234:=n2_;have GW234:=n3_;have GE234:=n4_;have NB233_234:=n5_;have NB234_233:=n6_;clear n0_ n1_ n2_ n3_ n4_ n5_ n6_;clear hb hbox hg;have hnb16:=NB233_234.out;have hnc16:=NB234_233.out;have hcz17_0:w15.cell? ⟨gb233,0,none⟩=some (.int .i64 a0_0):=(blk_cell BK233.out 0).trans rfl;have hcz17_1:w15.cell? ⟨gb233,1,none⟩=some (.bool a0_1):=(blk_cell BK233.out 1).trans rfl;have hcz17_2:w15.cell? ⟨gb233,2,none⟩=some (.int .i64 a0_2):=(blk_cell BK233.out 2).trans rfl;have hcz17_3:w15.cell? ⟨gb233,3,none⟩=some (.int .i64 a0_3):=(blk_cell BK233.out 3).trans rfl;have hcz17_4:w15.cell? ⟨gb233,4,none⟩=some (.int .i64 a0_4):=(blk_cell BK233.out 4).trans rfl;have hcz17_5:w15.cell? ⟨gb233,5,none⟩=some (.int .i64 a0_5):=(blk_cell BK233.out 5).trans rfl;have hcz17_6:w15.cell? ⟨gb233,6,none⟩=some (.int .i64 a0_6):=(blk_cell BK233.out 6).trans rfl;have hcz17_7:w15.cell? ⟨gb233,7,none⟩=some (.int .i64 a0_7):=(blk_cell BK233.out 7).trans rfl;have hcz17_8:w15.cell? ⟨gb233,8,none⟩=some (.int .i64 a0_8):=(blk_cell BK233.out 8).trans rfl;have hcz17_9:w15.cell? ⟨gb233,9,none⟩=some (.int .i64 a0_9):=(blk_cell BK233.out 9).trans rfl;have hfz17_0:=blk_frozen BK233.out 0;have hfz17_1:=blk_frozen BK233.out 1;have hfz17_2:=blk_frozen BK233.out 2;have hfz17_3:=blk_frozen BK233.out 3;have hfz17_4:=blk_frozen BK233.out 4;have hfz17_5:=blk_frozen BK233.out 5;have hfz17_6:=blk_frozen BK233.out 6;have hfz17_7:=blk_frozen BK233.out 7;have hfz17_8:=blk_frozen BK233.out 8;have hfz17_9:=blk_frozen BK233.out 9;have hcz18_0:w15.cell? ⟨gb234,0,none⟩=some (.int .i64 a1_0):=(blk_cell BK234.out 0).trans rfl;have hcz18_1:w15.cell? ⟨gb234,1,none⟩=some (.bool a1_1):=(blk_cell BK234.out 1).trans rfl;have hcz18_2:w15.cell? ⟨gb234,2,none⟩=some (.int .i64 a1_2):=(blk_cell BK234.out 2).trans rfl;have hcz18_3:w15.cell? ⟨gb234,3,none⟩=some (.int .i64 a1_3):=(blk_cell BK234.out 3).trans rfl;have hcz18_4:w15.cell? ⟨gb234,4,none⟩=some (.int .i64 a1_4):=(blk_cell BK234.out 4).trans rfl;have hcz18_5:w15.cell? ⟨gb234,5,none⟩=some (.int .i64 a1_5):=(blk_cell BK234.out 5).trans rfl;have hcz18_6:w15.cell? ⟨gb234,6,none⟩=some (.int .i64 a1_6):=(blk_cell BK234.out 6).trans rfl;have hcz18_7:w15.cell? ⟨gb234,7,none⟩=some (.int .i64 a1_7):=(blk_cell BK234.out 7).trans rfl;have hcz18_8:w15.cell? ⟨gb234,8,none⟩=some (.int .i64 a1_8):=(blk_cell BK234.out 8).trans rfl;have hcz18_9:w15.cell? ⟨gb234,9,none⟩=some (.int .i64 a1_9):=(blk_cell BK234.out 9).trans rfl;have hfz18_0:=blk_frozen BK234.out 0;have hfz18_1:=blk_frozen BK234.out 1;have hfz18_2:=blk_frozen BK234.out 2;have hfz18_3:=blk_frozen BK234.out 3;have hfz18_4:=blk_frozen BK234.out 4;have hfz18_5:=blk_frozen BK234.out 5;have hfz18_6:=blk_frozen BK234.out 6;have hfz18_7:=blk_frozen BK234.out 7;have hfz18_8:=blk_frozen BK234.out 8;have hfz18_9:=blk_frozen BK234.out 9)|((with_reducible refine gate_callee (f:=43) rfl ?_);refine goesL_ (some 19) rfl rfl Tryz.func43 (by kernel_rfl) rfl #[.agg #[.int .i64 a0_2,.int .i64 a0_3,.int .i64 a0_4,.int .i64 a0_5],.agg #[.int .i64 a1_2,.int .i64 a1_3,.int .i64 a1_4,.int .i64 a1_5]] rfl zar ?_;(with_reducible refine (laws_eqCell.calls a0_2 a0_3 a0_4 a0_5 a1_2 a1_3 a1_4 a1_5 true _ A10.out).mono ?_);rintro e w19 ⟨rfl,hb⟩;refine ⟨_,rfl,?_⟩;have n0_:=Aside0.mk (blk_below (g:=gb233) (o:=.cells #[.int .i64 a0_0,.bool a0_1,.int .i64 a0_2,.int .i64 a0_3,.int .i64 a0_4,.int .i64 a0_5,.int .i64 a0_6,.int .i64 a0_7,.int .i64 a0_8,.int .i64 a0_9] 35 (0,0)) (by (with_reducible repeat (first|refine blk_drewN ?_ _|refine blk_drew ?_|refine blk_alloc ?_ _));exact BK233.out) hb);have n1_:=Aside0.mk (blk_below (g:=gb234) (o:=.cells #[.int .i64 a1_0,.bool a1_1,.int .i64 a1_2,.int .i64 a1_3,.int .i64 a1_4,.int .i64 a1_5,.int .i64 a1_6,.int .i64 a1_7,.int .i64 a1_8,.int .i64 a1_9] 35 (0,0)) (by (with_reducible repeat (first|refine blk_drewN ?_ _|refine blk_drew ?_|refine blk_alloc ?_ _));exact BK234.out) hb);have n2_:=Aside0.mk (below_step (by repeat (first|(with_reducible first|exact HB.out|apply below_alloc|apply pw_below_drewN|apply below_drew1|refine below_set ?_ GE233.out|refine below_set ?_ GE234.out)|exact HB.out)) hb);clear BK233;clear BK234;clear HB;have BK233:=n0_;have BK234:=n1_;have HB:=n2_;clear n0_ n1_ n2_;(try clear hb);(try clear hb2);(try clear hk);(try clear hi);have hcz20_0:w19.cell? ⟨gb233,0,none⟩=some (.int .i64 a0_0):=(blk_cell BK233.out 0).trans rfl;have hcz20_1:w19.cell? ⟨gb233,1,none⟩=some (.bool a0_1):=(blk_cell BK233.out 1).trans rfl;have hcz20_2:w19.cell? ⟨gb233,2,none⟩=some (.int .i64 a0_2):=(blk_cell BK233.out 2).trans rfl;have hcz20_3:w19.cell? ⟨gb233,3,none⟩=some (.int .i64 a0_3):=(blk_cell BK233.out 3).trans rfl;have hcz20_4:w19.cell? ⟨gb233,4,none⟩=some (.int .i64 a0_4):=(blk_cell BK233.out 4).trans rfl;have hcz20_5:w19.cell? ⟨gb233,5,none⟩=some (.int .i64 a0_5):=(blk_cell BK233.out 5).trans rfl;have hcz20_6:w19.cell? ⟨gb233,6,none⟩=some (.int .i64 a0_6):=(blk_cell BK233.out 6).trans rfl;have hcz20_7:w19.cell? ⟨gb233,7,none⟩=some (.int .i64 a0_7):=(blk_cell BK233.out 7).trans rfl;have hcz20_8:w19.cell? ⟨gb233,8,none⟩=some (.int .i64 a0_8):=(blk_cell BK233.out 8).trans rfl;have hcz20_9:w19.cell? ⟨gb233,9,none⟩=some (.int .i64 a0_9):=(blk_cell BK233.out 9).trans rfl;have hfz20_0:=blk_frozen BK233.out 0;have hfz20_1:=blk_frozen BK233.out 1;have hfz20_2:=blk_frozen BK233.out 2;have hfz20_3:=blk_frozen BK233.out 3;have hfz20_4:=blk_frozen BK233.out 4;have hfz20_5:=blk_frozen BK233.out 5;have hfz20_6:=blk_frozen BK233.out 6;have hfz20_7:=blk_frozen BK233.out 7;have hfz20_8:=blk_frozen BK233.out 8;have hfz20_9:=blk_frozen BK233.out 9;have hcz21_0:w19.cell? ⟨gb234,0,none⟩=some (.int .i64 a1_0):=(blk_cell BK234.out 0).trans rfl;have hcz21_1:w19.cell? ⟨gb234,1,none⟩=some (.bool a1_1):=(blk_cell BK234.out 1).trans rfl;have hcz21_2:w19.cell? ⟨gb234,2,none⟩=some (.int .i64 a1_2):=(blk_cell BK234.out 2).trans rfl;have hcz21_3:w19.cell? ⟨gb234,3,none⟩=some (.int .i64 a1_3):=(blk_cell BK234.out 3).trans rfl;have hcz21_4:w19.cell? ⟨gb234,4,none⟩=some (.int .i64 a1_4):=(blk_cell BK234.out 4).trans rfl;have hcz21_5:w19.cell? ⟨gb234,5,none⟩=some (.int .i64 a1_5):=(blk_cell BK234.out 5).trans rfl;have hcz21_6:w19.cell? ⟨gb234,6,none⟩=some (.int .i64 a1_6):=(blk_cell BK234.out 6).trans rfl;have hcz21_7:w19.cell? ⟨gb234,7,none⟩=some (.int .i64 a1_7):=(blk_cell BK234.out 7).trans rfl;have hcz21_8:w19.cell? ⟨gb234,8,none⟩=some (.int .i64 a1_8):=(blk_cell BK234.out 8).trans rfl;have hcz21_9:w19.cell? ⟨gb234,9,none⟩=some (.int .i64 a1_9):=(blk_cell BK234.out 9).trans rfl;have hfz21_0:=blk_frozen BK234.out 0;have hfz21_1:=blk_frozen BK234.out 1;have hfz21_2:=blk_frozen BK234.out 2;have hfz21_3:=blk_frozen BK234.out 3;have hfz21_4:=blk_frozen BK234.out 4;have hfz21_5:=blk_frozen BK234.out 5;have hfz21_6:=blk_frozen BK234.out 6;have hfz21_7:=blk_frozen BK234.out 7;have hfz21_8:=blk_frozen BK234.out 8;have hfz21_9:=blk_frozen BK234.out 9)|((with_reducible refine gate_callee (f:=43) rfl ?_);refine goesL_ (some 25) rfl rfl Tryz.func43 (by kernel_rfl) rfl #[.agg #[.int .i64 a0_6,.int .i64 a0_7,.int .i64 a0_8,.int .i64 a0_9],.agg #[.int .i64 a1_6,.int .i64 a1_7,.int .i64 a1_8,.int .i64 a1_9]] rfl zar ?_;(with_reducible refine (laws_eqCell.calls a0_6 a0_7 a0_8 a0_9 a1_6 a1_7 a1_8 a1_9 true _ A12.out).mono ?_);rintro e w22 ⟨rfl,hb⟩;refine ⟨_,rfl,?_⟩;have n0_:=Aside0.mk (blk_below (g:=gb233) (o:=.cells #[.int .i64 a0_0,.bool a0_1,.int .i64 a0_2,.int .i64 a0_3,.int .i64 a0_4,.int .i64 a0_5,.int .i64 a0_6,.int .i64 a0_7,.int .i64 a0_8,.int .i64 a0_9] 35 (0,0)) (by (with_reducible repeat (first|refine blk_drewN ?_ _|refine blk_drew ?_|refine blk_alloc ?_ _));exact BK233.out) hb);have n1_:=Aside0.mk (blk_below (g:=gb234) (o:=.cells #[.int .i64 a1_0,.bool a1_1,.int .i64 a1_2,.int .i64 a1_3,.int .i64 a1_4,.int .i64 a1_5,.int .i64 a1_6,.int .i64 a1_7,.int .i64 a1_8,.int .i64 a1_9] 35 (0,0)) (by (with_reducible repeat (first|refine blk_drewN ?_ _|refine blk_drew ?_|refine blk_alloc ?_ _));exact BK234.out) hb);have n2_:=Aside0.mk (below_step (by repeat (first|(with_reducible first|exact HB.out|apply below_alloc|apply pw_below_drewN|apply below_drew1|refine below_set ?_ GE233.out|refine below_set ?_ GE234.out)|exact HB.out)) hb);clear BK233;clear BK234;clear HB;have BK233:=n0_;have BK234:=n1_;have HB:=n2_;clear n0_ n1_ n2_;(try clear hb);(try clear hb2);(try clear hk);(try clear hi)))
     go_ret
     exact ⟨by first|rfl|(simp [errW_none,errW_some] <;> rfl)|(simp [*,errW_none,errW_some] <;> rfl),by repeat (first|(with_reducible first|exact HB.out|apply below_alloc|apply pw_below_drewN|apply below_drew1|refine below_set ?_ GE233.out|refine below_set ?_ GE234.out)|exact HB.out)⟩
    ·replace c13:=Bool.eq_false_iff.mpr c13
     subst c13
     have H1:(some false)=some r:=by rw [if_neg (show ¬ (false=true) by decide)] at H;exact H
     clear H
     have H:=H1
     clear H1
     obtain rfl:=Option.some.inj H
     go_enter Tryz.func26,Tryz.ntmps26
     go_wp2_with (first|((with_reducible refine gate_dst (N:=2) rfl ?_);refine box_event ?hg (N:=2) ?hd (cs:=#[.int .i64 a0_0,.bool a0_1,.int .i64 a0_2,.int .i64 a0_3,.int .i64 a0_4,.int .i64 a0_5,.int .i64 a0_6,.int .i64 a0_7,.int .i64 a0_8,.int .i64 a0_9]) (t:=35) ?hr ?_;(case hd=>rfl);(case hg=>rfl);(case hr=>first|(go_simp;done)|(go_simp;rfl));intro gb233 hg w23 hbox hb;have n0_:=Aside0.mk (below_step zhb hb);have n1_:=Aside0.mk (hbox);have n2_:=Aside0.mk ((by rw [hg];exact (below_size zhb):w.heap.size≤gb233));have n3_:=Aside0.mk ((by rw [hg];exact (below_size zhb):w.heap.size≤gb233));clear HB;have HB:=n0_;have BK233:=n1_;have GW233:=n2_;have GE233:=n3_;clear n0_ n1_ n2_ n3_;clear hb hbox hg)|((with_reducible refine gate_dst (N:=3) rfl ?_);refine box_event ?hg (N:=3) ?hd (cs:=#[.int .i64 a1_0,.bool a1_1,.int .i64 a1_2,.int .i64 a1_3,.int .i64 a1_4,.int .i64 a1_5,.int .i64 a1_6,.int .i64 a1_7,.int .i64 a1_8,.int .i64 a1_9]) (t:=35) ?hr ?_;(case hd=>rfl);(case hg=>rfl);(case hr=>first|(go_simp;done)|(go_simp;rfl));intro gb234 hg w24 hbox hb;have n0_:=Aside0.mk (blk_below (g:=gb233) (o:=.cells #[.int .i64 a0_0,.bool a0_1,.int .i64 a0_2,.int .i64 a0_3,.int .i64 a0_4,.int .i64 a0_5,.int .i64 a0_6,.int .i64 a0_7,.int .i64 a0_8,.int .i64 a0_9] 35 (0,0)) (by (with_reducible repeat (first|refine blk_drewN ?_ _|refine blk_drew ?_|refine blk_alloc ?_ _));exact BK233.out) hb);have n1_:=Aside0.mk (below_step (by repeat (first|(with_reducible first|exact HB.out|apply below_alloc|apply pw_below_drewN|apply below_drew1|refine below_set ?_ GE233.out)|exact HB.out)) hb);have n2_:=Aside0.mk (hbox);have n3_:=Aside0.mk ((by rw [hg];exact (below_size (by repeat (first|(with_reducible first|exact HB.out|apply below_alloc|apply pw_below_drewN|apply below_drew1|refine below_set ?_ GE233.out)|exact HB.out))):w.heap.size≤gb234));have n4_:=Aside0.mk ((by rw [hg];exact (below_size (by repeat (first|(with_reducible first|exact HB.out|apply below_alloc|apply pw_below_drewN|apply below_drew1|refine below_set ?_ GE233.out)|exact HB.out))):w.heap.size≤gb234));have n5_:=Aside0.mk ((by rw [hg];exact Nat.ne_of_lt (blk_lt (g:=gb233) (o:=.cells #[.int .i64 a0_0,.bool a0_1,.int .i64 a0_2,.int .i64 a0_3,.int .i64 a0_4,.int .i64 a0_5,.int .i64 a0_6,.int .i64 a0_7,.int .i64 a0_8,.int .i64 a0_9] 35 (0,0)) (by (with_reducible repeat (first|refine blk_drewN ?_ _|refine blk_drew ?_|refine blk_alloc ?_ _));exact BK233.out)):gb233≠gb234));have n6_:=Aside0.mk ((by rw [hg];exact Nat.ne_of_gt (blk_lt (g:=gb233) (o:=.cells #[.int .i64 a0_0,.bool a0_1,.int .i64 a0_2,.int .i64 a0_3,.int .i64 a0_4,.int .i64 a0_5,.int .i64 a0_6,.int .i64 a0_7,.int .i64 a0_8,.int .i64 a0_9] 35 (0,0)) (by (with_reducible repeat (first|refine blk_drewN ?_ _|refine blk_drew ?_|refine blk_alloc ?_ _));exact BK233.out)):gb234≠gb233));clear BK233;clear HB;have BK233:=n0_;have HB:=n1_;have BK234:=n2_;have GW234:=n3_;have GE234:=n4_;have NB233_234:=n5_;have NB234_233:=n6_;clear n0_ n1_ n2_ n3_ n4_ n5_ n6_;clear hb hbox hg;have hnb25:=NB233_234.out;have hnc25:=NB234_233.out;have hcz26_0:w24.cell? ⟨gb233,0,none⟩=some (.int .i64 a0_0):=(blk_cell BK233.out 0).trans rfl;have hcz26_1:w24.cell? ⟨gb233,1,none⟩=some (.bool a0_1):=(blk_cell BK233.out 1).trans rfl;have hcz26_2:w24.cell? ⟨gb233,2,none⟩=some (.int .i64 a0_2):=(blk_cell BK233.out 2).trans rfl;have hcz26_3:w24.cell? ⟨gb233,3,none⟩=some (.int .i64 a0_3):=(blk_cell BK233.out 3).trans rfl;have hcz26_4:w24.cell? ⟨gb233,4,none⟩=some (.int .i64 a0_4):=(blk_cell BK233.out 4).trans rfl;have hcz26_5:w24.cell? ⟨gb233,5,none⟩=some (.int .i64 a0_5):=(blk_cell BK233.out 5).trans rfl;have hcz26_6:w24.cell? ⟨gb233,6,none⟩=some (.int .i64 a0_6):=(blk_cell BK233.out 6).trans rfl;have hcz26_7:w24.cell? ⟨gb233,7,none⟩=some (.int .i64 a0_7):=(blk_cell BK233.out 7).trans rfl;have hcz26_8:w24.cell? ⟨gb233,8,none⟩=some (.int .i64 a0_8):=(blk_cell BK233.out 8).trans rfl;have hcz26_9:w24.cell? ⟨gb233,9,none⟩=some (.int .i64 a0_9):=(blk_cell BK233.out 9).trans rfl;have hfz26_0:=blk_frozen BK233.out 0;have hfz26_1:=blk_frozen BK233.out 1;have hfz26_2:=blk_frozen BK233.out 2;have hfz26_3:=blk_frozen BK233.out 3;have hfz26_4:=blk_frozen BK233.out 4;have hfz26_5:=blk_frozen BK233.out 5;have hfz26_6:=blk_frozen BK233.out 6;have hfz26_7:=blk_frozen BK233.out 7;have hfz26_8:=blk_frozen BK233.out 8;have hfz26_9:=blk_frozen BK233.out 9;have hcz27_0:w24.cell? ⟨gb234,0,none⟩=some (.int .i64 a1_0):=(blk_cell BK234.out 0).trans rfl;have hcz27_1:w24.cell? ⟨gb234,1,none⟩=some (.bool a1_1):=(blk_cell BK234.out 1).trans rfl;have hcz27_2:w24.cell? ⟨gb234,2,none⟩=some (.int .i64 a1_2):=(blk_cell BK234.out 2).trans rfl;have hcz27_3:w24.cell? ⟨gb234,3,none⟩=some (.int .i64 a1_3):=(blk_cell BK234.out 3).trans rfl;have hcz27_4:w24.cell? ⟨gb234,4,none⟩=some (.int .i64 a1_4):=(blk_cell BK234.out 4).trans rfl;have hcz27_5:w24.cell? ⟨gb234,5,none⟩=some (.int .i64 a1_5):=(blk_cell BK234.out 5).trans rfl;have hcz27_6:w24.cell? ⟨gb234,6,none⟩=some (.int .i64 a1_6):=(blk_cell BK234.out 6).trans rfl;have hcz27_7:w24.cell? ⟨gb234,7,none⟩=some (.int .i64 a1_7):=(blk_cell BK234.out 7).trans rfl;have hcz27_8:w24.cell? ⟨gb234,8,none⟩=some (.int .i64 a1_8):=(blk_cell BK234.out 8).trans rfl;have hcz27_9:w24.cell? ⟨gb234,9,none⟩=some (.int .i64 a1_9):=(blk_cell BK234.out 9).trans rfl;have hfz27_0:=blk_frozen BK234.out 0;have hfz27_1:=blk_frozen BK234.out 1;have hfz27_2:=blk_frozen BK234.out 2;have hfz27_3:=blk_frozen BK234.out 3;have hfz27_4:=blk_frozen BK234.out 4;have hfz27_5:=blk_frozen BK234.out 5;have hfz27_6:=blk_frozen BK234.out 6;have hfz27_7:=blk_frozen BK234.out 7;have hfz27_8:=blk_frozen BK234.out 8;have hfz27_9:=blk_frozen BK234.out 9)|((with_reducible refine gate_callee (f:=43) rfl ?_);refine goesL_ (some 19) rfl rfl Tryz.func43 (by kernel_rfl) rfl #[.agg #[.int .i64 a0_2,.int .i64 a0_3,.int .i64 a0_4,.int .i64 a0_5],.agg #[.int .i64 a1_2,.int .i64 a1_3,.int .i64 a1_4,.int .i64 a1_5]] rfl zar ?_;(with_reducible refine (laws_eqCell.calls a0_2 a0_3 a0_4 a0_5 a1_2 a1_3 a1_4 a1_5 true _ A10.out).mono ?_);rintro e w28 ⟨rfl,hb⟩;refine ⟨_,rfl,?_⟩;have n0_:=Aside0.mk (blk_below (g:=gb233) (o:=.cells #[.int .i64 a0_0,.bool a0_1,.int .i64 a0_2,.int .i64 a0_3,.int .i64 a0_4,.int .i64 a0_5,.int .i64 a0_6,.int .i64 a0_7,.int .i64 a0_8,.int .i64 a0_9] 35 (0,0)) (by (with_reducible repeat (first|refine blk_drewN ?_ _|refine blk_drew ?_|refine blk_alloc ?_ _));exact BK233.out) hb);have n1_:=Aside0.mk (blk_below (g:=gb234) (o:=.cells #[.int .i64 a1_0,.bool a1_1,.int .i64 a1_2,.int .i64 a1_3,.int .i64 a1_4,.int .i64 a1_5,.int .i64 a1_6,.int .i64 a1_7,.int .i64 a1_8,.int .i64 a1_9] 35 (0,0)) (by (with_reducible repeat (first|refine blk_drewN ?_ _|refine blk_drew ?_|refine blk_alloc ?_ _));exact BK234.out) hb);have n2_:=Aside0.mk (below_step (by repeat (first|(with_reducible first|exact HB.out|apply below_alloc|apply pw_below_drewN|apply below_drew1|refine below_set ?_ GE233.out|refine below_set ?_ GE234.out)|exact HB.out)) hb);clear BK233;clear BK234;clear HB;have BK233:=n0_;have BK234:=n1_;have HB:=n2_;clear n0_ n1_ n2_;(try clear hb);(try clear hb2);(try clear hk);(try clear hi);have hcz29_0:w28.cell? ⟨gb233,0,none⟩=some (.int .i64 a0_0):=(blk_cell BK233.out 0).trans rfl;have hcz29_1:w28.cell? ⟨gb233,1,none⟩=some (.bool a0_1):=(blk_cell BK233.out 1).trans rfl;have hcz29_2:w28.cell? ⟨gb233,2,none⟩=some (.int .i64 a0_2):=(blk_cell BK233.out 2).trans rfl;have hcz29_3:w28.cell? ⟨gb233,3,none⟩=some (.int .i64 a0_3):=(blk_cell BK233.out 3).trans rfl;have hcz29_4:w28.cell? ⟨gb233,4,none⟩=some (.int .i64 a0_4):=(blk_cell BK233.out 4).trans rfl;have hcz29_5:w28.cell? ⟨gb233,5,none⟩=some (.int .i64 a0_5):=(blk_cell BK233.out 5).trans rfl;have hcz29_6:w28.cell? ⟨gb233,6,none⟩=some (.int .i64 a0_6):=(blk_cell BK233.out 6).trans rfl;have hcz29_7:w28.cell? ⟨gb233,7,none⟩=some (.int .i64 a0_7):=(blk_cell BK233.out 7).trans rfl;have hcz29_8:w28.cell? ⟨gb233,8,none⟩=some (.int .i64 a0_8):=(blk_cell BK233.out 8).trans rfl;have hcz29_9:w28.cell? ⟨gb233,9,none⟩=some (.int .i64 a0_9):=(blk_cell BK233.out 9).trans rfl;have hfz29_0:=blk_frozen BK233.out 0;have hfz29_1:=blk_frozen BK233.out 1;have hfz29_2:=blk_frozen BK233.out 2;have hfz29_3:=blk_frozen BK233.out 3;have hfz29_4:=blk_frozen BK233.out 4;have hfz29_5:=blk_frozen BK233.out 5;have hfz29_6:=blk_frozen BK233.out 6;have hfz29_7:=blk_frozen BK233.out 7;have hfz29_8:=blk_frozen BK233.out 8;have hfz29_9:=blk_frozen BK233.out 9;have hcz30_0:w28.cell? ⟨gb234,0,none⟩=some (.int .i64 a1_0):=(blk_cell BK234.out 0).trans rfl;have hcz30_1:w28.cell? ⟨gb234,1,none⟩=some (.bool a1_1):=(blk_cell BK234.out 1).trans rfl;have hcz30_2:w28.cell? ⟨gb234,2,none⟩=some (.int .i64 a1_2):=(blk_cell BK234.out 2).trans rfl;have hcz30_3:w28.cell? ⟨gb234,3,none⟩=some (.int .i64 a1_3):=(blk_cell BK234.out 3).trans rfl;have hcz30_4:w28.cell? ⟨gb234,4,none⟩=some (.int .i64 a1_4):=(blk_cell BK234.out 4).trans rfl;have hcz30_5:w28.cell? ⟨gb234,5,none⟩=some (.int .i64 a1_5):=(blk_cell BK234.out 5).trans rfl;have hcz30_6:w28.cell? ⟨gb234,6,none⟩=some (.int .i64 a1_6):=(blk_cell BK234.out 6).trans rfl;have hcz30_7:w28.cell? ⟨gb234,7,none⟩=some (.int .i64 a1_7):=(blk_cell BK234.out 7).trans rfl;have hcz30_8:w28.cell? ⟨gb234,8,none⟩=some (.int .i64 a1_8):=(blk_cell BK234.out 8).trans rfl;have hcz30_9:w28.cell? ⟨gb234,9,none⟩=some (.int .i64 a1_9):=(blk_cell BK234.out 9).trans rfl;have hfz30_0:=blk_frozen BK234.out 0;have hfz30_1:=blk_frozen BK234.out 1;have hfz30_2:=blk_frozen BK234.out 2;have hfz30_3:=blk_frozen BK234.out 3;have hfz30_4:=blk_frozen BK234.out 4;have hfz30_5:=blk_frozen BK234.out 5;have hfz30_6:=blk_frozen BK234.out 6;have hfz30_7:=blk_frozen BK234.out 7;have hfz30_8:=blk_frozen BK234.out 8;have hfz30_9:=blk_frozen BK234.out 9)|((with_reducible refine gate_callee (f:=43) rfl ?_);refine goesL_ (some 25) rfl rfl Tryz.func43 (by kernel_rfl) rfl #[.agg #[.int .i64 a0_6,.int .i64 a0_7,.int .i64 a0_8,.int .i64 a0_9],.agg #[.int .i64 a1_6,.int .i64 a1_7,.int .i64 a1_8,.int .i64 a1_9]] rfl zar ?_;(with_reducible refine (laws_eqCell.calls a0_6 a0_7 a0_8 a0_9 a1_6 a1_7 a1_8 a1_9 false _ A12.out).mono ?_);rintro e w31 ⟨rfl,hb⟩;refine ⟨_,rfl,?_⟩;have n0_:=Aside0.mk (blk_below (g:=gb233) (o:=.cells #[.int .i64 a0_0,.bool a0_1,.int .i64 a0_2,.int .i64 a0_3,.int .i64 a0_4,.int .i64 a0_5,.int .i64 a0_6,.int .i64 a0_7,.int .i64 a0_8,.int .i64 a0_9] 35 (0,0)) (by (with_reducible repeat (first|refine blk_drewN ?_ _|refine blk_drew ?_|refine blk_alloc ?_ _));exact BK233.out) hb);have n1_:=Aside0.mk (blk_below (g:=gb234) (o:=.cells #[.int .i64 a1_0,.bool a1_1,.int .i64 a1_2,.int .i64 a1_3,.int .i64 a1_4,.int .i64 a1_5,.int .i64 a1_6,.int .i64 a1_7,.int .i64 a1_8,.int .i64 a1_9] 35 (0,0)) (by (with_reducible repeat (first|refine blk_drewN ?_ _|refine blk_drew ?_|refine blk_alloc ?_ _));exact BK234.out) hb);have n2_:=Aside0.mk (below_step (by repeat (first|(with_reducible first|exact HB.out|apply below_alloc|apply pw_below_drewN|apply below_drew1|refine below_set ?_ GE233.out|refine below_set ?_ GE234.out)|exact HB.out)) hb);clear BK233;clear BK234;clear HB;have BK233:=n0_;have BK234:=n1_;have HB:=n2_;clear n0_ n1_ n2_;(try clear hb);(try clear hb2);(try clear hk);(try clear hi)))
     go_ret
     exact ⟨by first|rfl|(simp [errW_none,errW_some] <;> rfl)|(simp [*,errW_none,errW_some] <;> rfl),by repeat (first|(with_reducible first|exact HB.out|apply below_alloc|apply pw_below_drewN|apply below_drew1|refine below_set ?_ GE233.out|refine below_set ?_ GE234.out)|exact HB.out)⟩
   ·replace c11:=Bool.eq_false_iff.mpr c11
    subst c11
    have H1:(some false)=some r:=by rw [if_neg (show ¬ (false=true) by decide)] at H;exact H
    clear H
    have H:=H1
    clear H1
    obtain rfl:=Option.some.inj H
    go_enter Tryz.func26,Tryz.ntmps26
    go_wp2_with (first|((with_reducible refine gate_dst (N:=2) rfl ?_);refine box_event ?hg (N:=2) ?hd (cs:=#[.int .i64 a0_0,.bool a0_1,.int .i64 a0_2,.int .i64 a0_3,.int .i64 a0_4,.int .i64 a0_5,.int .i64 a0_6,.int .i64 a0_7,.int .i64 a0_8,.int .i64 a0_9]) (t:=35) ?hr ?_;(case hd=>rfl);(case hg=>rfl);(case hr=>first|(go_simp;done)|(go_simp;rfl));intro gb233 hg w32 hbox hb;have n0_:=Aside0.mk (below_step zhb hb);have n1_:=Aside0.mk (hbox);have n2_:=Aside0.mk ((by rw [hg];exact (below_size zhb):w.heap.size≤gb233));have n3_:=Aside0.mk ((by rw [hg];exact (below_size zhb):w.heap.size≤gb233));clear HB;have HB:=n0_;have BK233:=n1_;have GW233:=n2_;have GE233:=n3_;clear n0_ n1_ n2_ n3_;clear hb hbox hg)|((with_reducible refine gate_dst (N:=3) rfl ?_);refine box_event ?hg (N:=3) ?hd (cs:=#[.int .i64 a1_0,.bool a1_1,.int .i64 a1_2,.int .i64 a1_3,.int .i64 a1_4,.int .i64 a1_5,.int .i64 a1_6,.int .i64 a1_7,.int .i64 a1_8,.int .i64 a1_9]) (t:=35) ?hr ?_;(case hd=>rfl);(case hg=>rfl);(case hr=>first|(go_simp;done)|(go_simp;rfl));intro gb234 hg w33 hbox hb;have n0_:=Aside0.mk (blk_below (g:=gb233) (o:=.cells #[.int .i64 a0_0,.bool a0_1,.int .i64 a0_2,.int .i64 a0_3,.int .i64 a0_4,.int .i64 a0_5,.int .i64 a0_6,.int .i64 a0_7,.int .i64 a0_8,.int .i64 a0_9] 35 (0,0)) (by (with_reducible repeat (first|refine blk_drewN ?_ _|refine blk_drew ?_|refine blk_alloc ?_ _));exact BK233.out) hb);have n1_:=Aside0.mk (below_step (by repeat (first|(with_reducible first|exact HB.out|apply below_alloc|apply pw_below_drewN|apply below_drew1|refine below_set ?_ GE233.out)|exact HB.out)) hb);have n2_:=Aside0.mk (hbox);have n3_:=Aside0.mk ((by rw [hg];exact (below_size (by repeat (first|(with_reducible first|exact HB.out|apply below_alloc|apply pw_below_drewN|apply below_drew1|refine below_set ?_ GE233.out)|exact HB.out))):w.heap.size≤gb234));have n4_:=Aside0.mk ((by rw [hg];exact (below_size (by repeat (first|(with_reducible first|exact HB.out|apply below_alloc|apply pw_below_drewN|apply below_drew1|refine below_set ?_ GE233.out)|exact HB.out))):w.heap.size≤gb234));have n5_:=Aside0.mk ((by rw [hg];exact Nat.ne_of_lt (blk_lt (g:=gb233) (o:=.cells #[.int .i64 a0_0,.bool a0_1,.int .i64 a0_2,.int .i64 a0_3,.int .i64 a0_4,.int .i64 a0_5,.int .i64 a0_6,.int .i64 a0_7,.int .i64 a0_8,.int .i64 a0_9] 35 (0,0)) (by (with_reducible repeat (first|refine blk_drewN ?_ _|refine blk_drew ?_|refine blk_alloc ?_ _));exact BK233.out)):gb233≠gb234));have n6_:=Aside0.mk ((by rw [hg];exact Nat.ne_of_gt (blk_lt (g:=gb233) (o:=.cells #[.int .i64 a0_0,.bool a0_1,.int .i64 a0_2,.int .i64 a0_3,.int .i64 a0_4,.int .i64 a0_5,.int .i64 a0_6,.int .i64 a0_7,.int .i64 a0_8,.int .i64 a0_9] 35 (0,0)) (by (with_reducible repeat (first|refine blk_drewN ?_ _|refine blk_drew ?_|refine blk_alloc ?_ _));exact BK233.out)):gb234≠gb233));clear BK233;clear HB;have BK233:=n0_;have HB:=n1_;have BK234:=n2_;have GW234:=n3_;have GE234:=n4_;have NB233_234:=n5_;have NB234_233:=n6_;clear n0_ n1_ n2_ n3_ n4_ n5_ n6_;clear hb hbox hg;have hnb34:=NB233_234.out;have hnc34:=NB234_233.out;have hcz35_0:w33.cell? ⟨gb233,0,none⟩=some (.int .i64 a0_0):=(blk_cell BK233.out 0).trans rfl;have hcz35_1:w33.cell? ⟨gb233,1,none⟩=some (.bool a0_1):=(blk_cell BK233.out 1).trans rfl;have hcz35_2:w33.cell? ⟨gb233,2,none⟩=some (.int .i64 a0_2):=(blk_cell BK233.out 2).trans rfl;have hcz35_3:w33.cell? ⟨gb233,3,none⟩=some (.int .i64 a0_3):=(blk_cell BK233.out 3).trans rfl;have hcz35_4:w33.cell? ⟨gb233,4,none⟩=some (.int .i64 a0_4):=(blk_cell BK233.out 4).trans rfl;have hcz35_5:w33.cell? ⟨gb233,5,none⟩=some (.int .i64 a0_5):=(blk_cell BK233.out 5).trans rfl;have hcz35_6:w33.cell? ⟨gb233,6,none⟩=some (.int .i64 a0_6):=(blk_cell BK233.out 6).trans rfl;have hcz35_7:w33.cell? ⟨gb233,7,none⟩=some (.int .i64 a0_7):=(blk_cell BK233.out 7).trans rfl;have hcz35_8:w33.cell? ⟨gb233,8,none⟩=some (.int .i64 a0_8):=(blk_cell BK233.out 8).trans rfl;have hcz35_9:w33.cell? ⟨gb233,9,none⟩=some (.int .i64 a0_9):=(blk_cell BK233.out 9).trans rfl;have hfz35_0:=blk_frozen BK233.out 0;have hfz35_1:=blk_frozen BK233.out 1;have hfz35_2:=blk_frozen BK233.out 2;have hfz35_3:=blk_frozen BK233.out 3;have hfz35_4:=blk_frozen BK233.out 4;have hfz35_5:=blk_frozen BK233.out 5;have hfz35_6:=blk_frozen BK233.out 6;have hfz35_7:=blk_frozen BK233.out 7;have hfz35_8:=blk_frozen BK233.out 8;have hfz35_9:=blk_frozen BK233.out 9;have hcz36_0:w33.cell? ⟨gb234,0,none⟩=some (.int .i64 a1_0):=(blk_cell BK234.out 0).trans rfl;have hcz36_1:w33.cell? ⟨gb234,1,none⟩=some (.bool a1_1):=(blk_cell BK234.out 1).trans rfl;have hcz36_2:w33.cell? ⟨gb234,2,none⟩=some (.int .i64 a1_2):=(blk_cell BK234.out 2).trans rfl;have hcz36_3:w33.cell? ⟨gb234,3,none⟩=some (.int .i64 a1_3):=(blk_cell BK234.out 3).trans rfl;have hcz36_4:w33.cell? ⟨gb234,4,none⟩=some (.int .i64 a1_4):=(blk_cell BK234.out 4).trans rfl;have hcz36_5:w33.cell? ⟨gb234,5,none⟩=some (.int .i64 a1_5):=(blk_cell BK234.out 5).trans rfl;have hcz36_6:w33.cell? ⟨gb234,6,none⟩=some (.int .i64 a1_6):=(blk_cell BK234.out 6).trans rfl;have hcz36_7:w33.cell? ⟨gb234,7,none⟩=some (.int .i64 a1_7):=(blk_cell BK234.out 7).trans rfl;have hcz36_8:w33.cell? ⟨gb234,8,none⟩=some (.int .i64 a1_8):=(blk_cell BK234.out 8).trans rfl;have hcz36_9:w33.cell? ⟨gb234,9,none⟩=some (.int .i64 a1_9):=(blk_cell BK234.out 9).trans rfl;have hfz36_0:=blk_frozen BK234.out 0;have hfz36_1:=blk_frozen BK234.out 1;have hfz36_2:=blk_frozen BK234.out 2;have hfz36_3:=blk_frozen BK234.out 3;have hfz36_4:=blk_frozen BK234.out 4;have hfz36_5:=blk_frozen BK234.out 5;have hfz36_6:=blk_frozen BK234.out 6;have hfz36_7:=blk_frozen BK234.out 7;have hfz36_8:=blk_frozen BK234.out 8;have hfz36_9:=blk_frozen BK234.out 9)|((with_reducible refine gate_callee (f:=43) rfl ?_);refine goesL_ (some 19) rfl rfl Tryz.func43 (by kernel_rfl) rfl #[.agg #[.int .i64 a0_2,.int .i64 a0_3,.int .i64 a0_4,.int .i64 a0_5],.agg #[.int .i64 a1_2,.int .i64 a1_3,.int .i64 a1_4,.int .i64 a1_5]] rfl zar ?_;(with_reducible refine (laws_eqCell.calls a0_2 a0_3 a0_4 a0_5 a1_2 a1_3 a1_4 a1_5 false _ A10.out).mono ?_);rintro e w37 ⟨rfl,hb⟩;refine ⟨_,rfl,?_⟩;have n0_:=Aside0.mk (blk_below (g:=gb233) (o:=.cells #[.int .i64 a0_0,.bool a0_1,.int .i64 a0_2,.int .i64 a0_3,.int .i64 a0_4,.int .i64 a0_5,.int .i64 a0_6,.int .i64 a0_7,.int .i64 a0_8,.int .i64 a0_9] 35 (0,0)) (by (with_reducible repeat (first|refine blk_drewN ?_ _|refine blk_drew ?_|refine blk_alloc ?_ _));exact BK233.out) hb);have n1_:=Aside0.mk (blk_below (g:=gb234) (o:=.cells #[.int .i64 a1_0,.bool a1_1,.int .i64 a1_2,.int .i64 a1_3,.int .i64 a1_4,.int .i64 a1_5,.int .i64 a1_6,.int .i64 a1_7,.int .i64 a1_8,.int .i64 a1_9] 35 (0,0)) (by (with_reducible repeat (first|refine blk_drewN ?_ _|refine blk_drew ?_|refine blk_alloc ?_ _));exact BK234.out) hb);have n2_:=Aside0.mk (below_step (by repeat (first|(with_reducible first|exact HB.out|apply below_alloc|apply pw_below_drewN|apply below_drew1|refine below_set ?_ GE233.out|refine below_set ?_ GE234.out)|exact HB.out)) hb);clear BK233;clear BK234;clear HB;have BK233:=n0_;have BK234:=n1_;have HB:=n2_;clear n0_ n1_ n2_;(try clear hb);(try clear hb2);(try clear hk);(try clear hi)))
    go_ret
    exact ⟨by first|rfl|(simp [errW_none,errW_some] <;> rfl)|(simp [*,errW_none,errW_some] <;> rfl),by repeat (first|(with_reducible first|exact HB.out|apply below_alloc|apply pw_below_drewN|apply below_drew1|refine below_set ?_ GE233.out|refine below_set ?_ GE234.out)|exact HB.out)⟩
 ·rw [if_neg c3] at H
  have c3b0:(a0_0 == a1_0)=false:=beq_eq_false_iff_ne.mpr c3
  have c3b1:(a0_0 != a1_0)=true:=bne_iff_ne.mpr c3
  obtain rfl:=Option.some.inj H
  go_enter Tryz.func26,Tryz.ntmps26
  go_wp2_with (first|((with_reducible refine gate_dst (N:=2) rfl ?_);refine box_event ?hg (N:=2) ?hd (cs:=#[.int .i64 a0_0,.bool a0_1,.int .i64 a0_2,.int .i64 a0_3,.int .i64 a0_4,.int .i64 a0_5,.int .i64 a0_6,.int .i64 a0_7,.int .i64 a0_8,.int .i64 a0_9]) (t:=35) ?hr ?_;(case hd=>rfl);(case hg=>rfl);(case hr=>first|(go_simp;done)|(go_simp;rfl));intro gb233 hg w38 hbox hb;have n0_:=Aside0.mk (below_step zhb hb);have n1_:=Aside0.mk (hbox);have n2_:=Aside0.mk ((by rw [hg];exact (below_size zhb):w.heap.size≤gb233));have n3_:=Aside0.mk ((by rw [hg];exact (below_size zhb):w.heap.size≤gb233));clear HB;have HB:=n0_;have BK233:=n1_;have GW233:=n2_;have GE233:=n3_;clear n0_ n1_ n2_ n3_;clear hb hbox hg)|((with_reducible refine gate_dst (N:=3) rfl ?_);refine box_event ?hg (N:=3) ?hd (cs:=#[.int .i64 a1_0,.bool a1_1,.int .i64 a1_2,.int .i64 a1_3,.int .i64 a1_4,.int .i64 a1_5,.int .i64 a1_6,.int .i64 a1_7,.int .i64 a1_8,.int .i64 a1_9]) (t:=35) ?hr ?_;(case hd=>rfl);(case hg=>rfl);(case hr=>first|(go_simp;done)|(go_simp;rfl));intro gb234 hg w39 hbox hb;have n0_:=Aside0.mk (blk_below (g:=gb233) (o:=.cells #[.int .i64 a0_0,.bool a0_1,.int .i64 a0_2,.int .i64 a0_3,.int .i64 a0_4,.int .i64 a0_5,.int .i64 a0_6,.int .i64 a0_7,.int .i64 a0_8,.int .i64 a0_9] 35 (0,0)) (by (with_reducible repeat (first|refine blk_drewN ?_ _|refine blk_drew ?_|refine blk_alloc ?_ _));exact BK233.out) hb);have n1_:=Aside0.mk (below_step (by repeat (first|(with_reducible first|exact HB.out|apply below_alloc|apply pw_below_drewN|apply below_drew1|refine below_set ?_ GE233.out)|exact HB.out)) hb);have n2_:=Aside0.mk (hbox);have n3_:=Aside0.mk ((by rw [hg];exact (below_size (by repeat (first|(with_reducible first|exact HB.out|apply below_alloc|apply pw_below_drewN|apply below_drew1|refine below_set ?_ GE233.out)|exact HB.out))):w.heap.size≤gb234));have n4_:=Aside0.mk ((by rw [hg];exact (below_size (by repeat (first|(with_reducible first|exact HB.out|apply below_alloc|apply pw_below_drewN|apply below_drew1|refine below_set ?_ GE233.out)|exact HB.out))):w.heap.size≤gb234));have n5_:=Aside0.mk ((by rw [hg];exact Nat.ne_of_lt (blk_lt (g:=gb233) (o:=.cells #[.int .i64 a0_0,.bool a0_1,.int .i64 a0_2,.int .i64 a0_3,.int .i64 a0_4,.int .i64 a0_5,.int .i64 a0_6,.int .i64 a0_7,.int .i64 a0_8,.int .i64 a0_9] 35 (0,0)) (by (with_reducible repeat (first|refine blk_drewN ?_ _|refine blk_drew ?_|refine blk_alloc ?_ _));exact BK233.out)):gb233≠gb234));have n6_:=Aside0.mk ((by rw [hg];exact Nat.ne_of_gt (blk_lt (g:=gb233) (o:=.cells #[.int .i64 a0_0,.bool a0_1,.int .i64 a0_2,.int .i64 a0_3,.int .i64 a0_4,.int .i64 a0_5,.int .i64 a0_6,.int .i64 a0_7,.int .i64 a0_8,.int .i64 a0_9] 35 (0,0)) (by (with_reducible repeat (first|refine blk_drewN ?_ _|refine blk_drew ?_|refine blk_alloc ?_ _));exact BK233.out)):gb234≠gb233));clear BK233;clear HB;have BK233:=n0_;have HB:=n1_;have BK234:=n2_;have GW234:=n3_;have GE234:=n4_;have NB233_234:=n5_;have NB234_233:=n6_;clear n0_ n1_ n2_ n3_ n4_ n5_ n6_;clear hb hbox hg;have hnb40:=NB233_234.out;have hnc40:=NB234_233.out;have hcz41_0:w39.cell? ⟨gb233,0,none⟩=some (.int .i64 a0_0):=(blk_cell BK233.out 0).trans rfl;have hcz41_1:w39.cell? ⟨gb233,1,none⟩=some (.bool a0_1):=(blk_cell BK233.out 1).trans rfl;have hcz41_2:w39.cell? ⟨gb233,2,none⟩=some (.int .i64 a0_2):=(blk_cell BK233.out 2).trans rfl;have hcz41_3:w39.cell? ⟨gb233,3,none⟩=some (.int .i64 a0_3):=(blk_cell BK233.out 3).trans rfl;have hcz41_4:w39.cell? ⟨gb233,4,none⟩=some (.int .i64 a0_4):=(blk_cell BK233.out 4).trans rfl;have hcz41_5:w39.cell? ⟨gb233,5,none⟩=some (.int .i64 a0_5):=(blk_cell BK233.out 5).trans rfl;have hcz41_6:w39.cell? ⟨gb233,6,none⟩=some (.int .i64 a0_6):=(blk_cell BK233.out 6).trans rfl;have hcz41_7:w39.cell? ⟨gb233,7,none⟩=some (.int .i64 a0_7):=(blk_cell BK233.out 7).trans rfl;have hcz41_8:w39.cell? ⟨gb233,8,none⟩=some (.int .i64 a0_8):=(blk_cell BK233.out 8).trans rfl;have hcz41_9:w39.cell? ⟨gb233,9,none⟩=some (.int .i64 a0_9):=(blk_cell BK233.out 9).trans rfl;have hfz41_0:=blk_frozen BK233.out 0;have hfz41_1:=blk_frozen BK233.out 1;have hfz41_2:=blk_frozen BK233.out 2;have hfz41_3:=blk_frozen BK233.out 3;have hfz41_4:=blk_frozen BK233.out 4;have hfz41_5:=blk_frozen BK233.out 5;have hfz41_6:=blk_frozen BK233.out 6;have hfz41_7:=blk_frozen BK233.out 7;have hfz41_8:=blk_frozen BK233.out 8;have hfz41_9:=blk_frozen BK233.out 9;have hcz42_0:w39.cell? ⟨gb234,0,none⟩=some (.int .i64 a1_0):=(blk_cell BK234.out 0).trans rfl;have hcz42_1:w39.cell? ⟨gb234,1,none⟩=some (.bool a1_1):=(blk_cell BK234.out 1).trans rfl;have hcz42_2:w39.cell? ⟨gb234,2,none⟩=some (.int .i64 a1_2):=(blk_cell BK234.out 2).trans rfl;have hcz42_3:w39.cell? ⟨gb234,3,none⟩=some (.int .i64 a1_3):=(blk_cell BK234.out 3).trans rfl;have hcz42_4:w39.cell? ⟨gb234,4,none⟩=some (.int .i64 a1_4):=(blk_cell BK234.out 4).trans rfl;have hcz42_5:w39.cell? ⟨gb234,5,none⟩=some (.int .i64 a1_5):=(blk_cell BK234.out 5).trans rfl;have hcz42_6:w39.cell? ⟨gb234,6,none⟩=some (.int .i64 a1_6):=(blk_cell BK234.out 6).trans rfl;have hcz42_7:w39.cell? ⟨gb234,7,none⟩=some (.int .i64 a1_7):=(blk_cell BK234.out 7).trans rfl;have hcz42_8:w39.cell? ⟨gb234,8,none⟩=some (.int .i64 a1_8):=(blk_cell BK234.out 8).trans rfl;have hcz42_9:w39.cell? ⟨gb234,9,none⟩=some (.int .i64 a1_9):=(blk_cell BK234.out 9).trans rfl;have hfz42_0:=blk_frozen BK234.out 0;have hfz42_1:=blk_frozen BK234.out 1;have hfz42_2:=blk_frozen BK234.out 2;have hfz42_3:=blk_frozen BK234.out 3;have hfz42_4:=blk_frozen BK234.out 4;have hfz42_5:=blk_frozen BK234.out 5;have hfz42_6:=blk_frozen BK234.out 6;have hfz42_7:=blk_frozen BK234.out 7;have hfz42_8:=blk_frozen BK234.out 8;have hfz42_9:=blk_frozen BK234.out 9))
  go_ret
  exact ⟨by first|rfl|(simp [errW_none,errW_some] <;> rfl)|(simp [*,errW_none,errW_some] <;> rfl),by repeat (first|(with_reducible first|exact HB.out|apply below_alloc|apply pw_below_drewN|apply below_drew1|refine below_set ?_ GE233.out|refine below_set ?_ GE234.out)|exact HB.out)⟩

/-! ### laws_eqCellS: function 27 -/
def laws_eqCellS.l0:Nat→List (S33)→List (S33)→Int→Option (Bool)
 | 0,_,_,_=>none
 | k + 1,x0,x1,x5=>if x5 < (x0.length:Int) then (if 0≤x5 then (if x5 < (x1.length:Int) then ((laws_eqCell.f ((rd_T33 x0 x5).f0) ((rd_T33 x0 x5).f1) ((rd_T33 x0 x5).f2) ((rd_T33 x0 x5).f3) ((rd_T33 x1 x5).f0) ((rd_T33 x1 x5).f1) ((rd_T33 x1 x5).f2) ((rd_T33 x1 x5).f3)).bind fun t239=>(if t239=true then (laws_eqCellS.l0 k x0 x1 (wrap64 (x5 + 1))) else (some false))) else (none)) else (none)) else (some true)
def laws_eqCellS.f (k:Nat) (l0:List (S33)) (l1:List (S33)):Option (Bool):=if (l0.length:Int)=(l1.length:Int) then (laws_eqCellS.l0 k l0 l1 0) else (some false)
theorem laws_eqCellS.mono_l : ∀ k,(∀ y0 y1 y2,LeO (laws_eqCellS.l0 k y0 y1 y2) (laws_eqCellS.l0 (k + 1) y0 y1 y2))
 | 0=>fun _ _ _ r h=>by simp [laws_eqCellS.l0] at h
 | k + 1=>by
  have ih0:=laws_eqCellS.mono_l k
  ·intro y0 y1 y2
   unfold laws_eqCellS.l0
   repeat' first
   | (with_reducible exact ih0 _ _ _)
   | (with_reducible exact LeO.refl _)
   | (with_reducible exact LeO.none _)
   | (with_reducible refine LeO.ite ?_ ?_)
   | (with_reducible refine LeO.bind ?_ (fun _=>?_))
   | exact LeO.none _
   | refine LeO.ite ?_ ?_
   | refine LeO.bind ?_ (fun _=>?_)
theorem laws_eqCellS.mono : ∀ a0 a1 k,LeO (laws_eqCellS.f k a0 a1) (laws_eqCellS.f (k + 1) a0 a1):=by
 intro a0 a1 k
 have ih0:=laws_eqCellS.mono_l k
 unfold laws_eqCellS.f
 repeat' first
   | (with_reducible exact ih0 _ _ _)
   | (with_reducible exact LeO.refl _)
   | (with_reducible exact LeO.none _)
   | (with_reducible refine LeO.ite ?_ ?_)
   | (with_reducible refine LeO.bind ?_ (fun _=>?_))
   | exact LeO.none _
   | refine LeO.ite ?_ ?_
   | refine LeO.bind ?_ (fun _=>?_)
def laws_eqCellS.T6:Bool × List (List Nat × List Nat):=(true,[([],[]),([],[]),([0,1],[0,1]),([2],[2]),([],[]),([],[]),([4,5],[4,5]),([6],[6]),([3,7],[3,7]),([8],[8])])
def laws_eqCellS.B6:List Nat:=[0,0,3,7,0,0,48,112,255,511]
theorem laws_eqCellS.tab6:rtab .any (opsOf Tryz.f27 6)=laws_eqCellS.T6:=by kernel_rfl
theorem laws_eqCellS.bits6:waitsOk laws_eqCellS.T6.2 laws_eqCellS.B6=true:=by kernel_rfl
set_option maxHeartbeats 8000000 in
set_option maxRecDepth 100000 in
theorem laws_eqCellS.calls (k:Nat) (A0:Option Addr) (c0:Nat) (l0:List (S33)) (A1:Option Addr) (c1:Nat) (l1:List (S33)) (r:Bool) (w:World) (hr0:Kd.C k33 w A0 l0.length l0) (hc0:l0.length≤c0) (hr1:Kd.C k33 w A1 l1.length l1) (hc1:l1.length≤c1) (h:laws_eqCellS.f k l0 l1=some r) :
  Calls Tryz.prog 27 #[.slice A0 l0.length c0,.slice A1 l1.length c1] w fun e w'=>e=.returned (.bool r)∧Below w.heap.size w w':=by
 have hu33:=Tryz.underlying33
 have HR0:=Aside0.mk hr0
 have HC0:=Aside0.mk hc0
 clear hr0 hc0
 have HR1:=Aside0.mk hr1
 have HC1:=Aside0.mk hc1
 clear hr1 hc1
 have HB:=Aside0.mk (Below.refl w.heap.size w)
 have H:(if (l0.length:Int)=(l1.length:Int) then (laws_eqCellS.l0 k l0 l1 0) else (some false))=some r:=h
 clear h
 by_cases c3:(l0.length:Int)=(l1.length:Int)
 ·rw [if_pos c3] at H
  have c3b0:((l0.length:Int) == (l1.length:Int))=true:=beq_iff_eq.mpr c3
  have c3b1:((l0.length:Int) != (l1.length:Int))=false:=bne_eq_false_iff_eq.mpr c3
  have c3b2:(l0.length == l1.length)=true:=by first|simpa using c3|(simp at c3 ⊢;omega)
  clear c3
  have H':=Aside0.mk H
  clear H
  go_enter Tryz.func27,Tryz.ntmps27
  go_wp2
  go_loopg [5] k (fun kq v5 w'=>∃ (x5_1:Int),v5=.int .i64 x5_1∧Aside0 (laws_eqCellS.l0 kq l0 l1 x5_1=some r)∧Aside0 (kq≤k)∧Aside0 (Below w.heap.size w w'))
  case atStart=>exact ⟨(0),(by first|rfl|(simp;done)|(simp [*];done)),H',⟨Nat.le_refl _⟩,⟨zhb⟩⟩
  case round =>
   clear H'
   try clear c1
   try clear c2
   try clear p2
   try clear c3
   try clear c3b0
   try clear c3b1
   try clear c3b2
   obtain ⟨x5_1,rfl,HA,HK1,HB⟩:=hrel
   cases gk with
   | zero=>exact absurd HA.out (by simp [laws_eqCellS.l0])
   | succ k1 =>
    have H:=HA.out
    clear HA
    simp only [laws_eqCellS.l0] at H
    by_cases c4:x5_1 < (l0.length:Int)
    ·rw [if_pos c4] at H
     have c4b0:decide (x5_1 < (l0.length:Int))=true:=decide_eq_true c4
     clear c4
     by_cases c5:0≤x5_1
     ·rw [if_pos c5] at H
      have c5b0:decide (0≤x5_1)=true:=decide_eq_true c5
      clear c5
      by_cases c6:x5_1 < (l1.length:Int)
      ·rw [if_pos c6] at H
       have c6b0:decide (x5_1 < (l1.length:Int))=true:=decide_eq_true c6
       clear c6
       replace H:=Option.bind_eq_some_iff.mp H
       obtain ⟨t239,A70,H⟩:=H
       (try dsimp only at H)
       have A7:=Aside0.mk A70
       clear A70
       by_cases c8:t239=true
       ·subst c8
        have H1:(laws_eqCellS.l0 k1 l0 l1 (wrap64 (x5_1 + 1)))=some r:=by rw [if_pos rfl] at H;exact H
        clear H
        have H:=H1
        clear H1
        have H':=Aside0.mk H
        clear H
        try go_wp2
        have n0_:=Aside0.mk (below_drew1 HB.out)
        clear HB
        have HB:=n0_
        clear n0_
        have p237:0≤(x5_1:Int):=zod
        have q237:x5_1 < (l0.length:Int):=zod
        obtain ⟨ad237,e237,hx237_0,hx237_1,hx237_2,hx237_3⟩:=at_T33 HR0.out x5_1 p237 q237
        have hw237_3:=hx237_3
        have hw237_2:=hx237_2
        have hw237_1:=hx237_1
        have hw237_0:=hx237_0
        cases e237
        replace hx237_0:=(HB.out.cell (World.block_lt_of_cell? w _ hx237_0)).trans hx237_0
        replace hx237_1:=(HB.out.cell (World.block_lt_of_cell? w _ hx237_1)).trans hx237_1
        replace hx237_2:=(HB.out.cell (World.block_lt_of_cell? w _ hx237_2)).trans hx237_2
        replace hx237_3:=(HB.out.cell (World.block_lt_of_cell? w _ hx237_3)).trans hx237_3
        replace p237:=eq_true p237
        replace q237:=eq_true q237
        have p238:0≤(x5_1:Int):=zod
        have q238:x5_1 < (l1.length:Int):=zod
        obtain ⟨ad238,e238,hx238_0,hx238_1,hx238_2,hx238_3⟩:=at_T33 HR1.out x5_1 p238 q238
        have hw238_3:=hx238_3
        have hw238_2:=hx238_2
        have hw238_1:=hx238_1
        have hw238_0:=hx238_0
        cases e238
        replace hx238_0:=(HB.out.cell (World.block_lt_of_cell? w _ hx238_0)).trans hx238_0
        replace hx238_1:=(HB.out.cell (World.block_lt_of_cell? w _ hx238_1)).trans hx238_1
        replace hx238_2:=(HB.out.cell (World.block_lt_of_cell? w _ hx238_2)).trans hx238_2
        replace hx238_3:=(HB.out.cell (World.block_lt_of_cell? w _ hx238_3)).trans hx238_3
        replace p238:=eq_true p238
        replace q238:=eq_true q238
        refine start_ (n:=10) (S:=fun w'=>w'.cell? (ad237.add ((x5_1).toNat * 4))=some (.int .i64 ((rd_T33 l0 x5_1).f0))∧w'.cell? ⟨(ad237.add ((x5_1).toNat * 4)).block,(ad237.add ((x5_1).toNat * 4)).off + 1,none⟩=some (.int .i64 ((rd_T33 l0 x5_1).f1))∧w'.cell? ⟨(ad237.add ((x5_1).toNat * 4)).block,(ad237.add ((x5_1).toNat * 4)).off + 2,none⟩=some (.int .i64 ((rd_T33 l0 x5_1).f2))∧w'.cell? ⟨(ad237.add ((x5_1).toNat * 4)).block,(ad237.add ((x5_1).toNat * 4)).off + 3,none⟩=some (.int .i64 ((rd_T33 l0 x5_1).f3))∧w'.cell? (ad238.add ((x5_1).toNat * 4))=some (.int .i64 ((rd_T33 l1 x5_1).f0))∧w'.cell? ⟨(ad238.add ((x5_1).toNat * 4)).block,(ad238.add ((x5_1).toNat * 4)).off + 1,none⟩=some (.int .i64 ((rd_T33 l1 x5_1).f1))∧w'.cell? ⟨(ad238.add ((x5_1).toNat * 4)).block,(ad238.add ((x5_1).toNat * 4)).off + 2,none⟩=some (.int .i64 ((rd_T33 l1 x5_1).f2))∧w'.cell? ⟨(ad238.add ((x5_1).toNat * 4)).block,(ad238.add ((x5_1).toNat * 4)).off + 3,none⟩=some (.int .i64 ((rd_T33 l1 x5_1).f3))) (ds:=[]) #[X,X,X,X,X,X,X,X,X,X] (by kernel_rfl) rfl rfl ⟨((HB.out.cell (World.block_lt_of_cell? w _ hw237_0)).trans hw237_0),((HB.out.cell (World.block_lt_of_cell? w _ hw237_1)).trans hw237_1),((HB.out.cell (World.block_lt_of_cell? w _ hw237_2)).trans hw237_2),((HB.out.cell (World.block_lt_of_cell? w _ hw237_3)).trans hw237_3),((HB.out.cell (World.block_lt_of_cell? w _ hw238_0)).trans hw238_0),((HB.out.cell (World.block_lt_of_cell? w _ hw238_1)).trans hw238_1),((HB.out.cell (World.block_lt_of_cell? w _ hw238_2)).trans hw238_2),((HB.out.cell (World.block_lt_of_cell? w _ hw238_3)).trans hw238_3)⟩ (fun hHeld=>?_);refine with_tabW laws_eqCellS.tab6 laws_eqCellS.bits6 (fun HT_ HW_=>?_)
        generalize wr.drew=w9 at HB hx237_0 hx237_1 hx237_2 hx237_3 hx238_0 hx238_1 hx238_2 hx238_3 hHeld ⊢
        refine pure_ (i:=0) (N:=some 17) (v:=?_) (a':=?_) #[Y,X,X,X,X,X,X,X,X,X] rfl rfl zan (fun _ _ _ h=>h) (Or.inl ⟨by rfl,?_⟩) ?_ ?_
        rotate_left
        ·intro w'
         go_simp
         with_reducible rfl
        rotate_left
        ·simp only [Act.put,zp1,zp2,zp3,i64_w,i32_w]
         rfl
        refine pure_ (i:=1) (N:=some 18) (v:=?_) (a':=?_) #[Y,Y,X,X,X,X,X,X,X,X] rfl rfl zan (fun _ _ _ h=>h) (Or.inl ⟨by rfl,?_⟩) ?_ ?_
        rotate_left
        ·intro w'
         go_simp
         with_reducible rfl
        rotate_left
        ·simp only [Act.put,zp1,zp2,zp3,i64_w,i32_w]
         rfl
        refine pure_ (i:=2) (N:=some 19) (v:=?_) (a':=?_) #[Y,Y,Y,X,X,X,X,X,X,X] rfl rfl zan (fun _ _ _ h=>h) (Or.inl ⟨by rfl,?_⟩) ?_ ?_
        rotate_left
        ·intro w'
         go_simp
         with_reducible rfl
        rotate_left
        ·simp only [Act.put,zp1,zp2,zp3,i64_w,i32_w]
         rfl
        refine pure_ (i:=4) (N:=some 21) (v:=?_) (a':=?_) #[Y,Y,Y,X,Y,X,X,X,X,X] rfl rfl zan (fun _ _ _ h=>h) (Or.inl ⟨by rfl,?_⟩) ?_ ?_
        rotate_left
        ·intro w'
         go_simp
         with_reducible rfl
        rotate_left
        ·simp only [Act.put,zp1,zp2,zp3,i64_w,i32_w]
         rfl
        refine pure_ (i:=5) (N:=some 22) (v:=?_) (a':=?_) #[Y,Y,Y,X,Y,Y,X,X,X,X] rfl rfl zan (fun _ _ _ h=>h) (Or.inl ⟨by rfl,?_⟩) ?_ ?_
        rotate_left
        ·intro w'
         go_simp
         with_reducible rfl
        rotate_left
        ·simp only [Act.put,zp1,zp2,zp3,i64_w,i32_w]
         rfl
        refine pure_ (i:=6) (N:=some 23) (v:=?_) (a':=?_) #[Y,Y,Y,X,Y,Y,Y,X,X,X] rfl rfl zan (fun _ _ _ h=>h) (Or.inl ⟨by rfl,?_⟩) ?_ ?_
        rotate_left
        ·intro w'
         go_simp
         with_reducible rfl
        rotate_left
        ·simp only [Act.put,zp1,zp2,zp3,i64_w,i32_w]
         rfl
        refine take_ (i:=3) (N:=some 20) (v:=?_) (a':=?_) #[Y,Y,Y,Y,Y,Y,Y,X,X,X] rfl rfl ztw (fun _ _ _ h=>h) (Or.inl ⟨by rfl,?_⟩) hHeld ?_ ?_
        rotate_left
        ·rintro w' ⟨s0,s1,s2,s3,s4,s5,s6,s7⟩
         go_simp
         with_reducible rfl
        rotate_left
        ·simp only [Act.put,zp1,zp2,zp3,i64_w,i32_w]
         rfl
        refine take_ (i:=7) (N:=some 24) (v:=?_) (a':=?_) #[Y,Y,Y,Y,Y,Y,Y,Y,X,X] rfl rfl ztw (fun _ _ _ h=>h) (Or.inl ⟨by rfl,?_⟩) hHeld ?_ ?_
        rotate_left
        ·rintro w' ⟨s0,s1,s2,s3,s4,s5,s6,s7⟩
         go_simp
         with_reducible rfl
        rotate_left
        ·simp only [Act.put,zp1,zp2,zp3,i64_w,i32_w]
         rfl
        refine one_ (i:=8) (N:=some 25) #[Y,Y,Y,Y,Y,Y,Y,Y,Y,X] rfl rfl (one_of HT_.out (by kernel_rfl)) (by decide) (fun K hK=>?_)
        refine goes_ Tryz.func43 (by kernel_rfl) rfl #[.agg #[.int .i64 ((rd_T33 l0 x5_1).f0),.int .i64 ((rd_T33 l0 x5_1).f1),.int .i64 ((rd_T33 l0 x5_1).f2),.int .i64 ((rd_T33 l0 x5_1).f3)],.agg #[.int .i64 ((rd_T33 l1 x5_1).f0),.int .i64 ((rd_T33 l1 x5_1).f1),.int .i64 ((rd_T33 l1 x5_1).f2),.int .i64 ((rd_T33 l1 x5_1).f3)]] (by rfl) rfl rfl zar ?_
        with_reducible refine (laws_eqCell.calls ((rd_T33 l0 x5_1).f0) ((rd_T33 l0 x5_1).f1) ((rd_T33 l0 x5_1).f2) ((rd_T33 l0 x5_1).f3) ((rd_T33 l1 x5_1).f0) ((rd_T33 l1 x5_1).f1) ((rd_T33 l1 x5_1).f2) ((rd_T33 l1 x5_1).f3) true _ A7.out).mono ?_
        rintro e w10 ⟨rfl,hb⟩
        refine ⟨_,rfl,?_⟩
        have n0_:=Aside0.mk (below_step zhb hb)
        clear HB
        have HB:=n0_
        clear n0_
        (try clear hb)
        (try clear hb2)
        (try clear hk)
        (try clear hi)
        refine hK.out _ _ ⟨((HB.out.cell (World.block_lt_of_cell? w _ hw237_0)).trans hw237_0),((HB.out.cell (World.block_lt_of_cell? w _ hw237_1)).trans hw237_1),((HB.out.cell (World.block_lt_of_cell? w _ hw237_2)).trans hw237_2),((HB.out.cell (World.block_lt_of_cell? w _ hw237_3)).trans hw237_3),((HB.out.cell (World.block_lt_of_cell? w _ hw238_0)).trans hw238_0),((HB.out.cell (World.block_lt_of_cell? w _ hw238_1)).trans hw238_1),((HB.out.cell (World.block_lt_of_cell? w _ hw238_2)).trans hw238_2),((HB.out.cell (World.block_lt_of_cell? w _ hw238_3)).trans hw238_3)⟩ (fun hHeld=>?_)
        clear hK K
        refine norm_ (a':=?_) ?_ ?_
        rotate_left
        ·show Act.put _ (some 25) _=_
         simp only [Act.put,zp1,zp2,zp3,i64_w,i32_w]
         rfl
        refine pure_ (i:=9) (N:=some 26) (v:=?_) (a':=?_) #[Y,Y,Y,Y,Y,Y,Y,Y,Y,Y] rfl rfl zan (fun _ _ _ h=>h) (Or.inl ⟨by rfl,?_⟩) ?_ ?_
        rotate_left
        ·intro w'
         go_simp
         with_reducible rfl
        rotate_left
        ·simp only [Act.put,zp1,zp2,zp3,i64_w,i32_w]
         rfl
        refine done_ (done_of HT_.out (by kernel_rfl)) ?_
        try go_wp2
        go_roundg k1
        case measure=>have:=HK1.out;omega
        case rel=>exact ⟨(wrap64 (x5_1 + 1)),(by first|rfl|(simp;done)|(simp [*];done)),H',⟨by have:=HK1.out;omega⟩,⟨zhb⟩⟩
       ·replace c8:=Bool.eq_false_iff.mpr c8
        subst c8
        have H1:(some false)=some r:=by rw [if_neg (show ¬ (false=true) by decide)] at H;exact H
        clear H
        have H:=H1
        clear H1
        obtain rfl:=Option.some.inj H
        try go_wp2
        have n0_:=Aside0.mk (below_drew1 HB.out)
        clear HB
        have HB:=n0_
        clear n0_
        have p237:0≤(x5_1:Int):=zod
        have q237:x5_1 < (l0.length:Int):=zod
        obtain ⟨ad237,e237,hx237_0,hx237_1,hx237_2,hx237_3⟩:=at_T33 HR0.out x5_1 p237 q237
        have hw237_3:=hx237_3
        have hw237_2:=hx237_2
        have hw237_1:=hx237_1
        have hw237_0:=hx237_0
        cases e237
        replace hx237_0:=(HB.out.cell (World.block_lt_of_cell? w _ hx237_0)).trans hx237_0
        replace hx237_1:=(HB.out.cell (World.block_lt_of_cell? w _ hx237_1)).trans hx237_1
        replace hx237_2:=(HB.out.cell (World.block_lt_of_cell? w _ hx237_2)).trans hx237_2
        replace hx237_3:=(HB.out.cell (World.block_lt_of_cell? w _ hx237_3)).trans hx237_3
        replace p237:=eq_true p237
        replace q237:=eq_true q237
        have p238:0≤(x5_1:Int):=zod
        have q238:x5_1 < (l1.length:Int):=zod
        obtain ⟨ad238,e238,hx238_0,hx238_1,hx238_2,hx238_3⟩:=at_T33 HR1.out x5_1 p238 q238
        have hw238_3:=hx238_3
        have hw238_2:=hx238_2
        have hw238_1:=hx238_1
        have hw238_0:=hx238_0
        cases e238
        replace hx238_0:=(HB.out.cell (World.block_lt_of_cell? w _ hx238_0)).trans hx238_0
        replace hx238_1:=(HB.out.cell (World.block_lt_of_cell? w _ hx238_1)).trans hx238_1
        replace hx238_2:=(HB.out.cell (World.block_lt_of_cell? w _ hx238_2)).trans hx238_2
        replace hx238_3:=(HB.out.cell (World.block_lt_of_cell? w _ hx238_3)).trans hx238_3
        replace p238:=eq_true p238
        replace q238:=eq_true q238
        refine start_ (n:=10) (S:=fun w'=>w'.cell? (ad237.add ((x5_1).toNat * 4))=some (.int .i64 ((rd_T33 l0 x5_1).f0))∧w'.cell? ⟨(ad237.add ((x5_1).toNat * 4)).block,(ad237.add ((x5_1).toNat * 4)).off + 1,none⟩=some (.int .i64 ((rd_T33 l0 x5_1).f1))∧w'.cell? ⟨(ad237.add ((x5_1).toNat * 4)).block,(ad237.add ((x5_1).toNat * 4)).off + 2,none⟩=some (.int .i64 ((rd_T33 l0 x5_1).f2))∧w'.cell? ⟨(ad237.add ((x5_1).toNat * 4)).block,(ad237.add ((x5_1).toNat * 4)).off + 3,none⟩=some (.int .i64 ((rd_T33 l0 x5_1).f3))∧w'.cell? (ad238.add ((x5_1).toNat * 4))=some (.int .i64 ((rd_T33 l1 x5_1).f0))∧w'.cell? ⟨(ad238.add ((x5_1).toNat * 4)).block,(ad238.add ((x5_1).toNat * 4)).off + 1,none⟩=some (.int .i64 ((rd_T33 l1 x5_1).f1))∧w'.cell? ⟨(ad238.add ((x5_1).toNat * 4)).block,(ad238.add ((x5_1).toNat * 4)).off + 2,none⟩=some (.int .i64 ((rd_T33 l1 x5_1).f2))∧w'.cell? ⟨(ad238.add ((x5_1).toNat * 4)).block,(ad238.add ((x5_1).toNat * 4)).off + 3,none⟩=some (.int .i64 ((rd_T33 l1 x5_1).f3))) (ds:=[]) #[X,X,X,X,X,X,X,X,X,X] (by kernel_rfl) rfl rfl ⟨((HB.out.cell (World.block_lt_of_cell? w _ hw237_0)).trans hw237_0),((HB.out.cell (World.block_lt_of_cell? w _ hw237_1)).trans hw237_1),((HB.out.cell (World.block_lt_of_cell? w _ hw237_2)).trans hw237_2),((HB.out.cell (World.block_lt_of_cell? w _ hw237_3)).trans hw237_3),((HB.out.cell (World.block_lt_of_cell? w _ hw238_0)).trans hw238_0),((HB.out.cell (World.block_lt_of_cell? w _ hw238_1)).trans hw238_1),((HB.out.cell (World.block_lt_of_cell? w _ hw238_2)).trans hw238_2),((HB.out.cell (World.block_lt_of_cell? w _ hw238_3)).trans hw238_3)⟩ (fun hHeld=>?_);refine with_tabW laws_eqCellS.tab6 laws_eqCellS.bits6 (fun HT_ HW_=>?_)
        generalize wr.drew=w11 at HB hx237_0 hx237_1 hx237_2 hx237_3 hx238_0 hx238_1 hx238_2 hx238_3 hHeld ⊢
        refine pure_ (i:=0) (N:=some 17) (v:=?_) (a':=?_) #[Y,X,X,X,X,X,X,X,X,X] rfl rfl zan (fun _ _ _ h=>h) (Or.inl ⟨by rfl,?_⟩) ?_ ?_
        rotate_left
        ·intro w'
         go_simp
         with_reducible rfl
        rotate_left
        ·simp only [Act.put,zp1,zp2,zp3,i64_w,i32_w]
         rfl
        refine pure_ (i:=1) (N:=some 18) (v:=?_) (a':=?_) #[Y,Y,X,X,X,X,X,X,X,X] rfl rfl zan (fun _ _ _ h=>h) (Or.inl ⟨by rfl,?_⟩) ?_ ?_
        rotate_left
        ·intro w'
         go_simp
         with_reducible rfl
        rotate_left
        ·simp only [Act.put,zp1,zp2,zp3,i64_w,i32_w]
         rfl
        refine pure_ (i:=2) (N:=some 19) (v:=?_) (a':=?_) #[Y,Y,Y,X,X,X,X,X,X,X] rfl rfl zan (fun _ _ _ h=>h) (Or.inl ⟨by rfl,?_⟩) ?_ ?_
        rotate_left
        ·intro w'
         go_simp
         with_reducible rfl
        rotate_left
        ·simp only [Act.put,zp1,zp2,zp3,i64_w,i32_w]
         rfl
        refine pure_ (i:=4) (N:=some 21) (v:=?_) (a':=?_) #[Y,Y,Y,X,Y,X,X,X,X,X] rfl rfl zan (fun _ _ _ h=>h) (Or.inl ⟨by rfl,?_⟩) ?_ ?_
        rotate_left
        ·intro w'
         go_simp
         with_reducible rfl
        rotate_left
        ·simp only [Act.put,zp1,zp2,zp3,i64_w,i32_w]
         rfl
        refine pure_ (i:=5) (N:=some 22) (v:=?_) (a':=?_) #[Y,Y,Y,X,Y,Y,X,X,X,X] rfl rfl zan (fun _ _ _ h=>h) (Or.inl ⟨by rfl,?_⟩) ?_ ?_
        rotate_left
        ·intro w'
         go_simp
         with_reducible rfl
        rotate_left
        ·simp only [Act.put,zp1,zp2,zp3,i64_w,i32_w]
         rfl
        refine pure_ (i:=6) (N:=some 23) (v:=?_) (a':=?_) #[Y,Y,Y,X,Y,Y,Y,X,X,X] rfl rfl zan (fun _ _ _ h=>h) (Or.inl ⟨by rfl,?_⟩) ?_ ?_
        rotate_left
        ·intro w'
         go_simp
         with_reducible rfl
        rotate_left
        ·simp only [Act.put,zp1,zp2,zp3,i64_w,i32_w]
         rfl
        refine take_ (i:=3) (N:=some 20) (v:=?_) (a':=?_) #[Y,Y,Y,Y,Y,Y,Y,X,X,X] rfl rfl ztw (fun _ _ _ h=>h) (Or.inl ⟨by rfl,?_⟩) hHeld ?_ ?_
        rotate_left
        ·rintro w' ⟨s0,s1,s2,s3,s4,s5,s6,s7⟩
         go_simp
         with_reducible rfl
        rotate_left
        ·simp only [Act.put,zp1,zp2,zp3,i64_w,i32_w]
         rfl
        refine take_ (i:=7) (N:=some 24) (v:=?_) (a':=?_) #[Y,Y,Y,Y,Y,Y,Y,Y,X,X] rfl rfl ztw (fun _ _ _ h=>h) (Or.inl ⟨by rfl,?_⟩) hHeld ?_ ?_
        rotate_left
        ·rintro w' ⟨s0,s1,s2,s3,s4,s5,s6,s7⟩
         go_simp
         with_reducible rfl
        rotate_left
        ·simp only [Act.put,zp1,zp2,zp3,i64_w,i32_w]
         rfl
        refine one_ (i:=8) (N:=some 25) #[Y,Y,Y,Y,Y,Y,Y,Y,Y,X] rfl rfl (one_of HT_.out (by kernel_rfl)) (by decide) (fun K hK=>?_)
        refine goes_ Tryz.func43 (by kernel_rfl) rfl #[.agg #[.int .i64 ((rd_T33 l0 x5_1).f0),.int .i64 ((rd_T33 l0 x5_1).f1),.int .i64 ((rd_T33 l0 x5_1).f2),.int .i64 ((rd_T33 l0 x5_1).f3)],.agg #[.int .i64 ((rd_T33 l1 x5_1).f0),.int .i64 ((rd_T33 l1 x5_1).f1),.int .i64 ((rd_T33 l1 x5_1).f2),.int .i64 ((rd_T33 l1 x5_1).f3)]] (by rfl) rfl rfl zar ?_
        with_reducible refine (laws_eqCell.calls ((rd_T33 l0 x5_1).f0) ((rd_T33 l0 x5_1).f1) ((rd_T33 l0 x5_1).f2) ((rd_T33 l0 x5_1).f3) ((rd_T33 l1 x5_1).f0) ((rd_T33 l1 x5_1).f1) ((rd_T33 l1 x5_1).f2) ((rd_T33 l1 x5_1).f3) false _ A7.out).mono ?_
        rintro e w12 ⟨rfl,hb⟩
        refine ⟨_,rfl,?_⟩
        have n0_:=Aside0.mk (below_step zhb hb)
        clear HB
        have HB:=n0_
        clear n0_
        (try clear hb)
        (try clear hb2)
        (try clear hk)
        (try clear hi)
        refine hK.out _ _ ⟨((HB.out.cell (World.block_lt_of_cell? w _ hw237_0)).trans hw237_0),((HB.out.cell (World.block_lt_of_cell? w _ hw237_1)).trans hw237_1),((HB.out.cell (World.block_lt_of_cell? w _ hw237_2)).trans hw237_2),((HB.out.cell (World.block_lt_of_cell? w _ hw237_3)).trans hw237_3),((HB.out.cell (World.block_lt_of_cell? w _ hw238_0)).trans hw238_0),((HB.out.cell (World.block_lt_of_cell? w _ hw238_1)).trans hw238_1),((HB.out.cell (World.block_lt_of_cell? w _ hw238_2)).trans hw238_2),((HB.out.cell (World.block_lt_of_cell? w _ hw238_3)).trans hw238_3)⟩ (fun hHeld=>?_)
        clear hK K
        refine norm_ (a':=?_) ?_ ?_
        rotate_left
        ·show Act.put _ (some 25) _=_
         simp only [Act.put,zp1,zp2,zp3,i64_w,i32_w]
         rfl
        refine pure_ (i:=9) (N:=some 26) (v:=?_) (a':=?_) #[Y,Y,Y,Y,Y,Y,Y,Y,Y,Y] rfl rfl zan (fun _ _ _ h=>h) (Or.inl ⟨by rfl,?_⟩) ?_ ?_
        rotate_left
        ·intro w'
         go_simp
         with_reducible rfl
        rotate_left
        ·simp only [Act.put,zp1,zp2,zp3,i64_w,i32_w]
         rfl
        refine done_ (done_of HT_.out (by kernel_rfl)) ?_
        try go_wp2
        go_ret
        exact ⟨by first|rfl|(simp [errW_none,errW_some] <;> rfl)|(simp [*,errW_none,errW_some] <;> rfl),zhb⟩
      ·rw [if_neg c6] at H
       exact absurd H (by simp)
     ·rw [if_neg c5] at H
      exact absurd H (by simp)
    ·rw [if_neg c4] at H
     have c4b0:decide (x5_1 < (l0.length:Int))=false:=decide_eq_false c4
     clear c4
     obtain rfl:=Option.some.inj H
     go_wp2
     go_ret
     exact ⟨by first|rfl|(simp [errW_none,errW_some] <;> rfl)|(simp [*,errW_none,errW_some] <;> rfl),zhb⟩
 ·rw [if_neg c3] at H
  have c3b0:((l0.length:Int) == (l1.length:Int))=false:=beq_eq_false_iff_ne.mpr c3
  have c3b1:((l0.length:Int) != (l1.length:Int))=true:=bne_iff_ne.mpr c3
  have c3b2:(l0.length == l1.length)=false:=by first|simpa using c3|(simp at c3 ⊢;omega)
  obtain rfl:=Option.some.inj H
  go_enter Tryz.func27,Tryz.ntmps27
  go_wp2
  go_ret
  exact ⟨by first|rfl|(simp [errW_none,errW_some] <;> rfl)|(simp [*,errW_none,errW_some] <;> rfl),zhb⟩

/-! ### laws_eqIntS: function 28 -/
def laws_eqIntS.l0:Nat→List Int→List Int→Int→Option (Bool)
 | 0,_,_,_=>none
 | k + 1,x0,x1,x5=>if x5 < (x0.length:Int) then (if 0≤x5 then (if x5 < (x1.length:Int) then (if (rd x0 x5)=(rd x1 x5) then (laws_eqIntS.l0 k x0 x1 (wrap64 (x5 + 1))) else (some false)) else (none)) else (none)) else (some true)
def laws_eqIntS.f (k:Nat) (l0:List Int) (l1:List Int):Option (Bool):=if (l0.length:Int)=(l1.length:Int) then (laws_eqIntS.l0 k l0 l1 0) else (some false)
theorem laws_eqIntS.mono_l : ∀ k,(∀ y0 y1 y2,LeO (laws_eqIntS.l0 k y0 y1 y2) (laws_eqIntS.l0 (k + 1) y0 y1 y2))
 | 0=>fun _ _ _ r h=>by simp [laws_eqIntS.l0] at h
 | k + 1=>by
  have ih0:=laws_eqIntS.mono_l k
  ·intro y0 y1 y2
   unfold laws_eqIntS.l0
   repeat' first
   | (with_reducible exact ih0 _ _ _)
   | (with_reducible exact LeO.refl _)
   | (with_reducible exact LeO.none _)
   | (with_reducible refine LeO.ite ?_ ?_)
   | (with_reducible refine LeO.bind ?_ (fun _=>?_))
   | exact LeO.none _
   | refine LeO.ite ?_ ?_
   | refine LeO.bind ?_ (fun _=>?_)
theorem laws_eqIntS.mono : ∀ a0 a1 k,LeO (laws_eqIntS.f k a0 a1) (laws_eqIntS.f (k + 1) a0 a1):=by
 intro a0 a1 k
 have ih0:=laws_eqIntS.mono_l k
 unfold laws_eqIntS.f
 repeat' first
   | (with_reducible exact ih0 _ _ _)
   | (with_reducible exact LeO.refl _)
   | (with_reducible exact LeO.none _)
   | (with_reducible refine LeO.ite ?_ ?_)
   | (with_reducible refine LeO.bind ?_ (fun _=>?_))
   | exact LeO.none _
   | refine LeO.ite ?_ ?_
   | refine LeO.bind ?_ (fun _=>?_)
set_option maxHeartbeats 8000000 in
set_option maxRecDepth 100000 in
theorem laws_eqIntS.calls (k:Nat) (A0:Option Addr) (c0:Nat) (l0:List Int) (A1:Option Addr) (c1:Nat) (l1:List Int) (r:Bool) (w:World) (hr0:Kd.C (Kd.int .i64) w A0 l0.length l0) (hc0:l0.length≤c0) (hr1:Kd.C (Kd.int .i64) w A1 l1.length l1) (hc1:l1.length≤c1) (h:laws_eqIntS.f k l0 l1=some r) :
  Calls Tryz.prog 28 #[.slice A0 l0.length c0,.slice A1 l1.length c1] w fun e w'=>e=.returned (.bool r)∧Drawn0 w w':=by
 have HR0:=Aside0.mk hr0
 have HC0:=Aside0.mk hc0
 clear hr0 hc0
 have HR1:=Aside0.mk hr1
 have HC1:=Aside0.mk hc1
 clear hr1 hc1
 have H:(if (l0.length:Int)=(l1.length:Int) then (laws_eqIntS.l0 k l0 l1 0) else (some false))=some r:=h
 clear h
 by_cases c3:(l0.length:Int)=(l1.length:Int)
 ·rw [if_pos c3] at H
  have c3b0:((l0.length:Int) == (l1.length:Int))=true:=beq_iff_eq.mpr c3
  have c3b1:((l0.length:Int) != (l1.length:Int))=false:=bne_eq_false_iff_eq.mpr c3
  have c3b2:(l0.length == l1.length)=true:=by first|simpa using c3|(simp at c3 ⊢;omega)
  clear c3
  have H':=Aside0.mk H
  clear H
  go_enter Tryz.func28,Tryz.ntmps28
  go_wp2
  repeat (go_quiet (fail);try go_wp2)
  go_loopg [5] k (fun kq v5 w'=>∃ (x5_1:Int),v5=.int .i64 x5_1∧Aside0 (laws_eqIntS.l0 kq l0 l1 x5_1=some r)∧Aside0 (kq≤k)∧Drawn0 w w')
  case atStart=>exact ⟨(0),(by first|rfl|(simp;done)|(simp [*];done)),H',⟨Nat.le_refl _⟩,zdw⟩
  case round =>
   clear H'
   try clear c1
   try clear c2
   try clear p2
   try clear c3
   try clear c3b0
   try clear c3b1
   try clear c3b2
   obtain ⟨x5_1,rfl,HA,HK1,⟨m1,rfl⟩⟩:=hrel
   cases gk with
   | zero=>exact absurd HA.out (by simp [laws_eqIntS.l0])
   | succ k1 =>
    have H:=HA.out
    clear HA
    simp only [laws_eqIntS.l0] at H
    by_cases c4:x5_1 < (l0.length:Int)
    ·rw [if_pos c4] at H
     have c4b0:decide (x5_1 < (l0.length:Int))=true:=decide_eq_true c4
     clear c4
     by_cases c5:0≤x5_1
     ·rw [if_pos c5] at H
      have c5b0:decide (0≤x5_1)=true:=decide_eq_true c5
      clear c5
      by_cases c6:x5_1 < (l1.length:Int)
      ·rw [if_pos c6] at H
       have c6b0:decide (x5_1 < (l1.length:Int))=true:=decide_eq_true c6
       clear c6
       by_cases c7:(rd l0 x5_1)=(rd l1 x5_1)
       ·rw [if_pos c7] at H
        have c7b0:((rd l0 x5_1) == (rd l1 x5_1))=true:=beq_iff_eq.mpr c7
        have c7b1:((rd l0 x5_1) != (rd l1 x5_1))=false:=bne_eq_false_iff_eq.mpr c7
        clear c7
        have H':=Aside0.mk H
        clear H
        have p240:0≤(x5_1:Int):=zod
        have q240:x5_1 < (l0.length:Int):=zod
        obtain ⟨ad240,e240,hx240_0⟩:=Kd.at_int HR0.out x5_1 p240 q240
        cases e240
        replace p240:=eq_true p240
        replace q240:=eq_true q240
        have p241:0≤(x5_1:Int):=zod
        have q241:x5_1 < (l1.length:Int):=zod
        obtain ⟨ad241,e241,hx241_0⟩:=Kd.at_int HR1.out x5_1 p241 q241
        cases e241
        replace p241:=eq_true p241
        replace q241:=eq_true q241
        go_wp2
        repeat (go_quiet (fail);try go_wp2)
        go_roundg k1
        case measure=>have:=HK1.out;omega
        case rel=>exact ⟨(wrap64 (x5_1 + 1)),(by first|rfl|(simp;done)|(simp [*];done)),H',⟨by have:=HK1.out;omega⟩,zdw⟩
       ·rw [if_neg c7] at H
        have c7b0:((rd l0 x5_1) == (rd l1 x5_1))=false:=beq_eq_false_iff_ne.mpr c7
        have c7b1:((rd l0 x5_1) != (rd l1 x5_1))=true:=bne_iff_ne.mpr c7
        obtain rfl:=Option.some.inj H
        have p240:0≤(x5_1:Int):=zod
        have q240:x5_1 < (l0.length:Int):=zod
        obtain ⟨ad240,e240,hx240_0⟩:=Kd.at_int HR0.out x5_1 p240 q240
        cases e240
        replace p240:=eq_true p240
        replace q240:=eq_true q240
        have p241:0≤(x5_1:Int):=zod
        have q241:x5_1 < (l1.length:Int):=zod
        obtain ⟨ad241,e241,hx241_0⟩:=Kd.at_int HR1.out x5_1 p241 q241
        cases e241
        replace p241:=eq_true p241
        replace q241:=eq_true q241
        go_wp2
        repeat (go_quiet (fail);try go_wp2)
        go_ret
        exact ⟨by first|rfl|(simp;done)|(simp [*];done),zdw⟩
      ·rw [if_neg c6] at H
       exact absurd H (by simp)
     ·rw [if_neg c5] at H
      exact absurd H (by simp)
    ·rw [if_neg c4] at H
     have c4b0:decide (x5_1 < (l0.length:Int))=false:=decide_eq_false c4
     clear c4
     obtain rfl:=Option.some.inj H
     go_wp2
     repeat (go_quiet (fail);try go_wp2)
     go_ret
     exact ⟨by first|rfl|(simp;done)|(simp [*];done),zdw⟩
 ·rw [if_neg c3] at H
  have c3b0:((l0.length:Int) == (l1.length:Int))=false:=beq_eq_false_iff_ne.mpr c3
  have c3b1:((l0.length:Int) != (l1.length:Int))=true:=bne_iff_ne.mpr c3
  have c3b2:(l0.length == l1.length)=false:=by first|simpa using c3|(simp at c3 ⊢;omega)
  obtain rfl:=Option.some.inj H
  go_enter Tryz.func28,Tryz.ntmps28
  go_wp2
  repeat (go_quiet (fail);try go_wp2)
  go_ret
  exact ⟨by first|rfl|(simp;done)|(simp [*];done),zdw⟩



inductive Ok30:S30→Prop
 | mk (x:S30) (h0:(Lit.int .i64 x.f0).wf=true) (h1:(Lit.int .i64 x.f1).wf=true) (h2:(((Lit.int .i64 x.f2.f0).wf=true)∧((True)∧(((((Lit.int .i64 x.f2.f2.f0).wf=true)∧(((Lit.int .i64 x.f2.f2.f1).wf=true)∧(((Lit.int .i64 x.f2.f2.f2).wf=true)∧((Lit.int .i64 x.f2.f2.f3).wf=true)))))∧((((Lit.int .i64 x.f2.f3.f0).wf=true)∧(((Lit.int .i64 x.f2.f3.f1).wf=true)∧(((Lit.int .i64 x.f2.f3.f2).wf=true)∧((Lit.int .i64 x.f2.f3.f3).wf=true))))))))) (h3:(x.f3.length≤maxLen∧∀ y0 ∈ x.f3,(((Lit.int .i64 y0.f0).wf=true)∧(((Lit.int .i64 y0.f1).wf=true)∧(((Lit.int .i64 y0.f2).wf=true)∧((Lit.int .i64 y0.f3).wf=true)))))) (h4:(Lit.int .i64 x.f4).wf=true) (h5:(Lit.int .i64 x.f5).wf=true) (h6:(x.f6.length≤maxLen∧∀ y0 ∈ x.f6,(Lit.int .i64 y0).wf=true)) (h7:(Lit.int .i64 x.f7).wf=true) (h8:(Lit.int .i64 x.f8).wf=true) (h9:x.f9.length≤maxLen) (g9 : ∀ y0 ∈ x.f9,Ok30 y0):Ok30 x
theorem Ok30.out {x:S30} (h:Ok30 x):(((Lit.int .i64 x.f0).wf=true)∧(((Lit.int .i64 x.f1).wf=true)∧(((((Lit.int .i64 x.f2.f0).wf=true)∧((True)∧(((((Lit.int .i64 x.f2.f2.f0).wf=true)∧(((Lit.int .i64 x.f2.f2.f1).wf=true)∧(((Lit.int .i64 x.f2.f2.f2).wf=true)∧((Lit.int .i64 x.f2.f2.f3).wf=true)))))∧((((Lit.int .i64 x.f2.f3.f0).wf=true)∧(((Lit.int .i64 x.f2.f3.f1).wf=true)∧(((Lit.int .i64 x.f2.f3.f2).wf=true)∧((Lit.int .i64 x.f2.f3.f3).wf=true)))))))))∧(((x.f3.length≤maxLen∧∀ y0 ∈ x.f3,(((Lit.int .i64 y0.f0).wf=true)∧(((Lit.int .i64 y0.f1).wf=true)∧(((Lit.int .i64 y0.f2).wf=true)∧((Lit.int .i64 y0.f3).wf=true))))))∧(((Lit.int .i64 x.f4).wf=true)∧(((Lit.int .i64 x.f5).wf=true)∧(((x.f6.length≤maxLen∧∀ y0 ∈ x.f6,(Lit.int .i64 y0).wf=true))∧(((Lit.int .i64 x.f7).wf=true)∧(((Lit.int .i64 x.f8).wf=true)∧((x.f9.length≤maxLen∧∀ y0 ∈ x.f9,(Ok30 y0)))))))))))):=by
 cases h with
 | mk _ h0 h1 h2 h3 h4 h5 h6 h7 h8 h9 g9=>exact ⟨h0,h1,h2,h3,h4,h5,h6,h7,h8,⟨h9,g9⟩⟩

end Go.Proofs.YtlpgnkndjmfcjaaGreat.PFnExactPlanMany
