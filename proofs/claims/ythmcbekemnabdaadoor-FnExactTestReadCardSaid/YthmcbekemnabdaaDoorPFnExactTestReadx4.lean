-- Written by wip/tools/pp.py, a program of this session over the kit's printer: not the kit's own print
import Derived.Test.YthmcbekemnabdaaDoorPFnExactTestReadx0
import Derived.Test.YthmcbekemnabdaaDoorPFnExactTestReadx3
namespace Go.Proofs.YthmcbekemnabdaaDoor.PFnExactTestRead
open Go.RowKit Go.Proofs.YthmcbekemnabdaaDoorW.PrintWords Go.Proofs.YthmcbekemnabdaaDoorW.PrintLast Go.Proofs.YthmcbekemnabdaaDoorW.PrintMore
attribute [local go_sem] max2_int min2_int max_two min_two max_three min_three max_four min_four   -- for this text's walks alone
set_option linter.unusedVariables false
set_option linter.unusedSimpArgs false

/-! ### strconv_Atoi: function 18 (by hand) -/
def strconv_Atoi.f (a0:ByteArray):Option (Int × Option Int):=if a0.size≤1048576 then (match Lib.atoiAll a0.data.toList with | .ok v=>some (v,none) | .range=>some (Lib.atoiSat a0.data.toList,some 0)|_=>some (0,some 0)) else none
/-- the error that goes with it: none, or one that is no nil -/
def ErrV:Option Int→Value→Prop
 | none,v=>v=.nilIface
 | some _,v=>∃ (t:TypeId) (p:Nat),v=.iface t (.pointer (some ⟨p,0,none⟩))
theorem strconv_Atoi.calls (a0:ByteArray) (r1:Int) (r2:Option Int) (w:World) (h:strconv_Atoi.f a0=some (r1,r2)) (hT:TxtW w:=by exact TxtW.on HT0.out zhs) :
  Calls Tryd.prog 18 #[.string a0] w fun e w'=>∃ ev:Value,ErrV r2 ev∧e=.returned (.tuple #[.int .i64 r1,ev])∧Below w.heap.size w w':=by
 unfold strconv_Atoi.f at h
 by_cases h1:a0.size≤1048576
 case neg=>rw [if_neg h1] at h;cases h
 rw [if_pos h1] at h
 obtain ⟨-,⟨t1,p1,hs⟩,⟨t2,p2,hr⟩,-⟩:=hT
 cases ha:Lib.atoiAll a0.data.toList with
 | ok v =>
  rw [ha] at h
  simp only [Option.some.injEq,Prod.mk.injEq] at h
  obtain ⟨rfl,rfl⟩:=h
  refine (Tryd.strconv_Atoi_ok a0 (by omega) v ha w).mono ?_
  rintro e w' ⟨rfl,h2⟩
  refine ⟨_,rfl,rfl,?_⟩
  rcases h2 with rfl|⟨t,rfl⟩
  ·exact Below.refl _ _
  ·exact Lib.bytesWorld_below w 5 t
 | range =>
  rw [ha] at h
  simp only [Option.some.injEq,Prod.mk.injEq] at h
  obtain ⟨rfl,rfl⟩:=h
  refine (Tryd.strconv_Atoi_range_var a0 (by omega) ha t2 p2 w hr).mono ?_
  rintro e w' ⟨N,rfl,-,-,hb⟩
  exact ⟨_,⟨_,_,rfl⟩,rfl,hb⟩
 | _ =>
  rw [ha] at h
  simp only [Option.some.injEq,Prod.mk.injEq] at h
  obtain ⟨rfl,rfl⟩:=h
  refine (Tryd.strconv_Atoi_syntax_var a0 (by omega) ha t1 p1 w hs).mono ?_
  rintro e w' ⟨N,rfl,-,-,hb⟩
  exact ⟨_,⟨_,_,rfl⟩,rfl,hb⟩

/-! ### strings_CutPrefix: function 20 (by hand) -/
def strings_CutPrefix.f (a0:ByteArray) (a1:ByteArray):Option (ByteArray × Bool):=some (⟨(Lib.trimPrefix a0.data.toList a1.data.toList).toArray⟩,Lib.hasPrefix a0.data.toList a1.data.toList)
theorem strings_CutPrefix.calls (a0:ByteArray) (a1:ByteArray) (r1:ByteArray) (r2:Bool) (w:World) (h:strings_CutPrefix.f a0 a1=some (r1,r2)) :
  Calls Tryd.prog 20 #[.string a0,.string a1] w fun e w'=>e=.returned (.tuple #[.string r1,.bool r2])∧Below w.heap.size w w':=by
 unfold strings_CutPrefix.f at h
 simp only [Option.some.injEq,Prod.mk.injEq] at h
 obtain ⟨rfl,rfl⟩:=h
 refine (Tryd.strings_CutPrefix a0 a1 w).mono ?_
 rintro e w' ⟨rfl,rfl⟩
 exact ⟨rfl,Below.refl _ _⟩

/-! ### impl_column: function 16 -/
def impl_column.f (a0:ByteArray):Option (Int × Bool):=(strings_CutPrefix.f a0 (⟨#[99]⟩:ByteArray)).bind fun bt119=>((strconv_Atoi.f bt119.1).bind fun bt121=>(if bt119.2=true then (if bt121.2.isNone=true then (some (bt121.1,true)) else (some (bt121.1,false))) else (some (bt121.1,false))))
set_option maxHeartbeats 8000000 in
set_option maxRecDepth 100000 in
theorem impl_column.calls (a0:ByteArray) (r1:Int) (r2:Bool) (w:World) (h:impl_column.f a0=some (r1,r2)) (hT:TxtW w:=by exact TxtW.on HT0.out zhs) :
  Calls Tryd.prog 16 #[.string a0] w fun e w'=>e=.returned (.tuple #[.int .i64 r1,.bool r2])∧Below w.heap.size w w':=by
 have HT0:=Aside0.mk hT
 clear hT
 have hu41:=Tryd.underlying41
 have HB:=Aside0.mk (Below.refl w.heap.size w)
 have H:((strings_CutPrefix.f a0 (⟨#[99]⟩:ByteArray)).bind fun bt119=>((strconv_Atoi.f bt119.1).bind fun bt121=>(if bt119.2=true then (if bt121.2.isNone=true then (some (bt121.1,true)) else (some (bt121.1,false))) else (some (bt121.1,false)))))=some (r1,r2):=h
 clear h
 replace H:=Option.bind_eq_some_iff.mp H
 obtain ⟨⟨t119,t120⟩,A20,H⟩:=H
 (try dsimp only at H)
 have A2:=Aside0.mk A20
 clear A20
 replace H:=Option.bind_eq_some_iff.mp H
 obtain ⟨⟨t121,t122⟩,A30,H⟩:=H
 (try dsimp only at H)
 have A3:=Aside0.mk A30
 clear A30
 by_cases c4:t120=true
 ·subst c4
  have H1:(if t122.isNone=true then (some (t121,true)) else (some (t121,false)))=some (r1,r2):=by rw [if_pos rfl] at H;exact H
  clear H
  have H:=H1
  clear H1
  rcases t122 with _|q123
  ·have H1:(some (t121,true))=some (r1,r2):=by rw [if_pos (show (none:Option Int).isNone=true by rfl)] at H;exact H
   clear H
   have H:=H1
   clear H1
   try simp only [errW_none,errW_some]
   simp only [Option.some.injEq,Prod.mk.injEq] at H
   obtain ⟨rfl,rfl⟩:=H
   go_enter Tryd.func16,Tryd.ntmps16
   go_wp2_with (first|(go_at_call 20;(with_reducible refine (strings_CutPrefix.calls a0 (⟨#[99]⟩:ByteArray) t119 true _ A2.out).mono ?_);rintro e w5 ⟨rfl,hb⟩;have n0_:=Aside0.mk (below_step zhb hb);clear HB;have HB:=n0_;clear n0_;(try clear hb);(try clear hb2);(try clear hk);(try clear hi))|(go_at_call 18;(with_reducible refine (strconv_Atoi.calls t119 t121 none _ A3.out).mono ?_);rintro e w6 ⟨ev_,hv_,rfl,hb⟩;obtain rfl:=(show ev_=Value.nilIface from hv_);have n0_:=Aside0.mk (below_step zhb hb);clear HB;have HB:=n0_;clear n0_;(try clear hb);(try clear hb2);(try clear hk);(try clear hi);(try simp only [errW_none,errW_some])))
   repeat (go_quiet (first|(go_at_call 20;(with_reducible refine (strings_CutPrefix.calls a0 (⟨#[99]⟩:ByteArray) t119 true _ A2.out).mono ?_);rintro e w5 ⟨rfl,hb⟩;have n0_:=Aside0.mk (below_step zhb hb);clear HB;have HB:=n0_;clear n0_;(try clear hb);(try clear hb2);(try clear hk);(try clear hi))|(go_at_call 18;(with_reducible refine (strconv_Atoi.calls t119 t121 none _ A3.out).mono ?_);rintro e w6 ⟨ev_,hv_,rfl,hb⟩;obtain rfl:=(show ev_=Value.nilIface from hv_);have n0_:=Aside0.mk (below_step zhb hb);clear HB;have HB:=n0_;clear n0_;(try clear hb);(try clear hb2);(try clear hk);(try clear hi);(try simp only [errW_none,errW_some])));try go_wp2_with (first|(go_at_call 20;(with_reducible refine (strings_CutPrefix.calls a0 (⟨#[99]⟩:ByteArray) t119 true _ A2.out).mono ?_);rintro e w5 ⟨rfl,hb⟩;have n0_:=Aside0.mk (below_step zhb hb);clear HB;have HB:=n0_;clear n0_;(try clear hb);(try clear hb2);(try clear hk);(try clear hi))|(go_at_call 18;(with_reducible refine (strconv_Atoi.calls t119 t121 none _ A3.out).mono ?_);rintro e w6 ⟨ev_,hv_,rfl,hb⟩;obtain rfl:=(show ev_=Value.nilIface from hv_);have n0_:=Aside0.mk (below_step zhb hb);clear HB;have HB:=n0_;clear n0_;(try clear hb);(try clear hb2);(try clear hk);(try clear hi);(try simp only [errW_none,errW_some]))))
   go_ret2
   exact ⟨by first|rfl|(simp [errW_none,errW_some] <;> rfl)|(simp [*,errW_none,errW_some] <;> rfl),zhb⟩
  ·have H1:(some (t121,false))=some (r1,r2):=by rw [if_neg (show ¬ (some q123).isNone=true by simp)] at H;exact H
   clear H
   have H:=H1
   clear H1
   try simp only [errW_none,errW_some]
   simp only [Option.some.injEq,Prod.mk.injEq] at H
   obtain ⟨rfl,rfl⟩:=H
   go_enter Tryd.func16,Tryd.ntmps16
   go_wp2_with (first|(go_at_call 20;(with_reducible refine (strings_CutPrefix.calls a0 (⟨#[99]⟩:ByteArray) t119 true _ A2.out).mono ?_);rintro e w7 ⟨rfl,hb⟩;have n0_:=Aside0.mk (below_step zhb hb);clear HB;have HB:=n0_;clear n0_;(try clear hb);(try clear hb2);(try clear hk);(try clear hi))|(go_at_call 18;(with_reducible refine (strconv_Atoi.calls t119 t121 (some q123) _ A3.out).mono ?_);rintro e w8 ⟨ev_,hv_,rfl,hb⟩;obtain ⟨tt_,pp_,rfl⟩:=(show ∃ (t_:TypeId) (p_:Nat),ev_=Value.iface t_ (.pointer (some ⟨p_,0,none⟩)) from hv_);have n0_:=Aside0.mk (below_step zhb hb);clear HB;have HB:=n0_;clear n0_;(try clear hb);(try clear hb2);(try clear hk);(try clear hi);(try simp only [errW_none,errW_some])))
   repeat (go_quiet (first|(go_at_call 20;(with_reducible refine (strings_CutPrefix.calls a0 (⟨#[99]⟩:ByteArray) t119 true _ A2.out).mono ?_);rintro e w7 ⟨rfl,hb⟩;have n0_:=Aside0.mk (below_step zhb hb);clear HB;have HB:=n0_;clear n0_;(try clear hb);(try clear hb2);(try clear hk);(try clear hi))|(go_at_call 18;(with_reducible refine (strconv_Atoi.calls t119 t121 (some q123) _ A3.out).mono ?_);rintro e w8 ⟨ev_,hv_,rfl,hb⟩;obtain ⟨tt_,pp_,rfl⟩:=(show ∃ (t_:TypeId) (p_:Nat),ev_=Value.iface t_ (.pointer (some ⟨p_,0,none⟩)) from hv_);have n0_:=Aside0.mk (below_step zhb hb);clear HB;have HB:=n0_;clear n0_;(try clear hb);(try clear hb2);(try clear hk);(try clear hi);(try simp only [errW_none,errW_some])));try go_wp2_with (first|(go_at_call 20;(with_reducible refine (strings_CutPrefix.calls a0 (⟨#[99]⟩:ByteArray) t119 true _ A2.out).mono ?_);rintro e w7 ⟨rfl,hb⟩;have n0_:=Aside0.mk (below_step zhb hb);clear HB;have HB:=n0_;clear n0_;(try clear hb);(try clear hb2);(try clear hk);(try clear hi))|(go_at_call 18;(with_reducible refine (strconv_Atoi.calls t119 t121 (some q123) _ A3.out).mono ?_);rintro e w8 ⟨ev_,hv_,rfl,hb⟩;obtain ⟨tt_,pp_,rfl⟩:=(show ∃ (t_:TypeId) (p_:Nat),ev_=Value.iface t_ (.pointer (some ⟨p_,0,none⟩)) from hv_);have n0_:=Aside0.mk (below_step zhb hb);clear HB;have HB:=n0_;clear n0_;(try clear hb);(try clear hb2);(try clear hk);(try clear hi);(try simp only [errW_none,errW_some]))))
   go_ret2
   exact ⟨by first|rfl|(simp [errW_none,errW_some] <;> rfl)|(simp [*,errW_none,errW_some] <;> rfl),zhb⟩
 ·replace c4:=Bool.eq_false_iff.mpr c4
  subst c4
  have H1:(some (t121,false))=some (r1,r2):=by rw [if_neg (show ¬ (false=true) by decide)] at H;exact H
  clear H
  have H:=H1
  clear H1
  simp only [Option.some.injEq,Prod.mk.injEq] at H
  obtain ⟨rfl,rfl⟩:=H
  go_enter Tryd.func16,Tryd.ntmps16
  go_wp2_with (first|(go_at_call 20;(with_reducible refine (strings_CutPrefix.calls a0 (⟨#[99]⟩:ByteArray) t119 false _ A2.out).mono ?_);rintro e w9 ⟨rfl,hb⟩;have n0_:=Aside0.mk (below_step zhb hb);clear HB;have HB:=n0_;clear n0_;(try clear hb);(try clear hb2);(try clear hk);(try clear hi))|(go_at_call 18;(with_reducible refine (strconv_Atoi.calls t119 t121 t122 _ A3.out).mono ?_);rintro e w10 ⟨ev_,hv_,rfl,hb⟩;clear hv_;have n0_:=Aside0.mk (below_step zhb hb);clear HB;have HB:=n0_;clear n0_;(try clear hb);(try clear hb2);(try clear hk);(try clear hi);(try simp only [errW_none,errW_some])))
  repeat (go_quiet (first|(go_at_call 20;(with_reducible refine (strings_CutPrefix.calls a0 (⟨#[99]⟩:ByteArray) t119 false _ A2.out).mono ?_);rintro e w9 ⟨rfl,hb⟩;have n0_:=Aside0.mk (below_step zhb hb);clear HB;have HB:=n0_;clear n0_;(try clear hb);(try clear hb2);(try clear hk);(try clear hi))|(go_at_call 18;(with_reducible refine (strconv_Atoi.calls t119 t121 t122 _ A3.out).mono ?_);rintro e w10 ⟨ev_,hv_,rfl,hb⟩;clear hv_;have n0_:=Aside0.mk (below_step zhb hb);clear HB;have HB:=n0_;clear n0_;(try clear hb);(try clear hb2);(try clear hk);(try clear hi);(try simp only [errW_none,errW_some])));try go_wp2_with (first|(go_at_call 20;(with_reducible refine (strings_CutPrefix.calls a0 (⟨#[99]⟩:ByteArray) t119 false _ A2.out).mono ?_);rintro e w9 ⟨rfl,hb⟩;have n0_:=Aside0.mk (below_step zhb hb);clear HB;have HB:=n0_;clear n0_;(try clear hb);(try clear hb2);(try clear hk);(try clear hi))|(go_at_call 18;(with_reducible refine (strconv_Atoi.calls t119 t121 t122 _ A3.out).mono ?_);rintro e w10 ⟨ev_,hv_,rfl,hb⟩;clear hv_;have n0_:=Aside0.mk (below_step zhb hb);clear HB;have HB:=n0_;clear n0_;(try clear hb);(try clear hb2);(try clear hk);(try clear hi);(try simp only [errW_none,errW_some]))))
  go_ret2
  exact ⟨by first|rfl|(simp [errW_none,errW_some] <;> rfl)|(simp [*,errW_none,errW_some] <;> rfl),zhb⟩

-- NOT PRINTED: function 27 (impl_reckoningOf)

/-! ### impl_colReckoning_cell: function 78 -/
def impl_colReckoning_cell.f (a0_0:Int):Option (Int × Int × Int × Int):=some (1,a0_0,0,0)
set_option maxHeartbeats 8000000 in
set_option maxRecDepth 100000 in
theorem impl_colReckoning_cell.calls (a0_0:Int) (r1:Int) (r2:Int) (r3:Int) (r4:Int) (w:World) (h:impl_colReckoning_cell.f a0_0=some (r1,r2,r3,r4)) :
  Calls Tryd.prog 78 #[.agg #[.int .i64 a0_0]] w fun e w'=>e=.returned (.agg #[.int .i64 r1,.int .i64 r2,.int .i64 r3,.int .i64 r4])∧Below w.heap.size w w':=by
 have hu65:=Tryd.underlying65
 have hu23:=Tryd.underlying23
 have HB:=Aside0.mk (Below.refl w.heap.size w)
 have H:(some (1,a0_0,0,0))=some (r1,r2,r3,r4):=h
 clear h
 simp only [Option.some.injEq,Prod.mk.injEq] at H
 obtain ⟨rfl,rfl,rfl,rfl⟩:=H
 go_enter Tryd.func78,Tryd.ntmps78
 go_wp2_with (first|((with_reducible refine gate_dst (N:=1) rfl ?_);refine box_event ?hg (N:=1) ?hd (cs:=#[.int .i64 a0_0]) (t:=65) ?hr ?_;(case hd=>rfl);(case hg=>rfl);(case hr=>first|(go_simp;done)|(go_simp;rfl));intro gb124 hg w2 hbox hb;have n0_:=Aside0.mk (below_step zhb hb);have n1_:=Aside0.mk (hbox);have n2_:=Aside0.mk ((by rw [hg];exact (below_size zhb):w.heap.size≤gb124));have n3_:=Aside0.mk ((by rw [hg];exact (below_size zhb):w.heap.size≤gb124));clear HB;have HB:=n0_;have BK124:=n1_;have GW124:=n2_;have GE124:=n3_;clear n0_ n1_ n2_ n3_;clear hb hbox hg)|((with_reducible refine gate_dst (N:=2) rfl ?_);refine box_event ?hg (N:=2) ?hd (cs:=#[.int .i64 0,.int .i64 0,.int .i64 0,.int .i64 0]) (t:=23) ?hr ?_;(case hd=>rfl);(case hg=>rfl);(case hr=>first|(go_simp;done)|(go_simp;rfl));intro gb125 hg w3 hbox hb;have n0_:=Aside0.mk (blk_below (g:=gb124) (o:=.cells #[.int .i64 a0_0] 65 (0,0)) (by (with_reducible repeat (first|refine blk_drewN ?_ _|refine blk_drew ?_|refine blk_alloc ?_ _));exact BK124.out) hb);have n1_:=Aside0.mk (below_step (by repeat (first|(with_reducible first|exact HB.out|apply below_alloc|apply pw_below_drewN|apply below_drew1|refine below_set ?_ GE124.out)|exact HB.out)) hb);have n2_:=Aside0.mk (hbox);have n3_:=Aside0.mk ((by rw [hg];exact (below_size (by repeat (first|(with_reducible first|exact HB.out|apply below_alloc|apply pw_below_drewN|apply below_drew1|refine below_set ?_ GE124.out)|exact HB.out))):w.heap.size≤gb125));have n4_:=Aside0.mk ((by rw [hg];exact (below_size (by repeat (first|(with_reducible first|exact HB.out|apply below_alloc|apply pw_below_drewN|apply below_drew1|refine below_set ?_ GE124.out)|exact HB.out))):w.heap.size≤gb125));have n5_:=Aside0.mk ((by rw [hg];exact Nat.ne_of_lt (blk_lt (g:=gb124) (o:=.cells #[.int .i64 a0_0] 65 (0,0)) (by (with_reducible repeat (first|refine blk_drewN ?_ _|refine blk_drew ?_|refine blk_alloc ?_ _));exact BK124.out)):gb124≠gb125));have n6_:=Aside0.mk ((by rw [hg];exact Nat.ne_of_gt (blk_lt (g:=gb124) (o:=.cells #[.int .i64 a0_0] 65 (0,0)) (by (with_reducible repeat (first|refine blk_drewN ?_ _|refine blk_drew ?_|refine blk_alloc ?_ _));exact BK124.out)):gb125≠gb124));clear BK124;clear HB;have BK124:=n0_;have HB:=n1_;have BK125:=n2_;have GW125:=n3_;have GE125:=n4_;have NB124_125:=n5_;have NB125_124:=n6_;clear n0_ n1_ n2_ n3_ n4_ n5_ n6_;clear hb hbox hg;have hnb4:=NB124_125.out;have hnc4:=NB125_124.out;have hcz5_0:w3.cell? ⟨gb124,0,none⟩=some (.int .i64 a0_0):=(blk_cell BK124.out 0).trans rfl;have hfz5_0:=blk_frozen BK124.out 0;have hcz6_0:w3.cell? ⟨gb125,0,none⟩=some (.int .i64 0):=(blk_cell BK125.out 0).trans rfl;have hcz6_1:w3.cell? ⟨gb125,1,none⟩=some (.int .i64 0):=(blk_cell BK125.out 1).trans rfl;have hcz6_2:w3.cell? ⟨gb125,2,none⟩=some (.int .i64 0):=(blk_cell BK125.out 2).trans rfl;have hcz6_3:w3.cell? ⟨gb125,3,none⟩=some (.int .i64 0):=(blk_cell BK125.out 3).trans rfl;have hfz6_0:=blk_frozen BK125.out 0;have hfz6_1:=blk_frozen BK125.out 1;have hfz6_2:=blk_frozen BK125.out 2;have hfz6_3:=blk_frozen BK125.out 3))
 refine bodyPost_ret (results_cell_row rfl _ _ gb125 23 #[.int .i64 1,.int .i64 a0_0,.int .i64 0,.int .i64 0] (0,0) _ rfl (by (with_reducible repeat (first|refine blk_drewN ?_ _|refine blk_drew ?_|refine blk_alloc ?_ _));refine blk_put (cs:=#[.int .i64 1,.int .i64 a0_0,.int .i64 0,.int .i64 0]) ?_ 3 _ rfl;(with_reducible repeat (first|refine blk_drewN ?_ _|refine blk_drew ?_|refine blk_alloc ?_ _));refine blk_put (cs:=#[.int .i64 1,.int .i64 a0_0,.int .i64 0,.int .i64 0]) ?_ 2 _ rfl;(with_reducible repeat (first|refine blk_drewN ?_ _|refine blk_drew ?_|refine blk_alloc ?_ _));refine blk_put (cs:=#[.int .i64 1,.int .i64 0,.int .i64 0,.int .i64 0]) ?_ 1 _ rfl;(with_reducible repeat (first|refine blk_drewN ?_ _|refine blk_drew ?_|refine blk_alloc ?_ _));refine blk_put (cs:=#[.int .i64 0,.int .i64 0,.int .i64 0,.int .i64 0]) ?_ 0 _ rfl;(with_reducible repeat (first|refine blk_drewN ?_ _|refine blk_drew ?_|refine blk_alloc ?_ _));exact BK125.out) Tryd.underlying23 rfl (by kernel_rfl)) rfl ?_
 exact ⟨by first|rfl|(simp [errW_none,errW_some] <;> rfl)|(simp [*,errW_none,errW_some] <;> rfl),by repeat (first|(with_reducible first|exact HB.out|apply below_alloc|apply pw_below_drewN|apply below_drew1|refine below_set ?_ GE124.out|refine below_set ?_ GE125.out)|exact HB.out)⟩

/-! ### impl_isPlace: function 82 -/
def impl_isPlace.f (a0:Int) (a1:Int):Option (Bool):=if a0 ≥ 0 then (some (decide (a0 < (mn a1 6)))) else (some false)
set_option maxHeartbeats 8000000 in
set_option maxRecDepth 100000 in
theorem impl_isPlace.calls (a0:Int) (a1:Int) (r:Bool) (w:World) (h:impl_isPlace.f a0 a1=some r) :
  Calls Tryd.prog 82 #[.int .i64 a0,.int .i64 a1] w fun e w'=>e=.returned (.bool r)∧Below w.heap.size w w':=by
 have HB:=Aside0.mk (Below.refl w.heap.size w)
 have H:(if a0 ≥ 0 then (some (decide (a0 < (mn a1 6)))) else (some false))=some r:=h
 clear h
 by_cases c3:a0 ≥ 0
 ·rw [if_pos c3] at H
  have c3b0:decide (0≤a0)=true:=decide_eq_true c3
  clear c3
  obtain ⟨ji4,hji4⟩ : ∃ j_:Int,(mn a1 6)=j_:=⟨_,rfl⟩
  replace H:(some (decide (a0 < (ji4))))=some r:=by first|(rw [hji4] at H;exact H)|(simp only [hji4] at H ⊢;exact H)
  (try (have hji4h:ji4≤6:=by (rw [← hji4];unfold mn;(repeat' split) <;> omega)))
  (try (have hji4g:ji4≤64:=by omega))
  have hji4_:(if 6 < a1 then 6 else a1)=ji4:=hji4
  obtain rfl:=Option.some.inj H
  go_enter Tryd.func82,Tryd.ntmps82
  go_wp2
  go_ret
  exact ⟨by first|rfl|(simp [errW_none,errW_some] <;> rfl)|(simp only [← hji4];first|rfl|(simp [errW_none,errW_some] <;> rfl))|(simp [*,errW_none,errW_some] <;> rfl),zhb⟩
 ·rw [if_neg c3] at H
  have c3b0:decide (0≤a0)=false:=decide_eq_false c3
  clear c3
  obtain rfl:=Option.some.inj H
  go_enter Tryd.func82,Tryd.ntmps82
  go_wp2
  go_ret
  exact ⟨by first|rfl|(simp [errW_none,errW_some] <;> rfl)|(simp [*,errW_none,errW_some] <;> rfl),zhb⟩

/-! ### impl_colReckoning_ok: function 80 -/
def impl_colReckoning_ok.f (a0_0:Int) (a1:Int):Option (Bool):=(impl_isPlace.f a0_0 a1).bind fun t127=>(some t127)
set_option maxHeartbeats 8000000 in
set_option maxRecDepth 100000 in
theorem impl_colReckoning_ok.calls (a0_0:Int) (a1:Int) (r:Bool) (w:World) (h:impl_colReckoning_ok.f a0_0 a1=some r) :
  Calls Tryd.prog 80 #[.agg #[.int .i64 a0_0],.int .i64 a1] w fun e w'=>e=.returned (.bool r)∧Below w.heap.size w w':=by
 have hu65:=Tryd.underlying65
 have HB:=Aside0.mk (Below.refl w.heap.size w)
 have H:((impl_isPlace.f a0_0 a1).bind fun t127=>(some t127))=some r:=h
 clear h
 replace H:=Option.bind_eq_some_iff.mp H
 obtain ⟨t127,A30,H⟩:=H
 (try dsimp only at H)
 have A3:=Aside0.mk A30
 clear A30
 obtain rfl:=Option.some.inj H
 go_enter Tryd.func80,Tryd.ntmps80
 go_wp2_with (first|((with_reducible refine gate_dst (N:=2) rfl ?_);refine box_event ?hg (N:=2) ?hd (cs:=#[.int .i64 a0_0]) (t:=65) ?hr ?_;(case hd=>rfl);(case hg=>rfl);(case hr=>first|(go_simp;done)|(go_simp;rfl));intro gb126 hg w4 hbox hb;have n0_:=Aside0.mk (below_step zhb hb);have n1_:=Aside0.mk (hbox);have n2_:=Aside0.mk ((by rw [hg];exact (below_size zhb):w.heap.size≤gb126));have n3_:=Aside0.mk ((by rw [hg];exact (below_size zhb):w.heap.size≤gb126));clear HB;have HB:=n0_;have BK126:=n1_;have GW126:=n2_;have GE126:=n3_;clear n0_ n1_ n2_ n3_;clear hb hbox hg;have hcz5_0:w4.cell? ⟨gb126,0,none⟩=some (.int .i64 a0_0):=(blk_cell BK126.out 0).trans rfl;have hfz5_0:=blk_frozen BK126.out 0)|((with_reducible refine gate_callee (f:=82) rfl ?_);refine goesL_ (some 8) rfl rfl Tryd.func82 (by kernel_rfl) rfl #[.int .i64 a0_0,.int .i64 a1] rfl zar ?_;(with_reducible refine (impl_isPlace.calls a0_0 a1 t127 _ A3.out).mono ?_);rintro e w6 ⟨rfl,hb⟩;refine ⟨_,rfl,?_⟩;have n0_:=Aside0.mk (blk_below (g:=gb126) (o:=.cells #[.int .i64 a0_0] 65 (0,0)) (by (with_reducible repeat (first|refine blk_drewN ?_ _|refine blk_drew ?_|refine blk_alloc ?_ _));exact BK126.out) hb);have n1_:=Aside0.mk (below_step (by repeat (first|(with_reducible first|exact HB.out|apply below_alloc|apply pw_below_drewN|apply below_drew1|refine below_set ?_ GE126.out)|exact HB.out)) hb);clear BK126;clear HB;have BK126:=n0_;have HB:=n1_;clear n0_ n1_;(try clear hb);(try clear hb2);(try clear hk);(try clear hi)))
 go_ret
 exact ⟨by first|rfl|(simp [errW_none,errW_some] <;> rfl)|(simp [*,errW_none,errW_some] <;> rfl),by repeat (first|(with_reducible first|exact HB.out|apply below_alloc|apply pw_below_drewN|apply below_drew1|refine below_set ?_ GE126.out)|exact HB.out)⟩

/-! ### impl_numReckoning_cell: function 83 -/
def impl_numReckoning_cell.f (a0_0:Int):Option (Int × Int × Int × Int):=some (2,0,0,a0_0)
set_option maxHeartbeats 8000000 in
set_option maxRecDepth 100000 in
theorem impl_numReckoning_cell.calls (a0_0:Int) (r1:Int) (r2:Int) (r3:Int) (r4:Int) (w:World) (h:impl_numReckoning_cell.f a0_0=some (r1,r2,r3,r4)) :
  Calls Tryd.prog 83 #[.agg #[.int .i64 a0_0]] w fun e w'=>e=.returned (.agg #[.int .i64 r1,.int .i64 r2,.int .i64 r3,.int .i64 r4])∧Below w.heap.size w w':=by
 have hu67:=Tryd.underlying67
 have hu23:=Tryd.underlying23
 have HB:=Aside0.mk (Below.refl w.heap.size w)
 have H:(some (2,0,0,a0_0))=some (r1,r2,r3,r4):=h
 clear h
 simp only [Option.some.injEq,Prod.mk.injEq] at H
 obtain ⟨rfl,rfl,rfl,rfl⟩:=H
 go_enter Tryd.func83,Tryd.ntmps83
 go_wp2_with (first|((with_reducible refine gate_dst (N:=1) rfl ?_);refine box_event ?hg (N:=1) ?hd (cs:=#[.int .i64 a0_0]) (t:=67) ?hr ?_;(case hd=>rfl);(case hg=>rfl);(case hr=>first|(go_simp;done)|(go_simp;rfl));intro gb128 hg w2 hbox hb;have n0_:=Aside0.mk (below_step zhb hb);have n1_:=Aside0.mk (hbox);have n2_:=Aside0.mk ((by rw [hg];exact (below_size zhb):w.heap.size≤gb128));have n3_:=Aside0.mk ((by rw [hg];exact (below_size zhb):w.heap.size≤gb128));clear HB;have HB:=n0_;have BK128:=n1_;have GW128:=n2_;have GE128:=n3_;clear n0_ n1_ n2_ n3_;clear hb hbox hg)|((with_reducible refine gate_dst (N:=2) rfl ?_);refine box_event ?hg (N:=2) ?hd (cs:=#[.int .i64 0,.int .i64 0,.int .i64 0,.int .i64 0]) (t:=23) ?hr ?_;(case hd=>rfl);(case hg=>rfl);(case hr=>first|(go_simp;done)|(go_simp;rfl));intro gb129 hg w3 hbox hb;have n0_:=Aside0.mk (blk_below (g:=gb128) (o:=.cells #[.int .i64 a0_0] 67 (0,0)) (by (with_reducible repeat (first|refine blk_drewN ?_ _|refine blk_drew ?_|refine blk_alloc ?_ _));exact BK128.out) hb);have n1_:=Aside0.mk (below_step (by repeat (first|(with_reducible first|exact HB.out|apply below_alloc|apply pw_below_drewN|apply below_drew1|refine below_set ?_ GE128.out)|exact HB.out)) hb);have n2_:=Aside0.mk (hbox);have n3_:=Aside0.mk ((by rw [hg];exact (below_size (by repeat (first|(with_reducible first|exact HB.out|apply below_alloc|apply pw_below_drewN|apply below_drew1|refine below_set ?_ GE128.out)|exact HB.out))):w.heap.size≤gb129));have n4_:=Aside0.mk ((by rw [hg];exact (below_size (by repeat (first|(with_reducible first|exact HB.out|apply below_alloc|apply pw_below_drewN|apply below_drew1|refine below_set ?_ GE128.out)|exact HB.out))):w.heap.size≤gb129));have n5_:=Aside0.mk ((by rw [hg];exact Nat.ne_of_lt (blk_lt (g:=gb128) (o:=.cells #[.int .i64 a0_0] 67 (0,0)) (by (with_reducible repeat (first|refine blk_drewN ?_ _|refine blk_drew ?_|refine blk_alloc ?_ _));exact BK128.out)):gb128≠gb129));have n6_:=Aside0.mk ((by rw [hg];exact Nat.ne_of_gt (blk_lt (g:=gb128) (o:=.cells #[.int .i64 a0_0] 67 (0,0)) (by (with_reducible repeat (first|refine blk_drewN ?_ _|refine blk_drew ?_|refine blk_alloc ?_ _));exact BK128.out)):gb129≠gb128));clear BK128;clear HB;have BK128:=n0_;have HB:=n1_;have BK129:=n2_;have GW129:=n3_;have GE129:=n4_;have NB128_129:=n5_;have NB129_128:=n6_;clear n0_ n1_ n2_ n3_ n4_ n5_ n6_;clear hb hbox hg;have hnb4:=NB128_129.out;have hnc4:=NB129_128.out;have hcz5_0:w3.cell? ⟨gb128,0,none⟩=some (.int .i64 a0_0):=(blk_cell BK128.out 0).trans rfl;have hfz5_0:=blk_frozen BK128.out 0;have hcz6_0:w3.cell? ⟨gb129,0,none⟩=some (.int .i64 0):=(blk_cell BK129.out 0).trans rfl;have hcz6_1:w3.cell? ⟨gb129,1,none⟩=some (.int .i64 0):=(blk_cell BK129.out 1).trans rfl;have hcz6_2:w3.cell? ⟨gb129,2,none⟩=some (.int .i64 0):=(blk_cell BK129.out 2).trans rfl;have hcz6_3:w3.cell? ⟨gb129,3,none⟩=some (.int .i64 0):=(blk_cell BK129.out 3).trans rfl;have hfz6_0:=blk_frozen BK129.out 0;have hfz6_1:=blk_frozen BK129.out 1;have hfz6_2:=blk_frozen BK129.out 2;have hfz6_3:=blk_frozen BK129.out 3))
 refine bodyPost_ret (results_cell_row rfl _ _ gb129 23 #[.int .i64 2,.int .i64 0,.int .i64 0,.int .i64 a0_0] (0,0) _ rfl (by (with_reducible repeat (first|refine blk_drewN ?_ _|refine blk_drew ?_|refine blk_alloc ?_ _));refine blk_put (cs:=#[.int .i64 2,.int .i64 0,.int .i64 0,.int .i64 0]) ?_ 3 _ rfl;(with_reducible repeat (first|refine blk_drewN ?_ _|refine blk_drew ?_|refine blk_alloc ?_ _));refine blk_put (cs:=#[.int .i64 2,.int .i64 0,.int .i64 0,.int .i64 0]) ?_ 2 _ rfl;(with_reducible repeat (first|refine blk_drewN ?_ _|refine blk_drew ?_|refine blk_alloc ?_ _));refine blk_put (cs:=#[.int .i64 2,.int .i64 0,.int .i64 0,.int .i64 0]) ?_ 1 _ rfl;(with_reducible repeat (first|refine blk_drewN ?_ _|refine blk_drew ?_|refine blk_alloc ?_ _));refine blk_put (cs:=#[.int .i64 0,.int .i64 0,.int .i64 0,.int .i64 0]) ?_ 0 _ rfl;(with_reducible repeat (first|refine blk_drewN ?_ _|refine blk_drew ?_|refine blk_alloc ?_ _));exact BK129.out) Tryd.underlying23 rfl (by kernel_rfl)) rfl ?_
 exact ⟨by first|rfl|(simp [errW_none,errW_some] <;> rfl)|(simp [*,errW_none,errW_some] <;> rfl),by repeat (first|(with_reducible first|exact HB.out|apply below_alloc|apply pw_below_drewN|apply below_drew1|refine below_set ?_ GE128.out|refine below_set ?_ GE129.out)|exact HB.out)⟩

/-! ### impl_isCell: function 87 -/
def impl_isCell.f (a0:Int):Option (Bool):=if a0 ≥ (-1000000000) then (some (decide (a0≤1000000000))) else (some false)
set_option maxHeartbeats 8000000 in
set_option maxRecDepth 100000 in
theorem impl_isCell.calls (a0:Int) (r:Bool) (w:World) (h:impl_isCell.f a0=some r) :
  Calls Tryd.prog 87 #[.int .i64 a0] w fun e w'=>e=.returned (.bool r)∧Drawn0 w w':=by
 have H:(if a0 ≥ (-1000000000) then (some (decide (a0≤1000000000))) else (some false))=some r:=h
 clear h
 by_cases c2:a0 ≥ (-1000000000)
 ·rw [if_pos c2] at H
  have c2b0:decide ((-1000000000)≤a0)=true:=decide_eq_true c2
  clear c2
  obtain rfl:=Option.some.inj H
  go_enter Tryd.func87,Tryd.ntmps87
  go_wp2
  go_ret
  exact ⟨by first|rfl|(simp;done)|(simp [*];done),zdw⟩
 ·rw [if_neg c2] at H
  have c2b0:decide ((-1000000000)≤a0)=false:=decide_eq_false c2
  clear c2
  obtain rfl:=Option.some.inj H
  go_enter Tryd.func87,Tryd.ntmps87
  go_wp2
  go_ret
  exact ⟨by first|rfl|(simp;done)|(simp [*];done),zdw⟩

/-! ### impl_numReckoning_ok: function 85 -/
def impl_numReckoning_ok.f (a0_0:Int) (a1:Int):Option (Bool):=(impl_isCell.f a0_0).bind fun t131=>(some t131)
set_option maxHeartbeats 8000000 in
set_option maxRecDepth 100000 in
theorem impl_numReckoning_ok.calls (a0_0:Int) (a1:Int) (r:Bool) (w:World) (h:impl_numReckoning_ok.f a0_0 a1=some r) :
  Calls Tryd.prog 85 #[.agg #[.int .i64 a0_0],.int .i64 a1] w fun e w'=>e=.returned (.bool r)∧Below w.heap.size w w':=by
 have hu67:=Tryd.underlying67
 have HB:=Aside0.mk (Below.refl w.heap.size w)
 have H:((impl_isCell.f a0_0).bind fun t131=>(some t131))=some r:=h
 clear h
 replace H:=Option.bind_eq_some_iff.mp H
 obtain ⟨t131,A30,H⟩:=H
 (try dsimp only at H)
 have A3:=Aside0.mk A30
 clear A30
 obtain rfl:=Option.some.inj H
 go_enter Tryd.func85,Tryd.ntmps85
 go_wp2_with (first|((with_reducible refine gate_dst (N:=2) rfl ?_);refine box_event ?hg (N:=2) ?hd (cs:=#[.int .i64 a0_0]) (t:=67) ?hr ?_;(case hd=>rfl);(case hg=>rfl);(case hr=>first|(go_simp;done)|(go_simp;rfl));intro gb130 hg w4 hbox hb;have n0_:=Aside0.mk (below_step zhb hb);have n1_:=Aside0.mk (hbox);have n2_:=Aside0.mk ((by rw [hg];exact (below_size zhb):w.heap.size≤gb130));have n3_:=Aside0.mk ((by rw [hg];exact (below_size zhb):w.heap.size≤gb130));clear HB;have HB:=n0_;have BK130:=n1_;have GW130:=n2_;have GE130:=n3_;clear n0_ n1_ n2_ n3_;clear hb hbox hg;have hcz5_0:w4.cell? ⟨gb130,0,none⟩=some (.int .i64 a0_0):=(blk_cell BK130.out 0).trans rfl;have hfz5_0:=blk_frozen BK130.out 0)|((with_reducible refine gate_callee (f:=87) rfl ?_);refine goesL_ (some 7) rfl rfl Tryd.func87 (by kernel_rfl) rfl #[.int .i64 a0_0] rfl zar ?_;(with_reducible refine (impl_isCell.calls a0_0 t131 _ A3.out).mono ?_);rintro e w' ⟨rfl,⟨nd,rfl⟩⟩;refine ⟨_,rfl,?_⟩))
 go_ret
 exact ⟨by first|rfl|(simp [errW_none,errW_some] <;> rfl)|(simp [*,errW_none,errW_some] <;> rfl),by repeat (first|(with_reducible first|exact HB.out|apply below_alloc|apply pw_below_drewN|apply below_drew1|refine below_set ?_ GE130.out)|exact HB.out)⟩

/-! ### impl_sumReckoning_cell: function 88 -/
def impl_sumReckoning_cell.f (a0_0:Int) (a0_1:Int):Option (Int × Int × Int × Int):=some (3,a0_0,a0_1,0)
set_option maxHeartbeats 8000000 in
set_option maxRecDepth 100000 in
theorem impl_sumReckoning_cell.calls (a0_0:Int) (a0_1:Int) (r1:Int) (r2:Int) (r3:Int) (r4:Int) (w:World) (h:impl_sumReckoning_cell.f a0_0 a0_1=some (r1,r2,r3,r4)) :
  Calls Tryd.prog 88 #[.agg #[.int .i64 a0_0,.int .i64 a0_1]] w fun e w'=>e=.returned (.agg #[.int .i64 r1,.int .i64 r2,.int .i64 r3,.int .i64 r4])∧Below w.heap.size w w':=by
 have hu69:=Tryd.underlying69
 have hu23:=Tryd.underlying23
 have HB:=Aside0.mk (Below.refl w.heap.size w)
 have H:(some (3,a0_0,a0_1,0))=some (r1,r2,r3,r4):=h
 clear h
 simp only [Option.some.injEq,Prod.mk.injEq] at H
 obtain ⟨rfl,rfl,rfl,rfl⟩:=H
 go_enter Tryd.func88,Tryd.ntmps88
 go_wp2_with (first|((with_reducible refine gate_dst (N:=1) rfl ?_);refine box_event ?hg (N:=1) ?hd (cs:=#[.int .i64 a0_0,.int .i64 a0_1]) (t:=69) ?hr ?_;(case hd=>rfl);(case hg=>rfl);(case hr=>first|(go_simp;done)|(go_simp;rfl));intro gb132 hg w2 hbox hb;have n0_:=Aside0.mk (below_step zhb hb);have n1_:=Aside0.mk (hbox);have n2_:=Aside0.mk ((by rw [hg];exact (below_size zhb):w.heap.size≤gb132));have n3_:=Aside0.mk ((by rw [hg];exact (below_size zhb):w.heap.size≤gb132));clear HB;have HB:=n0_;have BK132:=n1_;have GW132:=n2_;have GE132:=n3_;clear n0_ n1_ n2_ n3_;clear hb hbox hg)|((with_reducible refine gate_dst (N:=2) rfl ?_);refine box_event ?hg (N:=2) ?hd (cs:=#[.int .i64 0,.int .i64 0,.int .i64 0,.int .i64 0]) (t:=23) ?hr ?_;(case hd=>rfl);(case hg=>rfl);(case hr=>first|(go_simp;done)|(go_simp;rfl));intro gb133 hg w3 hbox hb;have n0_:=Aside0.mk (blk_below (g:=gb132) (o:=.cells #[.int .i64 a0_0,.int .i64 a0_1] 69 (0,0)) (by (with_reducible repeat (first|refine blk_drewN ?_ _|refine blk_drew ?_|refine blk_alloc ?_ _));exact BK132.out) hb);have n1_:=Aside0.mk (below_step (by repeat (first|(with_reducible first|exact HB.out|apply below_alloc|apply pw_below_drewN|apply below_drew1|refine below_set ?_ GE132.out)|exact HB.out)) hb);have n2_:=Aside0.mk (hbox);have n3_:=Aside0.mk ((by rw [hg];exact (below_size (by repeat (first|(with_reducible first|exact HB.out|apply below_alloc|apply pw_below_drewN|apply below_drew1|refine below_set ?_ GE132.out)|exact HB.out))):w.heap.size≤gb133));have n4_:=Aside0.mk ((by rw [hg];exact (below_size (by repeat (first|(with_reducible first|exact HB.out|apply below_alloc|apply pw_below_drewN|apply below_drew1|refine below_set ?_ GE132.out)|exact HB.out))):w.heap.size≤gb133));have n5_:=Aside0.mk ((by rw [hg];exact Nat.ne_of_lt (blk_lt (g:=gb132) (o:=.cells #[.int .i64 a0_0,.int .i64 a0_1] 69 (0,0)) (by (with_reducible repeat (first|refine blk_drewN ?_ _|refine blk_drew ?_|refine blk_alloc ?_ _));exact BK132.out)):gb132≠gb133));have n6_:=Aside0.mk ((by rw [hg];exact Nat.ne_of_gt (blk_lt (g:=gb132) (o:=.cells #[.int .i64 a0_0,.int .i64 a0_1] 69 (0,0)) (by (with_reducible repeat (first|refine blk_drewN ?_ _|refine blk_drew ?_|refine blk_alloc ?_ _));exact BK132.out)):gb133≠gb132));clear BK132;clear HB;have BK132:=n0_;have HB:=n1_;have BK133:=n2_;have GW133:=n3_;have GE133:=n4_;have NB132_133:=n5_;have NB133_132:=n6_;clear n0_ n1_ n2_ n3_ n4_ n5_ n6_;clear hb hbox hg;have hnb4:=NB132_133.out;have hnc4:=NB133_132.out;have hcz5_0:w3.cell? ⟨gb132,0,none⟩=some (.int .i64 a0_0):=(blk_cell BK132.out 0).trans rfl;have hcz5_1:w3.cell? ⟨gb132,1,none⟩=some (.int .i64 a0_1):=(blk_cell BK132.out 1).trans rfl;have hfz5_0:=blk_frozen BK132.out 0;have hfz5_1:=blk_frozen BK132.out 1;have hcz6_0:w3.cell? ⟨gb133,0,none⟩=some (.int .i64 0):=(blk_cell BK133.out 0).trans rfl;have hcz6_1:w3.cell? ⟨gb133,1,none⟩=some (.int .i64 0):=(blk_cell BK133.out 1).trans rfl;have hcz6_2:w3.cell? ⟨gb133,2,none⟩=some (.int .i64 0):=(blk_cell BK133.out 2).trans rfl;have hcz6_3:w3.cell? ⟨gb133,3,none⟩=some (.int .i64 0):=(blk_cell BK133.out 3).trans rfl;have hfz6_0:=blk_frozen BK133.out 0;have hfz6_1:=blk_frozen BK133.out 1;have hfz6_2:=blk_frozen BK133.out 2;have hfz6_3:=blk_frozen BK133.out 3))
 refine bodyPost_ret (results_cell_row rfl _ _ gb133 23 #[.int .i64 3,.int .i64 a0_0,.int .i64 a0_1,.int .i64 0] (0,0) _ rfl (by (with_reducible repeat (first|refine blk_drewN ?_ _|refine blk_drew ?_|refine blk_alloc ?_ _));refine blk_put (cs:=#[.int .i64 3,.int .i64 a0_0,.int .i64 a0_1,.int .i64 0]) ?_ 3 _ rfl;(with_reducible repeat (first|refine blk_drewN ?_ _|refine blk_drew ?_|refine blk_alloc ?_ _));refine blk_put (cs:=#[.int .i64 3,.int .i64 a0_0,.int .i64 0,.int .i64 0]) ?_ 2 _ rfl;(with_reducible repeat (first|refine blk_drewN ?_ _|refine blk_drew ?_|refine blk_alloc ?_ _));refine blk_put (cs:=#[.int .i64 3,.int .i64 0,.int .i64 0,.int .i64 0]) ?_ 1 _ rfl;(with_reducible repeat (first|refine blk_drewN ?_ _|refine blk_drew ?_|refine blk_alloc ?_ _));refine blk_put (cs:=#[.int .i64 0,.int .i64 0,.int .i64 0,.int .i64 0]) ?_ 0 _ rfl;(with_reducible repeat (first|refine blk_drewN ?_ _|refine blk_drew ?_|refine blk_alloc ?_ _));exact BK133.out) Tryd.underlying23 rfl (by kernel_rfl)) rfl ?_
 exact ⟨by first|rfl|(simp [errW_none,errW_some] <;> rfl)|(simp [*,errW_none,errW_some] <;> rfl),by repeat (first|(with_reducible first|exact HB.out|apply below_alloc|apply pw_below_drewN|apply below_drew1|refine below_set ?_ GE132.out|refine below_set ?_ GE133.out)|exact HB.out)⟩

/-! ### impl_sumReckoning_ok: function 90 -/
def impl_sumReckoning_ok.f (a0_0:Int) (a0_1:Int) (a1:Int):Option (Bool):=(impl_isPlace.f a0_0 a1).bind fun t135=>(if t135=true then ((impl_isPlace.f a0_1 a1).bind fun t136=>(some t136)) else (some false))
set_option maxHeartbeats 8000000 in
set_option maxRecDepth 100000 in
theorem impl_sumReckoning_ok.calls (a0_0:Int) (a0_1:Int) (a1:Int) (r:Bool) (w:World) (h:impl_sumReckoning_ok.f a0_0 a0_1 a1=some r) :
  Calls Tryd.prog 90 #[.agg #[.int .i64 a0_0,.int .i64 a0_1],.int .i64 a1] w fun e w'=>e=.returned (.bool r)∧Below w.heap.size w w':=by
 have hu69:=Tryd.underlying69
 have HB:=Aside0.mk (Below.refl w.heap.size w)
 have H:((impl_isPlace.f a0_0 a1).bind fun t135=>(if t135=true then ((impl_isPlace.f a0_1 a1).bind fun t136=>(some t136)) else (some false)))=some r:=h
 clear h
 replace H:=Option.bind_eq_some_iff.mp H
 obtain ⟨t135,A30,H⟩:=H
 (try dsimp only at H)
 have A3:=Aside0.mk A30
 clear A30
 by_cases c4:t135=true
 ·subst c4
  have H1:((impl_isPlace.f a0_1 a1).bind fun t136=>(some t136))=some r:=by rw [if_pos rfl] at H;exact H
  clear H
  have H:=H1
  clear H1
  replace H:=Option.bind_eq_some_iff.mp H
  obtain ⟨t136,A50,H⟩:=H
  (try dsimp only at H)
  have A5:=Aside0.mk A50
  clear A50
  obtain rfl:=Option.some.inj H
  go_enter Tryd.func90,Tryd.ntmps90
  go_wp2_with (first|((with_reducible refine gate_dst (N:=2) rfl ?_);refine box_event ?hg (N:=2) ?hd (cs:=#[.int .i64 a0_0,.int .i64 a0_1]) (t:=69) ?hr ?_;(case hd=>rfl);(case hg=>rfl);(case hr=>first|(go_simp;done)|(go_simp;rfl));intro gb134 hg w6 hbox hb;have n0_:=Aside0.mk (below_step zhb hb);have n1_:=Aside0.mk (hbox);have n2_:=Aside0.mk ((by rw [hg];exact (below_size zhb):w.heap.size≤gb134));have n3_:=Aside0.mk ((by rw [hg];exact (below_size zhb):w.heap.size≤gb134));clear HB;have HB:=n0_;have BK134:=n1_;have GW134:=n2_;have GE134:=n3_;clear n0_ n1_ n2_ n3_;clear hb hbox hg;have hcz7_0:w6.cell? ⟨gb134,0,none⟩=some (.int .i64 a0_0):=(blk_cell BK134.out 0).trans rfl;have hcz7_1:w6.cell? ⟨gb134,1,none⟩=some (.int .i64 a0_1):=(blk_cell BK134.out 1).trans rfl;have hfz7_0:=blk_frozen BK134.out 0;have hfz7_1:=blk_frozen BK134.out 1)|((with_reducible refine gate_callee (f:=82) rfl ?_);refine goesL_ (some 8) rfl rfl Tryd.func82 (by kernel_rfl) rfl #[.int .i64 a0_0,.int .i64 a1] rfl zar ?_;(with_reducible refine (impl_isPlace.calls a0_0 a1 true _ A3.out).mono ?_);rintro e w8 ⟨rfl,hb⟩;refine ⟨_,rfl,?_⟩;have n0_:=Aside0.mk (blk_below (g:=gb134) (o:=.cells #[.int .i64 a0_0,.int .i64 a0_1] 69 (0,0)) (by (with_reducible repeat (first|refine blk_drewN ?_ _|refine blk_drew ?_|refine blk_alloc ?_ _));exact BK134.out) hb);have n1_:=Aside0.mk (below_step (by repeat (first|(with_reducible first|exact HB.out|apply below_alloc|apply pw_below_drewN|apply below_drew1|refine below_set ?_ GE134.out)|exact HB.out)) hb);clear BK134;clear HB;have BK134:=n0_;have HB:=n1_;clear n0_ n1_;(try clear hb);(try clear hb2);(try clear hk);(try clear hi);have hcz9_0:w8.cell? ⟨gb134,0,none⟩=some (.int .i64 a0_0):=(blk_cell BK134.out 0).trans rfl;have hcz9_1:w8.cell? ⟨gb134,1,none⟩=some (.int .i64 a0_1):=(blk_cell BK134.out 1).trans rfl;have hfz9_0:=blk_frozen BK134.out 0;have hfz9_1:=blk_frozen BK134.out 1)|(go_at_call 82;(with_reducible refine (impl_isPlace.calls a0_1 a1 t136 _ A5.out).mono ?_);rintro e w10 ⟨rfl,hb⟩;have n0_:=Aside0.mk (blk_below (g:=gb134) (o:=.cells #[.int .i64 a0_0,.int .i64 a0_1] 69 (0,0)) (by (with_reducible repeat (first|refine blk_drewN ?_ _|refine blk_drew ?_|refine blk_alloc ?_ _));exact BK134.out) hb);have n1_:=Aside0.mk (below_step (by repeat (first|(with_reducible first|exact HB.out|apply below_alloc|apply pw_below_drewN|apply below_drew1|refine below_set ?_ GE134.out)|exact HB.out)) hb);clear BK134;clear HB;have BK134:=n0_;have HB:=n1_;clear n0_ n1_;(try clear hb);(try clear hb2);(try clear hk);(try clear hi)))
  go_ret
  exact ⟨by first|rfl|(simp [errW_none,errW_some] <;> rfl)|(simp [*,errW_none,errW_some] <;> rfl),by repeat (first|(with_reducible first|exact HB.out|apply below_alloc|apply pw_below_drewN|apply below_drew1|refine below_set ?_ GE134.out)|exact HB.out)⟩
 ·replace c4:=Bool.eq_false_iff.mpr c4
  subst c4
  have H1:(some false)=some r:=by rw [if_neg (show ¬ (false=true) by decide)] at H;exact H
  clear H
  have H:=H1
  clear H1
  obtain rfl:=Option.some.inj H
  go_enter Tryd.func90,Tryd.ntmps90
  go_wp2_with (first|((with_reducible refine gate_dst (N:=2) rfl ?_);refine box_event ?hg (N:=2) ?hd (cs:=#[.int .i64 a0_0,.int .i64 a0_1]) (t:=69) ?hr ?_;(case hd=>rfl);(case hg=>rfl);(case hr=>first|(go_simp;done)|(go_simp;rfl));intro gb134 hg w11 hbox hb;have n0_:=Aside0.mk (below_step zhb hb);have n1_:=Aside0.mk (hbox);have n2_:=Aside0.mk ((by rw [hg];exact (below_size zhb):w.heap.size≤gb134));have n3_:=Aside0.mk ((by rw [hg];exact (below_size zhb):w.heap.size≤gb134));clear HB;have HB:=n0_;have BK134:=n1_;have GW134:=n2_;have GE134:=n3_;clear n0_ n1_ n2_ n3_;clear hb hbox hg;have hcz12_0:w11.cell? ⟨gb134,0,none⟩=some (.int .i64 a0_0):=(blk_cell BK134.out 0).trans rfl;have hcz12_1:w11.cell? ⟨gb134,1,none⟩=some (.int .i64 a0_1):=(blk_cell BK134.out 1).trans rfl;have hfz12_0:=blk_frozen BK134.out 0;have hfz12_1:=blk_frozen BK134.out 1)|((with_reducible refine gate_callee (f:=82) rfl ?_);refine goesL_ (some 8) rfl rfl Tryd.func82 (by kernel_rfl) rfl #[.int .i64 a0_0,.int .i64 a1] rfl zar ?_;(with_reducible refine (impl_isPlace.calls a0_0 a1 false _ A3.out).mono ?_);rintro e w13 ⟨rfl,hb⟩;refine ⟨_,rfl,?_⟩;have n0_:=Aside0.mk (blk_below (g:=gb134) (o:=.cells #[.int .i64 a0_0,.int .i64 a0_1] 69 (0,0)) (by (with_reducible repeat (first|refine blk_drewN ?_ _|refine blk_drew ?_|refine blk_alloc ?_ _));exact BK134.out) hb);have n1_:=Aside0.mk (below_step (by repeat (first|(with_reducible first|exact HB.out|apply below_alloc|apply pw_below_drewN|apply below_drew1|refine below_set ?_ GE134.out)|exact HB.out)) hb);clear BK134;clear HB;have BK134:=n0_;have HB:=n1_;clear n0_ n1_;(try clear hb);(try clear hb2);(try clear hk);(try clear hi)))
  go_ret
  exact ⟨by first|rfl|(simp [errW_none,errW_some] <;> rfl)|(simp [*,errW_none,errW_some] <;> rfl),by repeat (first|(with_reducible first|exact HB.out|apply below_alloc|apply pw_below_drewN|apply below_drew1|refine below_set ?_ GE134.out)|exact HB.out)⟩

end Go.Proofs.YthmcbekemnabdaaDoor.PFnExactTestRead
