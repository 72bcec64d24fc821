-- Written by wip/tools/pp.py, a program of this session over the kit's printer: not the kit's own print
import Derived.Test.YtgcplipimcbhlaaDoorPFnZOrderx0
import Derived.Test.YtgcplipimcbhlaaDoorPFnZOrderx2
namespace Go.Proofs.YtgcplipimcbhlaaDoor.PFnZOrder
open Go.RowKit Go.Proofs.YtgcplipimcbhlaaDoorW.PrintWords Go.Proofs.YtgcplipimcbhlaaDoorW.PrintLast Go.Proofs.YtgcplipimcbhlaaDoorW.PrintMore
attribute [local go_sem] max2_int min2_int max_two min_two max_three min_three max_four min_four   -- for this text's walks alone
set_option linter.unusedVariables false
set_option linter.unusedSimpArgs false

/-! ### slices_Equal_int_int: function 64 -/
def slices_Equal_int_int.l0:Nat→List Int→List Int→Int→Int→Option (Bool)
 | 0,_,_,_,_=>none
 | k + 1,x0,x1,x12,x13=>if x13 < x12 then (if 0≤x13 then (if x13 < (x0.length:Int) then (if x13 < (x1.length:Int) then (if (rd x0 x13)=(rd x1 x13) then (slices_Equal_int_int.l0 k x0 x1 x12 (wrap64 (x13 + 1))) else (some false)) else (none)) else (none)) else (none)) else (some true)
def slices_Equal_int_int.f (k:Nat) (l0:List Int) (l1:List Int):Option (Bool):=if (l0.length:Int)=(l1.length:Int) then (slices_Equal_int_int.l0 k l0 l1 (l0.length:Int) 0) else (some false)
theorem slices_Equal_int_int.mono_l : ∀ k,(∀ y0 y1 y2 y3,LeO (slices_Equal_int_int.l0 k y0 y1 y2 y3) (slices_Equal_int_int.l0 (k + 1) y0 y1 y2 y3))
 | 0=>fun _ _ _ _ r h=>by simp [slices_Equal_int_int.l0] at h
 | k + 1=>by
  have ih0:=slices_Equal_int_int.mono_l k
  ·intro y0 y1 y2 y3
   unfold slices_Equal_int_int.l0
   repeat' first
   | (with_reducible exact ih0 _ _ _ _)
   | (with_reducible exact LeO.refl _)
   | (with_reducible exact LeO.none _)
   | (with_reducible refine LeO.ite ?_ ?_)
   | (with_reducible refine LeO.bind ?_ (fun _=>?_))
   | exact LeO.none _
   | refine LeO.ite ?_ ?_
   | refine LeO.bind ?_ (fun _=>?_)
theorem slices_Equal_int_int.mono : ∀ a0 a1 k,LeO (slices_Equal_int_int.f k a0 a1) (slices_Equal_int_int.f (k + 1) a0 a1):=by
 intro a0 a1 k
 have ih0:=slices_Equal_int_int.mono_l k
 unfold slices_Equal_int_int.f
 repeat' first
   | (with_reducible exact ih0 _ _ _ _)
   | (with_reducible exact LeO.refl _)
   | (with_reducible exact LeO.none _)
   | (with_reducible refine LeO.ite ?_ ?_)
   | (with_reducible refine LeO.bind ?_ (fun _=>?_))
   | exact LeO.none _
   | refine LeO.ite ?_ ?_
   | refine LeO.bind ?_ (fun _=>?_)
set_option maxHeartbeats 8000000 in
set_option maxRecDepth 100000 in
theorem slices_Equal_int_int.calls (k:Nat) (A0:Option Addr) (c0:Nat) (l0:List Int) (A1:Option Addr) (c1:Nat) (l1:List Int) (r:Bool) (w:World) (hr0:Kd.C (Kd.int .i64) w A0 l0.length l0) (hc0:l0.length≤c0) (hr1:Kd.C (Kd.int .i64) w A1 l1.length l1) (hc1:l1.length≤c1) (h:slices_Equal_int_int.f k l0 l1=some r) :
  Calls Tryd.prog 64 #[.slice A0 l0.length c0,.slice A1 l1.length c1] w fun e w'=>e=.returned (.bool r)∧Drawn0 w w':=by
 have HR0:=Aside0.mk hr0
 have HC0:=Aside0.mk hc0
 clear hr0 hc0
 have HR1:=Aside0.mk hr1
 have HC1:=Aside0.mk hc1
 clear hr1 hc1
 have H:(if (l0.length:Int)=(l1.length:Int) then (slices_Equal_int_int.l0 k l0 l1 (l0.length:Int) 0) else (some false))=some r:=h
 clear h
 by_cases c3:(l0.length:Int)=(l1.length:Int)
 ·rw [if_pos c3] at H
  have c3b0:((l0.length:Int) == (l1.length:Int))=true:=beq_iff_eq.mpr c3
  have c3b1:((l0.length:Int) != (l1.length:Int))=false:=bne_eq_false_iff_eq.mpr c3
  have c3b2:(l0.length == l1.length)=true:=by first|simpa using c3|(simp at c3 ⊢;omega)
  clear c3
  have H':=Aside0.mk H
  clear H
  go_enter Tryd.func64,Tryd.ntmps64
  go_wp2
  repeat (go_quiet (fail);try go_wp2)
  go_loopg [13] k (fun kq v13 w'=>∃ (x13_1:Int),v13=.int .i64 x13_1∧Aside0 (slices_Equal_int_int.l0 kq l0 l1 (l0.length:Int) x13_1=some r)∧Aside0 (kq≤k)∧Drawn0 w w')
  case atStart=>exact ⟨(0),(by first|rfl|(simp;done)|(simp [*];done)),H',⟨Nat.le_refl _⟩,zdw⟩
  case round =>
   clear H'
   try clear c1
   try clear p2
   try clear c3
   try clear c3b0
   try clear c3b1
   try clear c3b2
   obtain ⟨x13_1,rfl,HA,HK1,⟨m1,rfl⟩⟩:=hrel
   cases gk with
   | zero=>exact absurd HA.out (by simp [slices_Equal_int_int.l0])
   | succ k1 =>
    have H:=HA.out
    clear HA
    simp only [slices_Equal_int_int.l0] at H
    by_cases c4:x13_1 < (l0.length:Int)
    ·rw [if_pos c4] at H
     have c4b0:decide (x13_1 < (l0.length:Int))=true:=decide_eq_true c4
     clear c4
     by_cases c5:0≤x13_1
     ·rw [if_pos c5] at H
      have c5b0:decide (0≤x13_1)=true:=decide_eq_true c5
      clear c5
      by_cases c6:x13_1 < (l0.length:Int)
      ·rw [if_pos c6] at H
       have c6b0:decide (x13_1 < (l0.length:Int))=true:=decide_eq_true c6
       clear c6
       by_cases c7:x13_1 < (l1.length:Int)
       ·rw [if_pos c7] at H
        have c7b0:decide (x13_1 < (l1.length:Int))=true:=decide_eq_true c7
        clear c7
        by_cases c8:(rd l0 x13_1)=(rd l1 x13_1)
        ·rw [if_pos c8] at H
         have c8b0:((rd l0 x13_1) == (rd l1 x13_1))=true:=beq_iff_eq.mpr c8
         have c8b1:((rd l0 x13_1) != (rd l1 x13_1))=false:=bne_eq_false_iff_eq.mpr c8
         clear c8
         have H':=Aside0.mk H
         clear H
         have p221:0≤(x13_1:Int):=zod
         have q221:x13_1 < (l0.length:Int):=zod
         obtain ⟨ad221,e221,hx221_0⟩:=Kd.at_int HR0.out x13_1 p221 q221
         cases e221
         replace p221:=eq_true p221
         replace q221:=eq_true q221
         have p222:0≤(x13_1:Int):=zod
         have q222:x13_1 < (l1.length:Int):=zod
         obtain ⟨ad222,e222,hx222_0⟩:=Kd.at_int HR1.out x13_1 p222 q222
         cases e222
         replace p222:=eq_true p222
         replace q222:=eq_true q222
         go_wp2
         repeat (go_quiet (fail);try go_wp2)
         go_roundg k1
         case measure=>have:=HK1.out;omega
         case rel=>exact ⟨(wrap64 (x13_1 + 1)),(by first|rfl|(simp;done)|(simp [*];done)),H',⟨by have:=HK1.out;omega⟩,zdw⟩
        ·rw [if_neg c8] at H
         have c8b0:((rd l0 x13_1) == (rd l1 x13_1))=false:=beq_eq_false_iff_ne.mpr c8
         have c8b1:((rd l0 x13_1) != (rd l1 x13_1))=true:=bne_iff_ne.mpr c8
         obtain rfl:=Option.some.inj H
         have p221:0≤(x13_1:Int):=zod
         have q221:x13_1 < (l0.length:Int):=zod
         obtain ⟨ad221,e221,hx221_0⟩:=Kd.at_int HR0.out x13_1 p221 q221
         cases e221
         replace p221:=eq_true p221
         replace q221:=eq_true q221
         have p222:0≤(x13_1:Int):=zod
         have q222:x13_1 < (l1.length:Int):=zod
         obtain ⟨ad222,e222,hx222_0⟩:=Kd.at_int HR1.out x13_1 p222 q222
         cases e222
         replace p222:=eq_true p222
         replace q222:=eq_true q222
         go_wp2
         repeat (go_quiet (fail);try go_wp2)
         go_ret
         exact ⟨by first|rfl|(simp;done)|(simp [*];done),zdw⟩
       ·rw [if_neg c7] at H
        exact absurd H (by simp)
      ·rw [if_neg c6] at H
       exact absurd H (by simp)
     ·rw [if_neg c5] at H
      exact absurd H (by simp)
    ·rw [if_neg c4] at H
     have c4b0:decide (x13_1 < (l0.length:Int))=false:=decide_eq_false c4
     clear c4
     obtain rfl:=Option.some.inj H
     go_wp2
     repeat (go_quiet (fail);try go_wp2)
     go_ret
     exact ⟨by first|rfl|(simp;done)|(simp [*];done),zdw⟩
 ·rw [if_neg c3] at H
  have c3b0:((l0.length:Int) == (l1.length:Int))=false:=beq_eq_false_iff_ne.mpr c3
  have c3b1:((l0.length:Int) != (l1.length:Int))=true:=bne_iff_ne.mpr c3
  have c3b2:(l0.length == l1.length)=false:=by first|simpa using c3|(simp at c3 ⊢;omega)
  obtain rfl:=Option.some.inj H
  go_enter Tryd.func64,Tryd.ntmps64
  go_wp2
  repeat (go_quiet (fail);try go_wp2)
  go_ret
  exact ⟨by first|rfl|(simp;done)|(simp [*];done),zdw⟩

/-! ### impl_RowSame: function 34 -/
def impl_RowSame.f (k:Nat) (l0:List Int) (l1:List Int):Option (Bool):=(slices_Equal_int_int.f k l0 l1).bind fun t223=>(some t223)
theorem impl_RowSame.mono : ∀ a0 a1 k,LeO (impl_RowSame.f k a0 a1) (impl_RowSame.f (k + 1) a0 a1):=by
 intro a0 a1 k
 unfold impl_RowSame.f
 repeat' first
   | (with_reducible exact slices_Equal_int_int.mono _ _ _)
   | (with_reducible exact LeO.refl _)
   | (with_reducible exact LeO.none _)
   | (with_reducible refine LeO.ite ?_ ?_)
   | (with_reducible refine LeO.bind ?_ (fun _=>?_))
   | exact LeO.none _
   | refine LeO.ite ?_ ?_
   | refine LeO.bind ?_ (fun _=>?_)
set_option maxHeartbeats 8000000 in
set_option maxRecDepth 100000 in
theorem impl_RowSame.calls (k:Nat) (A0:Option Addr) (c0:Nat) (l0:List Int) (A1:Option Addr) (c1:Nat) (l1:List Int) (r:Bool) (w:World) (hr0:Kd.C (Kd.int .i64) w A0 l0.length l0) (hc0:l0.length≤c0) (hr1:Kd.C (Kd.int .i64) w A1 l1.length l1) (hc1:l1.length≤c1) (h:impl_RowSame.f k l0 l1=some r) :
  Calls Tryd.prog 34 #[.slice A0 l0.length c0,.slice A1 l1.length c1] w fun e w'=>e=.returned (.bool r)∧Drawn0 w w':=by
 have HR0:=Aside0.mk hr0
 have HC0:=Aside0.mk hc0
 clear hr0 hc0
 have HR1:=Aside0.mk hr1
 have HC1:=Aside0.mk hc1
 clear hr1 hc1
 have H:((slices_Equal_int_int.f k l0 l1).bind fun t223=>(some t223))=some r:=h
 clear h
 replace H:=Option.bind_eq_some_iff.mp H
 obtain ⟨t223,A30,H⟩:=H
 (try dsimp only at H)
 have A3:=Aside0.mk A30
 clear A30
 obtain rfl:=Option.some.inj H
 go_enter Tryd.func34,Tryd.ntmps34
 go_wp2_with (first|((with_reducible refine gate_callee (f:=64) rfl ?_);refine goesL_ (some 7) rfl rfl Tryd.func64 (by kernel_rfl) rfl #[.slice A0 l0.length c0,.slice A1 l1.length c1] rfl zar ?_;(with_reducible refine (slices_Equal_int_int.calls k _ _ l0 _ _ l1 t223 _ ?side1 ?side2 ?side3 ?side4 A3.out).mono ?_);(case side1=>exact zC HR0.out);(case side2=>exact HC0.out);(case side3=>exact zC HR1.out);(case side4=>exact HC1.out);rintro e w' ⟨rfl,⟨nd,rfl⟩⟩;refine ⟨_,rfl,?_⟩))
 go_ret
 exact ⟨by first|rfl|(simp;done)|(simp [*];done),zdw⟩

/-! ### impl_ZSame_1: function 51 -/
def impl_ZSame_1.f (k:Nat) (l0_0:List Int) (a0_1:Int) (l1_0:List Int) (a1_1:Int):Option (Bool):=if a0_1=a1_1 then ((impl_RowSame.f k l0_0 l1_0).bind fun t226=>(some t226)) else (some false)
theorem impl_ZSame_1.mono : ∀ a0 a1 a2 a3 k,LeO (impl_ZSame_1.f k a0 a1 a2 a3) (impl_ZSame_1.f (k + 1) a0 a1 a2 a3):=by
 intro a0 a1 a2 a3 k
 unfold impl_ZSame_1.f
 repeat' first
   | (with_reducible exact impl_RowSame.mono _ _ _)
   | (with_reducible exact LeO.refl _)
   | (with_reducible exact LeO.none _)
   | (with_reducible refine LeO.ite ?_ ?_)
   | (with_reducible refine LeO.bind ?_ (fun _=>?_))
   | exact LeO.none _
   | refine LeO.ite ?_ ?_
   | refine LeO.bind ?_ (fun _=>?_)
set_option maxHeartbeats 8000000 in
set_option maxRecDepth 100000 in
theorem impl_ZSame_1.calls (k:Nat) (A0_0:Option Addr) (c0_0:Nat) (l0_0:List Int) (a0_1:Int) (A1_0:Option Addr) (c1_0:Nat) (l1_0:List Int) (a1_1:Int) (r:Bool) (w:World) (hr0_0:Kd.C (Kd.int .i64) w A0_0 l0_0.length l0_0) (hc0_0:l0_0.length≤c0_0) (hr1_0:Kd.C (Kd.int .i64) w A1_0 l1_0.length l1_0) (hc1_0:l1_0.length≤c1_0) (h:impl_ZSame_1.f k l0_0 a0_1 l1_0 a1_1=some r) :
  Calls Tryd.prog 51 #[.agg #[.slice A0_0 l0_0.length c0_0,.int .i64 a0_1],.agg #[.slice A1_0 l1_0.length c1_0,.int .i64 a1_1]] w fun e w'=>e=.returned (.bool r)∧Below w.heap.size w w':=by
 have hu53:=Tryd.underlying53
 have HR0_0:=Aside0.mk hr0_0
 have HC0_0:=Aside0.mk hc0_0
 clear hr0_0 hc0_0
 have HR1_0:=Aside0.mk hr1_0
 have HC1_0:=Aside0.mk hc1_0
 clear hr1_0 hc1_0
 have HB:=Aside0.mk (Below.refl w.heap.size w)
 have H:(if a0_1=a1_1 then ((impl_RowSame.f k l0_0 l1_0).bind fun t226=>(some t226)) else (some false))=some r:=h
 clear h
 by_cases c3:a0_1=a1_1
 ·rw [if_pos c3] at H
  have c3b0:(a0_1 == a1_1)=true:=beq_iff_eq.mpr c3
  have c3b1:(a0_1 != a1_1)=false:=bne_eq_false_iff_eq.mpr c3
  clear c3
  replace H:=Option.bind_eq_some_iff.mp H
  obtain ⟨t226,A40,H⟩:=H
  (try dsimp only at H)
  have A4:=Aside0.mk A40
  clear A40
  obtain rfl:=Option.some.inj H
  go_enter Tryd.func51,Tryd.ntmps51
  go_wp2_with (first|((with_reducible refine gate_dst (N:=2) rfl ?_);refine box_event ?hg (N:=2) ?hd (cs:=#[.slice A0_0 l0_0.length c0_0,.int .i64 a0_1]) (t:=53) ?hr ?_;(case hd=>rfl);(case hg=>rfl);(case hr=>first|(go_simp;done)|(go_simp;rfl));intro gb224 hg w5 hbox hb;have n0_:=Aside0.mk (below_step zhb hb);have n1_:=Aside0.mk (hbox);have n2_:=Aside0.mk ((by rw [hg];exact (below_size zhb):w.heap.size≤gb224));have n3_:=Aside0.mk ((by rw [hg];exact (below_size zhb):w.heap.size≤gb224));clear HB;have HB:=n0_;have BK224:=n1_;have GW224:=n2_;have GE224:=n3_;clear n0_ n1_ n2_ n3_;clear hb hbox hg)|((with_reducible refine gate_dst (N:=3) rfl ?_);refine box_event ?hg (N:=3) ?hd (cs:=#[.slice A1_0 l1_0.length c1_0,.int .i64 a1_1]) (t:=53) ?hr ?_;(case hd=>rfl);(case hg=>rfl);(case hr=>first|(go_simp;done)|(go_simp;rfl));intro gb225 hg w6 hbox hb;have n0_:=Aside0.mk (blk_below (g:=gb224) (o:=.cells #[.slice A0_0 l0_0.length c0_0,.int .i64 a0_1] 53 (0,0)) (by (with_reducible repeat (first|refine blk_drewN ?_ _|refine blk_drew ?_|refine blk_alloc ?_ _));exact BK224.out) hb);have n1_:=Aside0.mk (below_step (by repeat (first|(with_reducible first|exact HB.out|apply below_alloc|apply pw_below_drewN|apply below_drew1|refine below_set ?_ GE224.out)|exact HB.out)) hb);have n2_:=Aside0.mk (hbox);have n3_:=Aside0.mk ((by rw [hg];exact (below_size (by repeat (first|(with_reducible first|exact HB.out|apply below_alloc|apply pw_below_drewN|apply below_drew1|refine below_set ?_ GE224.out)|exact HB.out))):w.heap.size≤gb225));have n4_:=Aside0.mk ((by rw [hg];exact (below_size (by repeat (first|(with_reducible first|exact HB.out|apply below_alloc|apply pw_below_drewN|apply below_drew1|refine below_set ?_ GE224.out)|exact HB.out))):w.heap.size≤gb225));have n5_:=Aside0.mk ((by rw [hg];exact Nat.ne_of_lt (blk_lt (g:=gb224) (o:=.cells #[.slice A0_0 l0_0.length c0_0,.int .i64 a0_1] 53 (0,0)) (by (with_reducible repeat (first|refine blk_drewN ?_ _|refine blk_drew ?_|refine blk_alloc ?_ _));exact BK224.out)):gb224≠gb225));have n6_:=Aside0.mk ((by rw [hg];exact Nat.ne_of_gt (blk_lt (g:=gb224) (o:=.cells #[.slice A0_0 l0_0.length c0_0,.int .i64 a0_1] 53 (0,0)) (by (with_reducible repeat (first|refine blk_drewN ?_ _|refine blk_drew ?_|refine blk_alloc ?_ _));exact BK224.out)):gb225≠gb224));clear BK224;clear HB;have BK224:=n0_;have HB:=n1_;have BK225:=n2_;have GW225:=n3_;have GE225:=n4_;have NB224_225:=n5_;have NB225_224:=n6_;clear n0_ n1_ n2_ n3_ n4_ n5_ n6_;clear hb hbox hg;have hnb7:=NB224_225.out;have hnc7:=NB225_224.out;have hcz8_0:w6.cell? ⟨gb224,0,none⟩=some (.slice A0_0 l0_0.length c0_0):=(blk_cell BK224.out 0).trans rfl;have hcz8_1:w6.cell? ⟨gb224,1,none⟩=some (.int .i64 a0_1):=(blk_cell BK224.out 1).trans rfl;have hfz8_0:=blk_frozen BK224.out 0;have hfz8_1:=blk_frozen BK224.out 1;have hcz9_0:w6.cell? ⟨gb225,0,none⟩=some (.slice A1_0 l1_0.length c1_0):=(blk_cell BK225.out 0).trans rfl;have hcz9_1:w6.cell? ⟨gb225,1,none⟩=some (.int .i64 a1_1):=(blk_cell BK225.out 1).trans rfl;have hfz9_0:=blk_frozen BK225.out 0;have hfz9_1:=blk_frozen BK225.out 1)|(go_at_call 34;(with_reducible refine (impl_RowSame.calls k _ _ l0_0 _ _ l1_0 t226 _ ?side1 ?side2 ?side3 ?side4 A4.out).mono ?_);(case side1=>exact zC (Kd.C_below HR0_0.out HB.out));(case side2=>exact HC0_0.out);(case side3=>exact zC (Kd.C_below HR1_0.out HB.out));(case side4=>exact HC1_0.out);rintro e w' ⟨rfl,⟨nd,rfl⟩⟩))
  go_ret
  exact ⟨by first|rfl|(simp [errW_none,errW_some] <;> rfl)|(simp [*,errW_none,errW_some] <;> rfl),by repeat (first|(with_reducible first|exact HB.out|apply below_alloc|apply pw_below_drewN|apply below_drew1|refine below_set ?_ GE224.out|refine below_set ?_ GE225.out)|exact HB.out)⟩
 ·rw [if_neg c3] at H
  have c3b0:(a0_1 == a1_1)=false:=beq_eq_false_iff_ne.mpr c3
  have c3b1:(a0_1 != a1_1)=true:=bne_iff_ne.mpr c3
  obtain rfl:=Option.some.inj H
  go_enter Tryd.func51,Tryd.ntmps51
  go_wp2_with (first|((with_reducible refine gate_dst (N:=2) rfl ?_);refine box_event ?hg (N:=2) ?hd (cs:=#[.slice A0_0 l0_0.length c0_0,.int .i64 a0_1]) (t:=53) ?hr ?_;(case hd=>rfl);(case hg=>rfl);(case hr=>first|(go_simp;done)|(go_simp;rfl));intro gb224 hg w10 hbox hb;have n0_:=Aside0.mk (below_step zhb hb);have n1_:=Aside0.mk (hbox);have n2_:=Aside0.mk ((by rw [hg];exact (below_size zhb):w.heap.size≤gb224));have n3_:=Aside0.mk ((by rw [hg];exact (below_size zhb):w.heap.size≤gb224));clear HB;have HB:=n0_;have BK224:=n1_;have GW224:=n2_;have GE224:=n3_;clear n0_ n1_ n2_ n3_;clear hb hbox hg)|((with_reducible refine gate_dst (N:=3) rfl ?_);refine box_event ?hg (N:=3) ?hd (cs:=#[.slice A1_0 l1_0.length c1_0,.int .i64 a1_1]) (t:=53) ?hr ?_;(case hd=>rfl);(case hg=>rfl);(case hr=>first|(go_simp;done)|(go_simp;rfl));intro gb225 hg w11 hbox hb;have n0_:=Aside0.mk (blk_below (g:=gb224) (o:=.cells #[.slice A0_0 l0_0.length c0_0,.int .i64 a0_1] 53 (0,0)) (by (with_reducible repeat (first|refine blk_drewN ?_ _|refine blk_drew ?_|refine blk_alloc ?_ _));exact BK224.out) hb);have n1_:=Aside0.mk (below_step (by repeat (first|(with_reducible first|exact HB.out|apply below_alloc|apply pw_below_drewN|apply below_drew1|refine below_set ?_ GE224.out)|exact HB.out)) hb);have n2_:=Aside0.mk (hbox);have n3_:=Aside0.mk ((by rw [hg];exact (below_size (by repeat (first|(with_reducible first|exact HB.out|apply below_alloc|apply pw_below_drewN|apply below_drew1|refine below_set ?_ GE224.out)|exact HB.out))):w.heap.size≤gb225));have n4_:=Aside0.mk ((by rw [hg];exact (below_size (by repeat (first|(with_reducible first|exact HB.out|apply below_alloc|apply pw_below_drewN|apply below_drew1|refine below_set ?_ GE224.out)|exact HB.out))):w.heap.size≤gb225));have n5_:=Aside0.mk ((by rw [hg];exact Nat.ne_of_lt (blk_lt (g:=gb224) (o:=.cells #[.slice A0_0 l0_0.length c0_0,.int .i64 a0_1] 53 (0,0)) (by (with_reducible repeat (first|refine blk_drewN ?_ _|refine blk_drew ?_|refine blk_alloc ?_ _));exact BK224.out)):gb224≠gb225));have n6_:=Aside0.mk ((by rw [hg];exact Nat.ne_of_gt (blk_lt (g:=gb224) (o:=.cells #[.slice A0_0 l0_0.length c0_0,.int .i64 a0_1] 53 (0,0)) (by (with_reducible repeat (first|refine blk_drewN ?_ _|refine blk_drew ?_|refine blk_alloc ?_ _));exact BK224.out)):gb225≠gb224));clear BK224;clear HB;have BK224:=n0_;have HB:=n1_;have BK225:=n2_;have GW225:=n3_;have GE225:=n4_;have NB224_225:=n5_;have NB225_224:=n6_;clear n0_ n1_ n2_ n3_ n4_ n5_ n6_;clear hb hbox hg;have hnb12:=NB224_225.out;have hnc12:=NB225_224.out;have hcz13_0:w11.cell? ⟨gb224,0,none⟩=some (.slice A0_0 l0_0.length c0_0):=(blk_cell BK224.out 0).trans rfl;have hcz13_1:w11.cell? ⟨gb224,1,none⟩=some (.int .i64 a0_1):=(blk_cell BK224.out 1).trans rfl;have hfz13_0:=blk_frozen BK224.out 0;have hfz13_1:=blk_frozen BK224.out 1;have hcz14_0:w11.cell? ⟨gb225,0,none⟩=some (.slice A1_0 l1_0.length c1_0):=(blk_cell BK225.out 0).trans rfl;have hcz14_1:w11.cell? ⟨gb225,1,none⟩=some (.int .i64 a1_1):=(blk_cell BK225.out 1).trans rfl;have hfz14_0:=blk_frozen BK225.out 0;have hfz14_1:=blk_frozen BK225.out 1))
  go_ret
  exact ⟨by first|rfl|(simp [errW_none,errW_some] <;> rfl)|(simp [*,errW_none,errW_some] <;> rfl),by repeat (first|(with_reducible first|exact HB.out|apply below_alloc|apply pw_below_drewN|apply below_drew1|refine below_set ?_ GE224.out|refine below_set ?_ GE225.out)|exact HB.out)⟩

/-! ### slices_EqualFunc_impl_Item_impl_Item_impl_Item_impl_Item__impl_ZSame_1: function 50 -/
def slices_EqualFunc_impl_Item_impl_Item_impl_Item_impl_Item__impl_ZSame_1.l0:Nat→List (S53)→List (S53)→Int→Int→Option (Bool)
 | 0,_,_,_,_=>none
 | k + 1,x1,x15,x16,x17=>if x17 < x16 then (if 0≤x17 then (if x17 < (x15.length:Int) then (if x17 < (x1.length:Int) then ((impl_ZSame_1.f k ((rd_T53 x15 x17).f0) ((rd_T53 x15 x17).f1) ((rd_T53 x1 x17).f0) ((rd_T53 x1 x17).f1)).bind fun t231=>(if t231=true then (slices_EqualFunc_impl_Item_impl_Item_impl_Item_impl_Item__impl_ZSame_1.l0 k x1 x15 x16 (wrap64 (x17 + 1))) else (some false))) else (none)) else (none)) else (none)) else (some true)
def slices_EqualFunc_impl_Item_impl_Item_impl_Item_impl_Item__impl_ZSame_1.f (k:Nat) (l0:List (S53)) (l1:List (S53)) :Option (Bool):=if (l0.length:Int)=(l1.length:Int) then (slices_EqualFunc_impl_Item_impl_Item_impl_Item_impl_Item__impl_ZSame_1.l0 k l1 l0 (l0.length:Int) 0) else (some false)
theorem slices_EqualFunc_impl_Item_impl_Item_impl_Item_impl_Item__impl_ZSame_1.mono_l : ∀ k,(∀ y0 y1 y2 y3,LeO (slices_EqualFunc_impl_Item_impl_Item_impl_Item_impl_Item__impl_ZSame_1.l0 k y0 y1 y2 y3) (slices_EqualFunc_impl_Item_impl_Item_impl_Item_impl_Item__impl_ZSame_1.l0 (k + 1) y0 y1 y2 y3))
 | 0=>fun _ _ _ _ r h=>by simp [slices_EqualFunc_impl_Item_impl_Item_impl_Item_impl_Item__impl_ZSame_1.l0] at h
 | k + 1=>by
  have ih0:=slices_EqualFunc_impl_Item_impl_Item_impl_Item_impl_Item__impl_ZSame_1.mono_l k
  ·intro y0 y1 y2 y3
   unfold slices_EqualFunc_impl_Item_impl_Item_impl_Item_impl_Item__impl_ZSame_1.l0
   repeat' first
   | (with_reducible exact ih0 _ _ _ _)
   | (with_reducible exact impl_ZSame_1.mono _ _ _ _ _)
   | (with_reducible exact LeO.refl _)
   | (with_reducible exact LeO.none _)
   | (with_reducible refine LeO.ite ?_ ?_)
   | (with_reducible refine LeO.bind ?_ (fun _=>?_))
   | exact LeO.none _
   | refine LeO.ite ?_ ?_
   | refine LeO.bind ?_ (fun _=>?_)
theorem slices_EqualFunc_impl_Item_impl_Item_impl_Item_impl_Item__impl_ZSame_1.mono : ∀ a0 a1 k,LeO (slices_EqualFunc_impl_Item_impl_Item_impl_Item_impl_Item__impl_ZSame_1.f k a0 a1) (slices_EqualFunc_impl_Item_impl_Item_impl_Item_impl_Item__impl_ZSame_1.f (k + 1) a0 a1):=by
 intro a0 a1 k
 have ih0:=slices_EqualFunc_impl_Item_impl_Item_impl_Item_impl_Item__impl_ZSame_1.mono_l k
 unfold slices_EqualFunc_impl_Item_impl_Item_impl_Item_impl_Item__impl_ZSame_1.f
 repeat' first
   | (with_reducible exact ih0 _ _ _ _)
   | (with_reducible exact impl_ZSame_1.mono _ _ _ _ _)
   | (with_reducible exact LeO.refl _)
   | (with_reducible exact LeO.none _)
   | (with_reducible refine LeO.ite ?_ ?_)
   | (with_reducible refine LeO.bind ?_ (fun _=>?_))
   | exact LeO.none _
   | refine LeO.ite ?_ ?_
   | refine LeO.bind ?_ (fun _=>?_)
set_option maxHeartbeats 8000000 in
set_option maxRecDepth 100000 in
theorem slices_EqualFunc_impl_Item_impl_Item_impl_Item_impl_Item__impl_ZSame_1.calls (k:Nat) (A0:Option Addr) (c0:Nat) (l0:List (S53)) (A1:Option Addr) (c1:Nat) (l1:List (S53))  (r:Bool) (w:World) (hr0:Kd.C k53 w A0 l0.length l0) (hc0:l0.length≤c0) (hr1:Kd.C k53 w A1 l1.length l1) (hc1:l1.length≤c1) (h:slices_EqualFunc_impl_Item_impl_Item_impl_Item_impl_Item__impl_ZSame_1.f k l0 l1=some r) :
  Calls Tryd.prog 50 #[.slice A0 l0.length c0,.slice A1 l1.length c1,.func (.func 51) #[] #[]] w fun e w'=>e=.returned (.bool r)∧Below w.heap.size w w':=by
 have hu53:=Tryd.underlying53
 have HR0:=Aside0.mk hr0
 have HC0:=Aside0.mk hc0
 clear hr0 hc0
 have HR1:=Aside0.mk hr1
 have HC1:=Aside0.mk hc1
 clear hr1 hc1
 have HB:=Aside0.mk (Below.refl w.heap.size w)
 have H:(if (l0.length:Int)=(l1.length:Int) then (slices_EqualFunc_impl_Item_impl_Item_impl_Item_impl_Item__impl_ZSame_1.l0 k l1 l0 (l0.length:Int) 0) else (some false))=some r:=h
 clear h
 by_cases c4:(l0.length:Int)=(l1.length:Int)
 ·rw [if_pos c4] at H
  have c4b0:((l0.length:Int) == (l1.length:Int))=true:=beq_iff_eq.mpr c4
  have c4b1:((l0.length:Int) != (l1.length:Int))=false:=bne_eq_false_iff_eq.mpr c4
  have c4b2:(l0.length == l1.length)=true:=by first|simpa using c4|(simp at c4 ⊢;omega)
  clear c4
  have H':=Aside0.mk H
  clear H
  go_enter Tryd.func50,Tryd.ntmps50
  go_wp2
  go_loopg [17] k (fun kq v17 w'=>∃ (x17_1:Int),v17=.int .i64 x17_1∧Aside0 (slices_EqualFunc_impl_Item_impl_Item_impl_Item_impl_Item__impl_ZSame_1.l0 kq l1 l0 (l0.length:Int) x17_1=some r)∧Aside0 (kq≤k)∧Aside0 (Below w.heap.size w w'))
  case atStart=>exact ⟨(0),(by first|rfl|(simp;done)|(simp [*];done)),H',⟨Nat.le_refl _⟩,⟨zhb⟩⟩
  case round =>
   clear H'
   try clear c1
   try clear p2
   try clear c4
   try clear c4b0
   try clear c4b1
   try clear c4b2
   obtain ⟨x17_1,rfl,HA,HK1,HB⟩:=hrel
   cases gk with
   | zero=>exact absurd HA.out (by simp [slices_EqualFunc_impl_Item_impl_Item_impl_Item_impl_Item__impl_ZSame_1.l0])
   | succ k1 =>
    have H:=HA.out
    clear HA
    simp only [slices_EqualFunc_impl_Item_impl_Item_impl_Item_impl_Item__impl_ZSame_1.l0] at H
    by_cases c5:x17_1 < (l0.length:Int)
    ·rw [if_pos c5] at H
     have c5b0:decide (x17_1 < (l0.length:Int))=true:=decide_eq_true c5
     clear c5
     by_cases c6:0≤x17_1
     ·rw [if_pos c6] at H
      have c6b0:decide (0≤x17_1)=true:=decide_eq_true c6
      clear c6
      by_cases c7:x17_1 < (l0.length:Int)
      ·rw [if_pos c7] at H
       have c7b0:decide (x17_1 < (l0.length:Int))=true:=decide_eq_true c7
       clear c7
       by_cases c8:x17_1 < (l1.length:Int)
       ·rw [if_pos c8] at H
        have c8b0:decide (x17_1 < (l1.length:Int))=true:=decide_eq_true c8
        clear c8
        replace H:=Option.bind_eq_some_iff.mp H
        obtain ⟨t231,A90,H⟩:=H
        (try dsimp only at H)
        have A9:=Aside0.mk A90
        clear A90
        by_cases c10:t231=true
        ·subst c10
         have H1:(slices_EqualFunc_impl_Item_impl_Item_impl_Item_impl_Item__impl_ZSame_1.l0 k1 l1 l0 (l0.length:Int) (wrap64 (x17_1 + 1)))=some r:=by rw [if_pos rfl] at H;exact H
         clear H
         have H:=H1
         clear H1
         have H':=Aside0.mk H
         clear H
         have p227:0≤(x17_1:Int):=zod
         have q227:x17_1 < (l0.length:Int):=zod
         obtain ⟨ad227,A227_0,c227_0,e227,hx227_0,hx227_1,hl227_0,hi227_0⟩:=at_T53 HR0.out x17_1 p227 q227
         cases e227
         replace hx227_0:=(HB.out.cell (World.block_lt_of_cell? w _ hx227_0)).trans hx227_0
         replace hx227_1:=(HB.out.cell (World.block_lt_of_cell? w _ hx227_1)).trans hx227_1
         have HR227_0:=Aside0.mk hi227_0
         have HC227_0:=Aside0.mk hl227_0
         clear hi227_0 hl227_0
         replace p227:=eq_true p227
         replace q227:=eq_true q227
         go_wp2_with (first|((with_reducible refine gate_dst (N:=8) rfl ?_);refine box_event ?hg (N:=8) ?hd (cs:=#[.slice none 0 0,.int .i64 0]) (t:=53) ?hr ?_;(case hd=>rfl);(case hg=>rfl);(case hr=>first|(go_simp;done)|(go_simp;rfl));intro gb228 hg w11 hbox hb;have n0_:=Aside0.mk (below_step zhb hb);have n1_:=Aside0.mk (hbox);have n2_:=Aside0.mk ((by rw [hg];exact (below_size zhb):w.heap.size≤gb228));have n3_:=Aside0.mk ((by rw [hg];exact (below_size zhb):w.heap.size≤gb228));clear HB;have HB:=n0_;have BK228:=n1_;have GW228:=n2_;have GE228:=n3_;clear n0_ n1_ n2_ n3_;clear hb hbox hg;have hcz12_0:w11.cell? ⟨gb228,0,none⟩=some (.slice none 0 0):=(blk_cell BK228.out 0).trans rfl;have hcz12_1:w11.cell? ⟨gb228,1,none⟩=some (.int .i64 0):=(blk_cell BK228.out 1).trans rfl;have hfz12_0:=blk_frozen BK228.out 0;have hfz12_1:=blk_frozen BK228.out 1;have p229:0≤(x17_1:Int):=zod;have q229:x17_1 < (l1.length:Int):=zod;obtain ⟨ad229,A229_0,c229_0,e229,hx229_0,hx229_1,hl229_0,hi229_0⟩:=at_T53 HR1.out x17_1 p229 q229;cases e229;have hn229_0:ad229.block≠gb228:=Nat.ne_of_lt (Nat.lt_of_lt_of_le (by have:=World.block_lt_of_cell? _ _ hx229_0;first|rwa [add_block] at this|exact this) GW228.out);have hn229_1:ad229.block≠gb228:=Nat.ne_of_lt (Nat.lt_of_lt_of_le (by have:=World.block_lt_of_cell? _ _ hx229_0;first|rwa [add_block] at this|exact this) GW228.out);replace hx229_0:=(HB.out.cell (World.block_lt_of_cell? w _ hx229_0)).trans hx229_0;replace hx229_1:=(HB.out.cell (World.block_lt_of_cell? w _ hx229_1)).trans hx229_1;have HR229_0:=Aside0.mk hi229_0;have HC229_0:=Aside0.mk hl229_0;clear hi229_0 hl229_0;replace hx229_0:=(cell_far (p:=⟨gb228,0,none⟩) (by first|(rw [add_block];exact hn229_0)|(show (Addr.add _ _).block≠_;rw [add_block];exact hn229_0)|exact hn229_0) (.slice A227_0 ((rd_T53 l0 x17_1).f0).length c227_0)).trans hx229_0;replace hx229_1:=(cell_far (p:=⟨gb228,0,none⟩) (by first|(rw [add_block];exact hn229_0)|(show (Addr.add _ _).block≠_;rw [add_block];exact hn229_0)|exact hn229_0) (.slice A227_0 ((rd_T53 l0 x17_1).f0).length c227_0)).trans hx229_1;replace hx229_0:=(cell_far (p:=⟨gb228,1,none⟩) (by first|(rw [add_block];exact hn229_1)|(show (Addr.add _ _).block≠_;rw [add_block];exact hn229_1)|exact hn229_1) (.int .i64 ((rd_T53 l0 x17_1).f1))).trans hx229_0;replace hx229_1:=(cell_far (p:=⟨gb228,1,none⟩) (by first|(rw [add_block];exact hn229_1)|(show (Addr.add _ _).block≠_;rw [add_block];exact hn229_1)|exact hn229_1) (.int .i64 ((rd_T53 l0 x17_1).f1))).trans hx229_1;clear hn229_0;clear hn229_1;replace p229:=eq_true p229;replace q229:=eq_true q229)|((with_reducible refine gate_dst (N:=9) rfl ?_);refine box_event ?hg (N:=9) ?hd (cs:=#[.slice none 0 0,.int .i64 0]) (t:=53) ?hr ?_;(case hd=>rfl);(case hg=>rfl);(case hr=>first|(go_simp;done)|(go_simp;rfl));intro gb230 hg w13 hbox hb;have n0_:=Aside0.mk (blk_below (g:=gb228) (o:=.cells #[.slice A227_0 ((rd_T53 l0 x17_1).f0).length c227_0,.int .i64 ((rd_T53 l0 x17_1).f1)] 53 (0,0)) (by (with_reducible repeat (first|refine blk_drewN ?_ _|refine blk_drew ?_|refine blk_alloc ?_ _));refine blk_put (cs:=#[.slice A227_0 ((rd_T53 l0 x17_1).f0).length c227_0,.int .i64 0]) ?_ 1 _ rfl;(with_reducible repeat (first|refine blk_drewN ?_ _|refine blk_drew ?_|refine blk_alloc ?_ _));refine blk_put (cs:=#[.slice none 0 0,.int .i64 0]) ?_ 0 _ rfl;(with_reducible repeat (first|refine blk_drewN ?_ _|refine blk_drew ?_|refine blk_alloc ?_ _));exact BK228.out) hb);have n1_:=Aside0.mk (below_step (by repeat (first|(with_reducible first|exact HB.out|apply below_alloc|apply pw_below_drewN|apply below_drew1|refine below_set ?_ GE228.out)|exact HB.out)) hb);have n2_:=Aside0.mk (hbox);have n3_:=Aside0.mk ((by rw [hg];exact (below_size (by repeat (first|(with_reducible first|exact HB.out|apply below_alloc|apply pw_below_drewN|apply below_drew1|refine below_set ?_ GE228.out)|exact HB.out))):w.heap.size≤gb230));have n4_:=Aside0.mk ((by rw [hg];exact (below_size (by repeat (first|(with_reducible first|exact HB.out|apply below_alloc|apply pw_below_drewN|apply below_drew1|refine below_set ?_ GE228.out)|exact HB.out))):w.heap.size≤gb230));have n5_:=Aside0.mk ((by rw [hg];exact Nat.ne_of_lt (blk_lt (g:=gb228) (o:=.cells #[.slice A227_0 ((rd_T53 l0 x17_1).f0).length c227_0,.int .i64 ((rd_T53 l0 x17_1).f1)] 53 (0,0)) (by (with_reducible repeat (first|refine blk_drewN ?_ _|refine blk_drew ?_|refine blk_alloc ?_ _));refine blk_put (cs:=#[.slice A227_0 ((rd_T53 l0 x17_1).f0).length c227_0,.int .i64 0]) ?_ 1 _ rfl;(with_reducible repeat (first|refine blk_drewN ?_ _|refine blk_drew ?_|refine blk_alloc ?_ _));refine blk_put (cs:=#[.slice none 0 0,.int .i64 0]) ?_ 0 _ rfl;(with_reducible repeat (first|refine blk_drewN ?_ _|refine blk_drew ?_|refine blk_alloc ?_ _));exact BK228.out)):gb228≠gb230));have n6_:=Aside0.mk ((by rw [hg];exact Nat.ne_of_gt (blk_lt (g:=gb228) (o:=.cells #[.slice A227_0 ((rd_T53 l0 x17_1).f0).length c227_0,.int .i64 ((rd_T53 l0 x17_1).f1)] 53 (0,0)) (by (with_reducible repeat (first|refine blk_drewN ?_ _|refine blk_drew ?_|refine blk_alloc ?_ _));refine blk_put (cs:=#[.slice A227_0 ((rd_T53 l0 x17_1).f0).length c227_0,.int .i64 0]) ?_ 1 _ rfl;(with_reducible repeat (first|refine blk_drewN ?_ _|refine blk_drew ?_|refine blk_alloc ?_ _));refine blk_put (cs:=#[.slice none 0 0,.int .i64 0]) ?_ 0 _ rfl;(with_reducible repeat (first|refine blk_drewN ?_ _|refine blk_drew ?_|refine blk_alloc ?_ _));exact BK228.out)):gb230≠gb228));clear BK228;clear HB;have BK228:=n0_;have HB:=n1_;have BK230:=n2_;have GW230:=n3_;have GE230:=n4_;have NB228_230:=n5_;have NB230_228:=n6_;clear n0_ n1_ n2_ n3_ n4_ n5_ n6_;clear hb hbox hg;have hnb14:=NB230_228.out;have hnc14:=NB228_230.out;have hcz15_0:w13.cell? ⟨gb230,0,none⟩=some (.slice none 0 0):=(blk_cell BK230.out 0).trans rfl;have hcz15_1:w13.cell? ⟨gb230,1,none⟩=some (.int .i64 0):=(blk_cell BK230.out 1).trans rfl;have hfz15_0:=blk_frozen BK230.out 0;have hfz15_1:=blk_frozen BK230.out 1;have hcz16_0:w13.cell? ⟨gb228,0,none⟩=some (.slice A227_0 ((rd_T53 l0 x17_1).f0).length c227_0):=(blk_cell BK228.out 0).trans rfl;have hcz16_1:w13.cell? ⟨gb228,1,none⟩=some (.int .i64 ((rd_T53 l0 x17_1).f1)):=(blk_cell BK228.out 1).trans rfl;have hfz16_0:=blk_frozen BK228.out 0;have hfz16_1:=blk_frozen BK228.out 1)|(go_at_call 51;(with_reducible refine (impl_ZSame_1.calls k1 _ _ ((rd_T53 l0 x17_1).f0) ((rd_T53 l0 x17_1).f1) _ _ ((rd_T53 l1 x17_1).f0) ((rd_T53 l1 x17_1).f1) true _ ?side1 ?side2 ?side3 ?side4 A9.out).mono ?_);(case side1=>exact Kd.C_below HR227_0.out (by repeat (first|(with_reducible first|exact HB.out|apply below_alloc|apply pw_below_drewN|apply below_drew1|refine below_set ?_ GE228.out|refine below_set ?_ GE230.out)|exact HB.out)));(case side2=>exact HC227_0.out);(case side3=>exact Kd.C_below HR229_0.out (by repeat (first|(with_reducible first|exact HB.out|apply below_alloc|apply pw_below_drewN|apply below_drew1|refine below_set ?_ GE228.out|refine below_set ?_ GE230.out)|exact HB.out)));(case side4=>exact HC229_0.out);rintro e w17 ⟨rfl,hb⟩;have n0_:=Aside0.mk (blk_below (g:=gb228) (o:=.cells #[.slice A227_0 ((rd_T53 l0 x17_1).f0).length c227_0,.int .i64 ((rd_T53 l0 x17_1).f1)] 53 (0,0)) (by (with_reducible repeat (first|refine blk_drewN ?_ _|refine blk_drew ?_|refine blk_alloc ?_ _));refine blk_far ?_ NB228_230.out _;(with_reducible repeat (first|refine blk_drewN ?_ _|refine blk_drew ?_|refine blk_alloc ?_ _));refine blk_far ?_ NB228_230.out _;(with_reducible repeat (first|refine blk_drewN ?_ _|refine blk_drew ?_|refine blk_alloc ?_ _));exact BK228.out) hb);have n1_:=Aside0.mk (blk_below (g:=gb230) (o:=.cells #[.slice A229_0 ((rd_T53 l1 x17_1).f0).length c229_0,.int .i64 ((rd_T53 l1 x17_1).f1)] 53 (0,0)) (by (with_reducible repeat (first|refine blk_drewN ?_ _|refine blk_drew ?_|refine blk_alloc ?_ _));refine blk_put (cs:=#[.slice A229_0 ((rd_T53 l1 x17_1).f0).length c229_0,.int .i64 0]) ?_ 1 _ rfl;(with_reducible repeat (first|refine blk_drewN ?_ _|refine blk_drew ?_|refine blk_alloc ?_ _));refine blk_put (cs:=#[.slice none 0 0,.int .i64 0]) ?_ 0 _ rfl;(with_reducible repeat (first|refine blk_drewN ?_ _|refine blk_drew ?_|refine blk_alloc ?_ _));exact BK230.out) hb);have n2_:=Aside0.mk (below_step (by repeat (first|(with_reducible first|exact HB.out|apply below_alloc|apply pw_below_drewN|apply below_drew1|refine below_set ?_ GE228.out|refine below_set ?_ GE230.out)|exact HB.out)) hb);clear BK228;clear BK230;clear HB;have BK228:=n0_;have BK230:=n1_;have HB:=n2_;clear n0_ n1_ n2_;(try clear hb);(try clear hb2);(try clear hk);(try clear hi)))
         go_roundg k1
         case measure=>have:=HK1.out;omega
         case rel=>exact ⟨(wrap64 (x17_1 + 1)),(by first|rfl|(simp;done)|(simp [*];done)),H',⟨by have:=HK1.out;omega⟩,⟨by repeat (first|(with_reducible first|exact HB.out|apply below_alloc|apply pw_below_drewN|apply below_drew1|refine below_set ?_ GE228.out|refine below_set ?_ GE230.out)|exact HB.out)⟩⟩
        ·replace c10:=Bool.eq_false_iff.mpr c10
         subst c10
         have H1:(some false)=some r:=by rw [if_neg (show ¬ (false=true) by decide)] at H;exact H
         clear H
         have H:=H1
         clear H1
         obtain rfl:=Option.some.inj H
         have p227:0≤(x17_1:Int):=zod
         have q227:x17_1 < (l0.length:Int):=zod
         obtain ⟨ad227,A227_0,c227_0,e227,hx227_0,hx227_1,hl227_0,hi227_0⟩:=at_T53 HR0.out x17_1 p227 q227
         cases e227
         replace hx227_0:=(HB.out.cell (World.block_lt_of_cell? w _ hx227_0)).trans hx227_0
         replace hx227_1:=(HB.out.cell (World.block_lt_of_cell? w _ hx227_1)).trans hx227_1
         have HR227_0:=Aside0.mk hi227_0
         have HC227_0:=Aside0.mk hl227_0
         clear hi227_0 hl227_0
         replace p227:=eq_true p227
         replace q227:=eq_true q227
         go_wp2_with (first|((with_reducible refine gate_dst (N:=8) rfl ?_);refine box_event ?hg (N:=8) ?hd (cs:=#[.slice none 0 0,.int .i64 0]) (t:=53) ?hr ?_;(case hd=>rfl);(case hg=>rfl);(case hr=>first|(go_simp;done)|(go_simp;rfl));intro gb228 hg w18 hbox hb;have n0_:=Aside0.mk (below_step zhb hb);have n1_:=Aside0.mk (hbox);have n2_:=Aside0.mk ((by rw [hg];exact (below_size zhb):w.heap.size≤gb228));have n3_:=Aside0.mk ((by rw [hg];exact (below_size zhb):w.heap.size≤gb228));clear HB;have HB:=n0_;have BK228:=n1_;have GW228:=n2_;have GE228:=n3_;clear n0_ n1_ n2_ n3_;clear hb hbox hg;have hcz19_0:w18.cell? ⟨gb228,0,none⟩=some (.slice none 0 0):=(blk_cell BK228.out 0).trans rfl;have hcz19_1:w18.cell? ⟨gb228,1,none⟩=some (.int .i64 0):=(blk_cell BK228.out 1).trans rfl;have hfz19_0:=blk_frozen BK228.out 0;have hfz19_1:=blk_frozen BK228.out 1;have p229:0≤(x17_1:Int):=zod;have q229:x17_1 < (l1.length:Int):=zod;obtain ⟨ad229,A229_0,c229_0,e229,hx229_0,hx229_1,hl229_0,hi229_0⟩:=at_T53 HR1.out x17_1 p229 q229;cases e229;have hn229_0:ad229.block≠gb228:=Nat.ne_of_lt (Nat.lt_of_lt_of_le (by have:=World.block_lt_of_cell? _ _ hx229_0;first|rwa [add_block] at this|exact this) GW228.out);have hn229_1:ad229.block≠gb228:=Nat.ne_of_lt (Nat.lt_of_lt_of_le (by have:=World.block_lt_of_cell? _ _ hx229_0;first|rwa [add_block] at this|exact this) GW228.out);replace hx229_0:=(HB.out.cell (World.block_lt_of_cell? w _ hx229_0)).trans hx229_0;replace hx229_1:=(HB.out.cell (World.block_lt_of_cell? w _ hx229_1)).trans hx229_1;have HR229_0:=Aside0.mk hi229_0;have HC229_0:=Aside0.mk hl229_0;clear hi229_0 hl229_0;replace hx229_0:=(cell_far (p:=⟨gb228,0,none⟩) (by first|(rw [add_block];exact hn229_0)|(show (Addr.add _ _).block≠_;rw [add_block];exact hn229_0)|exact hn229_0) (.slice A227_0 ((rd_T53 l0 x17_1).f0).length c227_0)).trans hx229_0;replace hx229_1:=(cell_far (p:=⟨gb228,0,none⟩) (by first|(rw [add_block];exact hn229_0)|(show (Addr.add _ _).block≠_;rw [add_block];exact hn229_0)|exact hn229_0) (.slice A227_0 ((rd_T53 l0 x17_1).f0).length c227_0)).trans hx229_1;replace hx229_0:=(cell_far (p:=⟨gb228,1,none⟩) (by first|(rw [add_block];exact hn229_1)|(show (Addr.add _ _).block≠_;rw [add_block];exact hn229_1)|exact hn229_1) (.int .i64 ((rd_T53 l0 x17_1).f1))).trans hx229_0;replace hx229_1:=(cell_far (p:=⟨gb228,1,none⟩) (by first|(rw [add_block];exact hn229_1)|(show (Addr.add _ _).block≠_;rw [add_block];exact hn229_1)|exact hn229_1) (.int .i64 ((rd_T53 l0 x17_1).f1))).trans hx229_1;clear hn229_0;clear hn229_1;replace p229:=eq_true p229;replace q229:=eq_true q229)|((with_reducible refine gate_dst (N:=9) rfl ?_);refine box_event ?hg (N:=9) ?hd (cs:=#[.slice none 0 0,.int .i64 0]) (t:=53) ?hr ?_;(case hd=>rfl);(case hg=>rfl);(case hr=>first|(go_simp;done)|(go_simp;rfl));intro gb230 hg w20 hbox hb;have n0_:=Aside0.mk (blk_below (g:=gb228) (o:=.cells #[.slice A227_0 ((rd_T53 l0 x17_1).f0).length c227_0,.int .i64 ((rd_T53 l0 x17_1).f1)] 53 (0,0)) (by (with_reducible repeat (first|refine blk_drewN ?_ _|refine blk_drew ?_|refine blk_alloc ?_ _));refine blk_put (cs:=#[.slice A227_0 ((rd_T53 l0 x17_1).f0).length c227_0,.int .i64 0]) ?_ 1 _ rfl;(with_reducible repeat (first|refine blk_drewN ?_ _|refine blk_drew ?_|refine blk_alloc ?_ _));refine blk_put (cs:=#[.slice none 0 0,.int .i64 0]) ?_ 0 _ rfl;(with_reducible repeat (first|refine blk_drewN ?_ _|refine blk_drew ?_|refine blk_alloc ?_ _));exact BK228.out) hb);have n1_:=Aside0.mk (below_step (by repeat (first|(with_reducible first|exact HB.out|apply below_alloc|apply pw_below_drewN|apply below_drew1|refine below_set ?_ GE228.out)|exact HB.out)) hb);have n2_:=Aside0.mk (hbox);have n3_:=Aside0.mk ((by rw [hg];exact (below_size (by repeat (first|(with_reducible first|exact HB.out|apply below_alloc|apply pw_below_drewN|apply below_drew1|refine below_set ?_ GE228.out)|exact HB.out))):w.heap.size≤gb230));have n4_:=Aside0.mk ((by rw [hg];exact (below_size (by repeat (first|(with_reducible first|exact HB.out|apply below_alloc|apply pw_below_drewN|apply below_drew1|refine below_set ?_ GE228.out)|exact HB.out))):w.heap.size≤gb230));have n5_:=Aside0.mk ((by rw [hg];exact Nat.ne_of_lt (blk_lt (g:=gb228) (o:=.cells #[.slice A227_0 ((rd_T53 l0 x17_1).f0).length c227_0,.int .i64 ((rd_T53 l0 x17_1).f1)] 53 (0,0)) (by (with_reducible repeat (first|refine blk_drewN ?_ _|refine blk_drew ?_|refine blk_alloc ?_ _));refine blk_put (cs:=#[.slice A227_0 ((rd_T53 l0 x17_1).f0).length c227_0,.int .i64 0]) ?_ 1 _ rfl;(with_reducible repeat (first|refine blk_drewN ?_ _|refine blk_drew ?_|refine blk_alloc ?_ _));refine blk_put (cs:=#[.slice none 0 0,.int .i64 0]) ?_ 0 _ rfl;(with_reducible repeat (first|refine blk_drewN ?_ _|refine blk_drew ?_|refine blk_alloc ?_ _));exact BK228.out)):gb228≠gb230));have n6_:=Aside0.mk ((by rw [hg];exact Nat.ne_of_gt (blk_lt (g:=gb228) (o:=.cells #[.slice A227_0 ((rd_T53 l0 x17_1).f0).length c227_0,.int .i64 ((rd_T53 l0 x17_1).f1)] 53 (0,0)) (by (with_reducible repeat (first|refine blk_drewN ?_ _|refine blk_drew ?_|refine blk_alloc ?_ _));refine blk_put (cs:=#[.slice A227_0 ((rd_T53 l0 x17_1).f0).length c227_0,.int .i64 0]) ?_ 1 _ rfl;(with_reducible repeat (first|refine blk_drewN ?_ _|refine blk_drew ?_|refine blk_alloc ?_ _));refine blk_put (cs:=#[.slice none 0 0,.int .i64 0]) ?_ 0 _ rfl;(with_reducible repeat (first|refine blk_drewN ?_ _|refine blk_drew ?_|refine blk_alloc ?_ _));exact BK228.out)):gb230≠gb228));clear BK228;clear HB;have BK228:=n0_;have HB:=n1_;have BK230:=n2_;have GW230:=n3_;have GE230:=n4_;have NB228_230:=n5_;have NB230_228:=n6_;clear n0_ n1_ n2_ n3_ n4_ n5_ n6_;clear hb hbox hg;have hnb21:=NB230_228.out;have hnc21:=NB228_230.out;have hcz22_0:w20.cell? ⟨gb230,0,none⟩=some (.slice none 0 0):=(blk_cell BK230.out 0).trans rfl;have hcz22_1:w20.cell? ⟨gb230,1,none⟩=some (.int .i64 0):=(blk_cell BK230.out 1).trans rfl;have hfz22_0:=blk_frozen BK230.out 0;have hfz22_1:=blk_frozen BK230.out 1;have hcz23_0:w20.cell? ⟨gb228,0,none⟩=some (.slice A227_0 ((rd_T53 l0 x17_1).f0).length c227_0):=(blk_cell BK228.out 0).trans rfl;have hcz23_1:w20.cell? ⟨gb228,1,none⟩=some (.int .i64 ((rd_T53 l0 x17_1).f1)):=(blk_cell BK228.out 1).trans rfl;have hfz23_0:=blk_frozen BK228.out 0;have hfz23_1:=blk_frozen BK228.out 1)|(go_at_call 51;(with_reducible refine (impl_ZSame_1.calls k1 _ _ ((rd_T53 l0 x17_1).f0) ((rd_T53 l0 x17_1).f1) _ _ ((rd_T53 l1 x17_1).f0) ((rd_T53 l1 x17_1).f1) false _ ?side1 ?side2 ?side3 ?side4 A9.out).mono ?_);(case side1=>exact Kd.C_below HR227_0.out (by repeat (first|(with_reducible first|exact HB.out|apply below_alloc|apply pw_below_drewN|apply below_drew1|refine below_set ?_ GE228.out|refine below_set ?_ GE230.out)|exact HB.out)));(case side2=>exact HC227_0.out);(case side3=>exact Kd.C_below HR229_0.out (by repeat (first|(with_reducible first|exact HB.out|apply below_alloc|apply pw_below_drewN|apply below_drew1|refine below_set ?_ GE228.out|refine below_set ?_ GE230.out)|exact HB.out)));(case side4=>exact HC229_0.out);rintro e w24 ⟨rfl,hb⟩;have n0_:=Aside0.mk (blk_below (g:=gb228) (o:=.cells #[.slice A227_0 ((rd_T53 l0 x17_1).f0).length c227_0,.int .i64 ((rd_T53 l0 x17_1).f1)] 53 (0,0)) (by (with_reducible repeat (first|refine blk_drewN ?_ _|refine blk_drew ?_|refine blk_alloc ?_ _));refine blk_far ?_ NB228_230.out _;(with_reducible repeat (first|refine blk_drewN ?_ _|refine blk_drew ?_|refine blk_alloc ?_ _));refine blk_far ?_ NB228_230.out _;(with_reducible repeat (first|refine blk_drewN ?_ _|refine blk_drew ?_|refine blk_alloc ?_ _));exact BK228.out) hb);have n1_:=Aside0.mk (blk_below (g:=gb230) (o:=.cells #[.slice A229_0 ((rd_T53 l1 x17_1).f0).length c229_0,.int .i64 ((rd_T53 l1 x17_1).f1)] 53 (0,0)) (by (with_reducible repeat (first|refine blk_drewN ?_ _|refine blk_drew ?_|refine blk_alloc ?_ _));refine blk_put (cs:=#[.slice A229_0 ((rd_T53 l1 x17_1).f0).length c229_0,.int .i64 0]) ?_ 1 _ rfl;(with_reducible repeat (first|refine blk_drewN ?_ _|refine blk_drew ?_|refine blk_alloc ?_ _));refine blk_put (cs:=#[.slice none 0 0,.int .i64 0]) ?_ 0 _ rfl;(with_reducible repeat (first|refine blk_drewN ?_ _|refine blk_drew ?_|refine blk_alloc ?_ _));exact BK230.out) hb);have n2_:=Aside0.mk (below_step (by repeat (first|(with_reducible first|exact HB.out|apply below_alloc|apply pw_below_drewN|apply below_drew1|refine below_set ?_ GE228.out|refine below_set ?_ GE230.out)|exact HB.out)) hb);clear BK228;clear BK230;clear HB;have BK228:=n0_;have BK230:=n1_;have HB:=n2_;clear n0_ n1_ n2_;(try clear hb);(try clear hb2);(try clear hk);(try clear hi)))
         go_ret
         exact ⟨by first|rfl|(simp [errW_none,errW_some] <;> rfl)|(simp [*,errW_none,errW_some] <;> rfl),by repeat (first|(with_reducible first|exact HB.out|apply below_alloc|apply pw_below_drewN|apply below_drew1|refine below_set ?_ GE228.out|refine below_set ?_ GE230.out)|exact HB.out)⟩
       ·rw [if_neg c8] at H
        exact absurd H (by simp)
      ·rw [if_neg c7] at H
       exact absurd H (by simp)
     ·rw [if_neg c6] at H
      exact absurd H (by simp)
    ·rw [if_neg c5] at H
     have c5b0:decide (x17_1 < (l0.length:Int))=false:=decide_eq_false c5
     clear c5
     obtain rfl:=Option.some.inj H
     go_wp2
     go_ret
     exact ⟨by first|rfl|(simp [errW_none,errW_some] <;> rfl)|(simp [*,errW_none,errW_some] <;> rfl),zhb⟩
 ·rw [if_neg c4] at H
  have c4b0:((l0.length:Int) == (l1.length:Int))=false:=beq_eq_false_iff_ne.mpr c4
  have c4b1:((l0.length:Int) != (l1.length:Int))=true:=bne_iff_ne.mpr c4
  have c4b2:(l0.length == l1.length)=false:=by first|simpa using c4|(simp at c4 ⊢;omega)
  obtain rfl:=Option.some.inj H
  go_enter Tryd.func50,Tryd.ntmps50
  go_wp2
  go_ret
  exact ⟨by first|rfl|(simp [errW_none,errW_some] <;> rfl)|(simp [*,errW_none,errW_some] <;> rfl),zhb⟩

/-! ### impl_ZSame: function 23 -/
def impl_ZSame.f (k:Nat) (l0:List (S53)) (l1:List (S53)):Option (Bool):=(slices_EqualFunc_impl_Item_impl_Item_impl_Item_impl_Item__impl_ZSame_1.f k l0 l1).bind fun t232=>(some t232)
theorem impl_ZSame.mono : ∀ a0 a1 k,LeO (impl_ZSame.f k a0 a1) (impl_ZSame.f (k + 1) a0 a1):=by
 intro a0 a1 k
 unfold impl_ZSame.f
 repeat' first
   | (with_reducible exact slices_EqualFunc_impl_Item_impl_Item_impl_Item_impl_Item__impl_ZSame_1.mono _ _ _)
   | (with_reducible exact LeO.refl _)
   | (with_reducible exact LeO.none _)
   | (with_reducible refine LeO.ite ?_ ?_)
   | (with_reducible refine LeO.bind ?_ (fun _=>?_))
   | exact LeO.none _
   | refine LeO.ite ?_ ?_
   | refine LeO.bind ?_ (fun _=>?_)
set_option maxHeartbeats 8000000 in
set_option maxRecDepth 100000 in
theorem impl_ZSame.calls (k:Nat) (A0:Option Addr) (c0:Nat) (l0:List (S53)) (A1:Option Addr) (c1:Nat) (l1:List (S53)) (r:Bool) (w:World) (hr0:Kd.C k53 w A0 l0.length l0) (hc0:l0.length≤c0) (hr1:Kd.C k53 w A1 l1.length l1) (hc1:l1.length≤c1) (h:impl_ZSame.f k l0 l1=some r) :
  Calls Tryd.prog 23 #[.slice A0 l0.length c0,.slice A1 l1.length c1] w fun e w'=>e=.returned (.bool r)∧Below w.heap.size w w':=by
 have HR0:=Aside0.mk hr0
 have HC0:=Aside0.mk hc0
 clear hr0 hc0
 have HR1:=Aside0.mk hr1
 have HC1:=Aside0.mk hc1
 clear hr1 hc1
 have HB:=Aside0.mk (Below.refl w.heap.size w)
 have H:((slices_EqualFunc_impl_Item_impl_Item_impl_Item_impl_Item__impl_ZSame_1.f k l0 l1).bind fun t232=>(some t232))=some r:=h
 clear h
 replace H:=Option.bind_eq_some_iff.mp H
 obtain ⟨t232,A30,H⟩:=H
 (try dsimp only at H)
 have A3:=Aside0.mk A30
 clear A30
 obtain rfl:=Option.some.inj H
 go_enter Tryd.func23,Tryd.ntmps23
 go_wp2_with (first|(go_at_call 50;(with_reducible refine (slices_EqualFunc_impl_Item_impl_Item_impl_Item_impl_Item__impl_ZSame_1.calls k _ _ l0 _ _ l1  t232 _ ?side1 ?side2 ?side3 ?side4 A3.out).mono ?_);(case side1=>exact zC HR0.out);(case side2=>exact HC0.out);(case side3=>exact zC HR1.out);(case side4=>exact HC1.out);rintro e w4 ⟨rfl,hb⟩;have n0_:=Aside0.mk (below_step zhb hb);clear HB;have HB:=n0_;clear n0_;(try clear hb);(try clear hb2);(try clear hk);(try clear hi)))
 go_ret
 exact ⟨by first|rfl|(simp [errW_none,errW_some] <;> rfl)|(simp [*,errW_none,errW_some] <;> rfl),zhb⟩

/-! ### spec_ZSame: function 24 -/
def spec_ZSame.l0:Nat→List (S53)→List (S53)→Int→Option (Bool)
 | 0,_,_,_=>none
 | k + 1,x0,x1,x5=>if x5 < (x0.length:Int) then (if 0≤x5 then (if x5 < (x1.length:Int) then (if ((rd_T53 x0 x5).f1)=((rd_T53 x1 x5).f1) then ((spec_RowSame.f k ((rd_T53 x0 x5).f0) ((rd_T53 x1 x5).f0)).bind fun t237=>(if t237=true then (spec_ZSame.l0 k x0 x1 (wrap64 (x5 + 1))) else (some false))) else (some false)) else (none)) else (none)) else (some true)
def spec_ZSame.f (k:Nat) (l0:List (S53)) (l1:List (S53)):Option (Bool):=if (l0.length:Int)=(l1.length:Int) then (spec_ZSame.l0 k l0 l1 0) else (some false)
theorem spec_ZSame.mono_l : ∀ k,(∀ y0 y1 y2,LeO (spec_ZSame.l0 k y0 y1 y2) (spec_ZSame.l0 (k + 1) y0 y1 y2))
 | 0=>fun _ _ _ r h=>by simp [spec_ZSame.l0] at h
 | k + 1=>by
  have ih0:=spec_ZSame.mono_l k
  ·intro y0 y1 y2
   unfold spec_ZSame.l0
   repeat' first
   | (with_reducible exact ih0 _ _ _)
   | (with_reducible exact spec_RowSame.mono _ _ _)
   | (with_reducible exact LeO.refl _)
   | (with_reducible exact LeO.none _)
   | (with_reducible refine LeO.ite ?_ ?_)
   | (with_reducible refine LeO.bind ?_ (fun _=>?_))
   | exact LeO.none _
   | refine LeO.ite ?_ ?_
   | refine LeO.bind ?_ (fun _=>?_)
theorem spec_ZSame.mono : ∀ a0 a1 k,LeO (spec_ZSame.f k a0 a1) (spec_ZSame.f (k + 1) a0 a1):=by
 intro a0 a1 k
 have ih0:=spec_ZSame.mono_l k
 unfold spec_ZSame.f
 repeat' first
   | (with_reducible exact ih0 _ _ _)
   | (with_reducible exact spec_RowSame.mono _ _ _)
   | (with_reducible exact LeO.refl _)
   | (with_reducible exact LeO.none _)
   | (with_reducible refine LeO.ite ?_ ?_)
   | (with_reducible refine LeO.bind ?_ (fun _=>?_))
   | exact LeO.none _
   | refine LeO.ite ?_ ?_
   | refine LeO.bind ?_ (fun _=>?_)
set_option maxHeartbeats 8000000 in
set_option maxRecDepth 100000 in
theorem spec_ZSame.calls (k:Nat) (A0:Option Addr) (c0:Nat) (l0:List (S53)) (A1:Option Addr) (c1:Nat) (l1:List (S53)) (r:Bool) (w:World) (hr0:Kd.C k53 w A0 l0.length l0) (hc0:l0.length≤c0) (hr1:Kd.C k53 w A1 l1.length l1) (hc1:l1.length≤c1) (h:spec_ZSame.f k l0 l1=some r) :
  Calls Tryd.prog 24 #[.slice A0 l0.length c0,.slice A1 l1.length c1] w fun e w'=>e=.returned (.bool r)∧Drawn0 w w':=by
 have HR0:=Aside0.mk hr0
 have HC0:=Aside0.mk hc0
 clear hr0 hc0
 have HR1:=Aside0.mk hr1
 have HC1:=Aside0.mk hc1
 clear hr1 hc1
 have H:(if (l0.length:Int)=(l1.length:Int) then (spec_ZSame.l0 k l0 l1 0) else (some false))=some r:=h
 clear h
 by_cases c3:(l0.length:Int)=(l1.length:Int)
 ·rw [if_pos c3] at H
  have c3b0:((l0.length:Int) == (l1.length:Int))=true:=beq_iff_eq.mpr c3
  have c3b1:((l0.length:Int) != (l1.length:Int))=false:=bne_eq_false_iff_eq.mpr c3
  have c3b2:(l0.length == l1.length)=true:=by first|simpa using c3|(simp at c3 ⊢;omega)
  clear c3
  have H':=Aside0.mk H
  clear H
  go_enter Tryd.func24,Tryd.ntmps24
  go_wp2
  repeat (go_quiet (fail);try go_wp2)
  go_loopg [5] k (fun kq v5 w'=>∃ (x5_1:Int),v5=.int .i64 x5_1∧Aside0 (spec_ZSame.l0 kq l0 l1 x5_1=some r)∧Aside0 (kq≤k)∧Drawn0 w w')
  case atStart=>exact ⟨(0),(by first|rfl|(simp;done)|(simp [*];done)),H',⟨Nat.le_refl _⟩,zdw⟩
  case round =>
   clear H'
   try clear c1
   try clear c2
   try clear p2
   try clear c3
   try clear c3b0
   try clear c3b1
   try clear c3b2
   obtain ⟨x5_1,rfl,HA,HK1,⟨m1,rfl⟩⟩:=hrel
   cases gk with
   | zero=>exact absurd HA.out (by simp [spec_ZSame.l0])
   | succ k1 =>
    have H:=HA.out
    clear HA
    simp only [spec_ZSame.l0] at H
    by_cases c4:x5_1 < (l0.length:Int)
    ·rw [if_pos c4] at H
     have c4b0:decide (x5_1 < (l0.length:Int))=true:=decide_eq_true c4
     clear c4
     by_cases c5:0≤x5_1
     ·rw [if_pos c5] at H
      have c5b0:decide (0≤x5_1)=true:=decide_eq_true c5
      clear c5
      by_cases c6:x5_1 < (l1.length:Int)
      ·rw [if_pos c6] at H
       have c6b0:decide (x5_1 < (l1.length:Int))=true:=decide_eq_true c6
       clear c6
       by_cases c7:((rd_T53 l0 x5_1).f1)=((rd_T53 l1 x5_1).f1)
       ·rw [if_pos c7] at H
        have c7b0:(((rd_T53 l0 x5_1).f1) == ((rd_T53 l1 x5_1).f1))=true:=beq_iff_eq.mpr c7
        have c7b1:(((rd_T53 l0 x5_1).f1) != ((rd_T53 l1 x5_1).f1))=false:=bne_eq_false_iff_eq.mpr c7
        clear c7
        replace H:=Option.bind_eq_some_iff.mp H
        obtain ⟨t237,A80,H⟩:=H
        (try dsimp only at H)
        have A8:=Aside0.mk A80
        clear A80
        by_cases c9:t237=true
        ·subst c9
         have H1:(spec_ZSame.l0 k1 l0 l1 (wrap64 (x5_1 + 1)))=some r:=by rw [if_pos rfl] at H;exact H
         clear H
         have H:=H1
         clear H1
         have H':=Aside0.mk H
         clear H
         have p233:0≤(x5_1:Int):=zod
         have q233:x5_1 < (l0.length:Int):=zod
         obtain ⟨ad233,A233_0,c233_0,e233,hx233_0,hx233_1,hl233_0,hi233_0⟩:=at_T53 HR0.out x5_1 p233 q233
         cases e233
         have HR233_0:=Aside0.mk hi233_0
         have HC233_0:=Aside0.mk hl233_0
         clear hi233_0 hl233_0
         replace p233:=eq_true p233
         replace q233:=eq_true q233
         have p234:0≤(x5_1:Int):=zod
         have q234:x5_1 < (l1.length:Int):=zod
         obtain ⟨ad234,A234_0,c234_0,e234,hx234_0,hx234_1,hl234_0,hi234_0⟩:=at_T53 HR1.out x5_1 p234 q234
         cases e234
         have HR234_0:=Aside0.mk hi234_0
         have HC234_0:=Aside0.mk hl234_0
         clear hi234_0 hl234_0
         replace p234:=eq_true p234
         replace q234:=eq_true q234
         have p235:0≤(x5_1:Int):=zod
         have q235:x5_1 < (l0.length:Int):=zod
         obtain ⟨ad235,A235_0,c235_0,e235,hx235_0,hx235_1,hl235_0,hi235_0⟩:=at_T53 HR0.out x5_1 p235 q235
         obtain rfl:ad233=ad235:=(by injection e235)
         have HR235_0:=Aside0.mk hi235_0
         have HC235_0:=Aside0.mk hl235_0
         clear hi235_0 hl235_0
         replace p235:=eq_true p235
         replace q235:=eq_true q235
         have ea_:=Option.some.inj (hx233_0.symm.trans hx235_0)
         injection ea_ with ea_ en_ ec_
         subst ea_
         subst ec_
         clear en_
         have p236:0≤(x5_1:Int):=zod
         have q236:x5_1 < (l1.length:Int):=zod
         obtain ⟨ad236,A236_0,c236_0,e236,hx236_0,hx236_1,hl236_0,hi236_0⟩:=at_T53 HR1.out x5_1 p236 q236
         obtain rfl:ad234=ad236:=(by injection e236)
         have HR236_0:=Aside0.mk hi236_0
         have HC236_0:=Aside0.mk hl236_0
         clear hi236_0 hl236_0
         replace p236:=eq_true p236
         replace q236:=eq_true q236
         have ea_:=Option.some.inj (hx234_0.symm.trans hx236_0)
         injection ea_ with ea_ en_ ec_
         subst ea_
         subst ec_
         clear en_
         go_wp2_with (first|(go_at_call 52;(with_reducible refine (spec_RowSame.calls k1 _ _ ((rd_T53 l0 x5_1).f0) _ _ ((rd_T53 l1 x5_1).f0) true _ ?side1 ?side2 ?side3 ?side4 A8.out).mono ?_);(case side1=>exact zC HR235_0.out);(case side2=>exact HC235_0.out);(case side3=>exact zC HR236_0.out);(case side4=>exact HC236_0.out);rintro e w' ⟨rfl,⟨nd,rfl⟩⟩;(try first|exact ⟨rfl,_,World.drewN_drewN _ _ _⟩|exact ⟨rfl,_,Eq.trans (World.drewN_drewN _ _ _) (congrArg (World.drewN _) (Nat.add_assoc _ _ _))⟩)))
         repeat (go_quiet (first|(go_at_call 52;(with_reducible refine (spec_RowSame.calls k1 _ _ ((rd_T53 l0 x5_1).f0) _ _ ((rd_T53 l1 x5_1).f0) true _ ?side1 ?side2 ?side3 ?side4 A8.out).mono ?_);(case side1=>exact zC HR235_0.out);(case side2=>exact HC235_0.out);(case side3=>exact zC HR236_0.out);(case side4=>exact HC236_0.out);rintro e w' ⟨rfl,⟨nd,rfl⟩⟩;(try first|exact ⟨rfl,_,World.drewN_drewN _ _ _⟩|exact ⟨rfl,_,Eq.trans (World.drewN_drewN _ _ _) (congrArg (World.drewN _) (Nat.add_assoc _ _ _))⟩)));try go_wp2_with (first|(go_at_call 52;(with_reducible refine (spec_RowSame.calls k1 _ _ ((rd_T53 l0 x5_1).f0) _ _ ((rd_T53 l1 x5_1).f0) true _ ?side1 ?side2 ?side3 ?side4 A8.out).mono ?_);(case side1=>exact zC HR235_0.out);(case side2=>exact HC235_0.out);(case side3=>exact zC HR236_0.out);(case side4=>exact HC236_0.out);rintro e w' ⟨rfl,⟨nd,rfl⟩⟩;(try first|exact ⟨rfl,_,World.drewN_drewN _ _ _⟩|exact ⟨rfl,_,Eq.trans (World.drewN_drewN _ _ _) (congrArg (World.drewN _) (Nat.add_assoc _ _ _))⟩))))
         go_roundg k1
         case measure=>have:=HK1.out;omega
         case rel=>exact ⟨(wrap64 (x5_1 + 1)),(by first|rfl|(simp;done)|(simp [*];done)),H',⟨by have:=HK1.out;omega⟩,zdw⟩
        ·replace c9:=Bool.eq_false_iff.mpr c9
         subst c9
         have H1:(some false)=some r:=by rw [if_neg (show ¬ (false=true) by decide)] at H;exact H
         clear H
         have H:=H1
         clear H1
         obtain rfl:=Option.some.inj H
         have p233:0≤(x5_1:Int):=zod
         have q233:x5_1 < (l0.length:Int):=zod
         obtain ⟨ad233,A233_0,c233_0,e233,hx233_0,hx233_1,hl233_0,hi233_0⟩:=at_T53 HR0.out x5_1 p233 q233
         cases e233
         have HR233_0:=Aside0.mk hi233_0
         have HC233_0:=Aside0.mk hl233_0
         clear hi233_0 hl233_0
         replace p233:=eq_true p233
         replace q233:=eq_true q233
         have p234:0≤(x5_1:Int):=zod
         have q234:x5_1 < (l1.length:Int):=zod
         obtain ⟨ad234,A234_0,c234_0,e234,hx234_0,hx234_1,hl234_0,hi234_0⟩:=at_T53 HR1.out x5_1 p234 q234
         cases e234
         have HR234_0:=Aside0.mk hi234_0
         have HC234_0:=Aside0.mk hl234_0
         clear hi234_0 hl234_0
         replace p234:=eq_true p234
         replace q234:=eq_true q234
         have p235:0≤(x5_1:Int):=zod
         have q235:x5_1 < (l0.length:Int):=zod
         obtain ⟨ad235,A235_0,c235_0,e235,hx235_0,hx235_1,hl235_0,hi235_0⟩:=at_T53 HR0.out x5_1 p235 q235
         obtain rfl:ad233=ad235:=(by injection e235)
         have HR235_0:=Aside0.mk hi235_0
         have HC235_0:=Aside0.mk hl235_0
         clear hi235_0 hl235_0
         replace p235:=eq_true p235
         replace q235:=eq_true q235
         have ea_:=Option.some.inj (hx233_0.symm.trans hx235_0)
         injection ea_ with ea_ en_ ec_
         subst ea_
         subst ec_
         clear en_
         have p236:0≤(x5_1:Int):=zod
         have q236:x5_1 < (l1.length:Int):=zod
         obtain ⟨ad236,A236_0,c236_0,e236,hx236_0,hx236_1,hl236_0,hi236_0⟩:=at_T53 HR1.out x5_1 p236 q236
         obtain rfl:ad234=ad236:=(by injection e236)
         have HR236_0:=Aside0.mk hi236_0
         have HC236_0:=Aside0.mk hl236_0
         clear hi236_0 hl236_0
         replace p236:=eq_true p236
         replace q236:=eq_true q236
         have ea_:=Option.some.inj (hx234_0.symm.trans hx236_0)
         injection ea_ with ea_ en_ ec_
         subst ea_
         subst ec_
         clear en_
         go_wp2_with (first|(go_at_call 52;(with_reducible refine (spec_RowSame.calls k1 _ _ ((rd_T53 l0 x5_1).f0) _ _ ((rd_T53 l1 x5_1).f0) false _ ?side1 ?side2 ?side3 ?side4 A8.out).mono ?_);(case side1=>exact zC HR235_0.out);(case side2=>exact HC235_0.out);(case side3=>exact zC HR236_0.out);(case side4=>exact HC236_0.out);rintro e w' ⟨rfl,⟨nd,rfl⟩⟩;(try first|exact ⟨rfl,_,World.drewN_drewN _ _ _⟩|exact ⟨rfl,_,Eq.trans (World.drewN_drewN _ _ _) (congrArg (World.drewN _) (Nat.add_assoc _ _ _))⟩)))
         repeat (go_quiet (first|(go_at_call 52;(with_reducible refine (spec_RowSame.calls k1 _ _ ((rd_T53 l0 x5_1).f0) _ _ ((rd_T53 l1 x5_1).f0) false _ ?side1 ?side2 ?side3 ?side4 A8.out).mono ?_);(case side1=>exact zC HR235_0.out);(case side2=>exact HC235_0.out);(case side3=>exact zC HR236_0.out);(case side4=>exact HC236_0.out);rintro e w' ⟨rfl,⟨nd,rfl⟩⟩;(try first|exact ⟨rfl,_,World.drewN_drewN _ _ _⟩|exact ⟨rfl,_,Eq.trans (World.drewN_drewN _ _ _) (congrArg (World.drewN _) (Nat.add_assoc _ _ _))⟩)));try go_wp2_with (first|(go_at_call 52;(with_reducible refine (spec_RowSame.calls k1 _ _ ((rd_T53 l0 x5_1).f0) _ _ ((rd_T53 l1 x5_1).f0) false _ ?side1 ?side2 ?side3 ?side4 A8.out).mono ?_);(case side1=>exact zC HR235_0.out);(case side2=>exact HC235_0.out);(case side3=>exact zC HR236_0.out);(case side4=>exact HC236_0.out);rintro e w' ⟨rfl,⟨nd,rfl⟩⟩;(try first|exact ⟨rfl,_,World.drewN_drewN _ _ _⟩|exact ⟨rfl,_,Eq.trans (World.drewN_drewN _ _ _) (congrArg (World.drewN _) (Nat.add_assoc _ _ _))⟩))))
         go_ret
         exact ⟨by first|rfl|(simp;done)|(simp [*];done),zdw⟩
       ·rw [if_neg c7] at H
        have c7b0:(((rd_T53 l0 x5_1).f1) == ((rd_T53 l1 x5_1).f1))=false:=beq_eq_false_iff_ne.mpr c7
        have c7b1:(((rd_T53 l0 x5_1).f1) != ((rd_T53 l1 x5_1).f1))=true:=bne_iff_ne.mpr c7
        obtain rfl:=Option.some.inj H
        have p233:0≤(x5_1:Int):=zod
        have q233:x5_1 < (l0.length:Int):=zod
        obtain ⟨ad233,A233_0,c233_0,e233,hx233_0,hx233_1,hl233_0,hi233_0⟩:=at_T53 HR0.out x5_1 p233 q233
        cases e233
        have HR233_0:=Aside0.mk hi233_0
        have HC233_0:=Aside0.mk hl233_0
        clear hi233_0 hl233_0
        replace p233:=eq_true p233
        replace q233:=eq_true q233
        have p234:0≤(x5_1:Int):=zod
        have q234:x5_1 < (l1.length:Int):=zod
        obtain ⟨ad234,A234_0,c234_0,e234,hx234_0,hx234_1,hl234_0,hi234_0⟩:=at_T53 HR1.out x5_1 p234 q234
        cases e234
        have HR234_0:=Aside0.mk hi234_0
        have HC234_0:=Aside0.mk hl234_0
        clear hi234_0 hl234_0
        replace p234:=eq_true p234
        replace q234:=eq_true q234
        go_wp2
        repeat (go_quiet (fail);try go_wp2)
        go_ret
        exact ⟨by first|rfl|(simp;done)|(simp [*];done),zdw⟩
      ·rw [if_neg c6] at H
       exact absurd H (by simp)
     ·rw [if_neg c5] at H
      exact absurd H (by simp)
    ·rw [if_neg c4] at H
     have c4b0:decide (x5_1 < (l0.length:Int))=false:=decide_eq_false c4
     clear c4
     obtain rfl:=Option.some.inj H
     go_wp2
     repeat (go_quiet (fail);try go_wp2)
     go_ret
     exact ⟨by first|rfl|(simp;done)|(simp [*];done),zdw⟩
 ·rw [if_neg c3] at H
  have c3b0:((l0.length:Int) == (l1.length:Int))=false:=beq_eq_false_iff_ne.mpr c3
  have c3b1:((l0.length:Int) != (l1.length:Int))=true:=bne_iff_ne.mpr c3
  have c3b2:(l0.length == l1.length)=false:=by first|simpa using c3|(simp at c3 ⊢;omega)
  obtain rfl:=Option.some.inj H
  go_enter Tryd.func24,Tryd.ntmps24
  go_wp2
  repeat (go_quiet (fail);try go_wp2)
  go_ret
  exact ⟨by first|rfl|(simp;done)|(simp [*];done),zdw⟩

/-! ### spec_l1Cell: function 63 -/
def spec_l1Cell.f (a0:Int):Option (Bool):=if a0 ≥ (-1000000000) then (some (decide (a0≤1000000000))) else (some false)
set_option maxHeartbeats 8000000 in
set_option maxRecDepth 100000 in
theorem spec_l1Cell.calls (a0:Int) (r:Bool) (w:World) (h:spec_l1Cell.f a0=some r) :
  Calls Tryd.prog 63 #[.int .i64 a0] w fun e w'=>e=.returned (.bool r)∧Drawn0 w w':=by
 have H:(if a0 ≥ (-1000000000) then (some (decide (a0≤1000000000))) else (some false))=some r:=h
 clear h
 by_cases c2:a0 ≥ (-1000000000)
 ·rw [if_pos c2] at H
  have c2b0:decide ((-1000000000)≤a0)=true:=decide_eq_true c2
  clear c2
  obtain rfl:=Option.some.inj H
  go_enter Tryd.func63,Tryd.ntmps63
  go_wp2
  go_ret
  exact ⟨by first|rfl|(simp;done)|(simp [*];done),zdw⟩
 ·rw [if_neg c2] at H
  have c2b0:decide ((-1000000000)≤a0)=false:=decide_eq_false c2
  clear c2
  obtain rfl:=Option.some.inj H
  go_enter Tryd.func63,Tryd.ntmps63
  go_wp2
  go_ret
  exact ⟨by first|rfl|(simp;done)|(simp [*];done),zdw⟩

/-! ### spec_RowOk: function 33 -/
def spec_RowOk.l0:Nat→List Int→Int→Option (Bool)
 | 0,_,_=>none
 | k + 1,x0,x3=>if x3 < (x0.length:Int) then (if 0≤x3 then ((spec_l1Cell.f (rd x0 x3)).bind fun t239=>(if t239=true then (spec_RowOk.l0 k x0 (wrap64 (x3 + 1))) else (some false))) else (none)) else (if (x0.length:Int) ≥ 1 then (some (decide ((x0.length:Int)≤6))) else (some false))
def spec_RowOk.f (k:Nat) (l0:List Int):Option (Bool):=spec_RowOk.l0 k l0 0
theorem spec_RowOk.mono_l : ∀ k,(∀ y0 y1,LeO (spec_RowOk.l0 k y0 y1) (spec_RowOk.l0 (k + 1) y0 y1))
 | 0=>fun _ _ r h=>by simp [spec_RowOk.l0] at h
 | k + 1=>by
  have ih0:=spec_RowOk.mono_l k
  ·intro y0 y1
   unfold spec_RowOk.l0
   repeat' first
   | (with_reducible exact ih0 _ _)
   | (with_reducible exact LeO.refl _)
   | (with_reducible exact LeO.none _)
   | (with_reducible refine LeO.ite ?_ ?_)
   | (with_reducible refine LeO.bind ?_ (fun _=>?_))
   | exact LeO.none _
   | refine LeO.ite ?_ ?_
   | refine LeO.bind ?_ (fun _=>?_)
theorem spec_RowOk.mono : ∀ a0 k,LeO (spec_RowOk.f k a0) (spec_RowOk.f (k + 1) a0):=by
 intro a0 k
 have ih0:=spec_RowOk.mono_l k
 unfold spec_RowOk.f
 repeat' first
   | (with_reducible exact ih0 _ _)
   | (with_reducible exact LeO.refl _)
   | (with_reducible exact LeO.none _)
   | (with_reducible refine LeO.ite ?_ ?_)
   | (with_reducible refine LeO.bind ?_ (fun _=>?_))
   | exact LeO.none _
   | refine LeO.ite ?_ ?_
   | refine LeO.bind ?_ (fun _=>?_)
set_option maxHeartbeats 8000000 in
set_option maxRecDepth 100000 in
theorem spec_RowOk.calls (k:Nat) (A0:Option Addr) (c0:Nat) (l0:List Int) (r:Bool) (w:World) (hr0:Kd.C (Kd.int .i64) w A0 l0.length l0) (hc0:l0.length≤c0) (h:spec_RowOk.f k l0=some r) :
  Calls Tryd.prog 33 #[.slice A0 l0.length c0] w fun e w'=>e=.returned (.bool r)∧Drawn0 w w':=by
 have HR0:=Aside0.mk hr0
 have HC0:=Aside0.mk hc0
 clear hr0 hc0
 have H:(spec_RowOk.l0 k l0 0)=some r:=h
 clear h
 have H':=Aside0.mk H
 clear H
 go_enter Tryd.func33,Tryd.ntmps33
 go_wp2
 go_loopg [3] k (fun kq v3 w'=>∃ (x3_1:Int),v3=.int .i64 x3_1∧Aside0 (spec_RowOk.l0 kq l0 x3_1=some r)∧Aside0 (kq≤k)∧Drawn0 w w')
 case atStart=>exact ⟨(0),(by first|rfl|(simp;done)|(simp [*];done)),H',⟨Nat.le_refl _⟩,zdw⟩
 case round =>
  clear H'
  obtain ⟨x3_1,rfl,HA,HK1,⟨m1,rfl⟩⟩:=hrel
  cases gk with
  | zero=>exact absurd HA.out (by simp [spec_RowOk.l0])
  | succ k1 =>
   have H:=HA.out
   clear HA
   simp only [spec_RowOk.l0] at H
   by_cases c2:x3_1 < (l0.length:Int)
   ·rw [if_pos c2] at H
    have c2b0:decide (x3_1 < (l0.length:Int))=true:=decide_eq_true c2
    clear c2
    by_cases c3:0≤x3_1
    ·rw [if_pos c3] at H
     have c3b0:decide (0≤x3_1)=true:=decide_eq_true c3
     clear c3
     replace H:=Option.bind_eq_some_iff.mp H
     obtain ⟨t239,A40,H⟩:=H
     (try dsimp only at H)
     have A4:=Aside0.mk A40
     clear A40
     by_cases c5:t239=true
     ·subst c5
      have H1:(spec_RowOk.l0 k1 l0 (wrap64 (x3_1 + 1)))=some r:=by rw [if_pos rfl] at H;exact H
      clear H
      have H:=H1
      clear H1
      have H':=Aside0.mk H
      clear H
      have p238:0≤(x3_1:Int):=zod
      have q238:x3_1 < (l0.length:Int):=zod
      obtain ⟨ad238,e238,hx238_0⟩:=Kd.at_int HR0.out x3_1 p238 q238
      cases e238
      replace p238:=eq_true p238
      replace q238:=eq_true q238
      go_wp2_with (first|((with_reducible refine gate_callee (f:=63) rfl ?_);refine goesL_ (some 14) rfl rfl Tryd.func63 (by kernel_rfl) rfl #[.int .i64 (rd l0 x3_1)] rfl zar ?_;(with_reducible refine (spec_l1Cell.calls (rd l0 x3_1) true _ A4.out).mono ?_);rintro e w' ⟨rfl,⟨nd,rfl⟩⟩;refine ⟨_,rfl,?_⟩))
      go_roundg k1
      case measure=>have:=HK1.out;omega
      case rel=>exact ⟨(wrap64 (x3_1 + 1)),(by first|rfl|(simp;done)|(simp [*];done)),H',⟨by have:=HK1.out;omega⟩,zdw⟩
     ·replace c5:=Bool.eq_false_iff.mpr c5
      subst c5
      have H1:(some false)=some r:=by rw [if_neg (show ¬ (false=true) by decide)] at H;exact H
      clear H
      have H:=H1
      clear H1
      obtain rfl:=Option.some.inj H
      have p238:0≤(x3_1:Int):=zod
      have q238:x3_1 < (l0.length:Int):=zod
      obtain ⟨ad238,e238,hx238_0⟩:=Kd.at_int HR0.out x3_1 p238 q238
      cases e238
      replace p238:=eq_true p238
      replace q238:=eq_true q238
      go_wp2_with (first|((with_reducible refine gate_callee (f:=63) rfl ?_);refine goesL_ (some 14) rfl rfl Tryd.func63 (by kernel_rfl) rfl #[.int .i64 (rd l0 x3_1)] rfl zar ?_;(with_reducible refine (spec_l1Cell.calls (rd l0 x3_1) false _ A4.out).mono ?_);rintro e w' ⟨rfl,⟨nd,rfl⟩⟩;refine ⟨_,rfl,?_⟩))
      go_ret
      exact ⟨by first|rfl|(simp;done)|(simp [*];done),zdw⟩
    ·rw [if_neg c3] at H
     exact absurd H (by simp)
   ·rw [if_neg c2] at H
    have c2b0:decide (x3_1 < (l0.length:Int))=false:=decide_eq_false c2
    clear c2
    by_cases c6:(l0.length:Int) ≥ 1
    ·rw [if_pos c6] at H
     have c6b0:decide (1≤(l0.length:Int))=true:=decide_eq_true c6
     have c6b1:decide (1≤l0.length)=true:=decide_eq_true (by omega)
     clear c6
     obtain rfl:=Option.some.inj H
     go_wp2
     go_ret
     exact ⟨by first|rfl|(simp;done)|(simp [*];done),zdw⟩
    ·rw [if_neg c6] at H
     have c6b0:decide (1≤(l0.length:Int))=false:=decide_eq_false c6
     have c6b1:decide (1≤l0.length)=false:=decide_eq_false (by omega)
     clear c6
     obtain rfl:=Option.some.inj H
     go_wp2
     go_ret
     exact ⟨by first|rfl|(simp;done)|(simp [*];done),zdw⟩

end Go.Proofs.YtgcplipimcbhlaaDoor.PFnZOrder
