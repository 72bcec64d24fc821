-- Written by wip/tools/pp.py, a program of this session over the kit's printer: not the kit's own print
import Derived.Test.YtlknceioincaeaaDoorPFnJoinx0
import Derived.Test.YtlknceioincaeaaDoorPFnJoinx4
namespace Go.Proofs.YtlknceioincaeaaDoor.PFnJoin
open Go.RowKit Go.Proofs.YtlknceioincaeaaDoorW.PrintWords Go.Proofs.YtlknceioincaeaaDoorW.PrintLast Go.Proofs.YtlknceioincaeaaDoorW.PrintMore
attribute [local go_sem] max2_int min2_int max_two min_two max_three min_three max_four min_four   -- for this text's walks alone
set_option linter.unusedVariables false
set_option linter.unusedSimpArgs false

/-! ### impl_ZOk: function 23 -/
def impl_ZOk.l0:Nat→List (S31)→List (S31)→Int→Int→Option (Bool)
 | 0,_,_,_,_=>none
 | k + 1,x0,x8,x9,x10=>if x10 < x9 then (if 0≤x10 then (if x10 < (x8.length:Int) then ((impl_RowOk.f k ((rd_T31 x8 x10).f0)).bind fun t241=>(if t241=true then (if ((rd_T31 x8 x10).f1) < (-10000) then (some false) else (if ((rd_T31 x8 x10).f1) > 10000 then (some false) else (if ((rd_T31 x8 x10).f1)=0 then (some false) else (if x10 > 0 then (if 0≤(wrap64 (x10 - 1)) then (if (wrap64 (x10 - 1)) < (x0.length:Int) then ((impl_RowLess.f k ((rd_T31 x0 (wrap64 (x10 - 1))).f0) ((rd_T31 x8 x10).f0)).bind fun t243=>(if t243=true then (impl_ZOk.l0 k x0 x8 x9 (wrap64 (x10 + 1))) else (some false))) else (none)) else (none)) else (impl_ZOk.l0 k x0 x8 x9 (wrap64 (x10 + 1))))))) else (some false))) else (none)) else (none)) else (some true)
def impl_ZOk.f (k:Nat) (l0:List (S31)):Option (Bool):=if (l0.length:Int) > 100 then (some false) else (impl_ZOk.l0 k l0 l0 (l0.length:Int) 0)
theorem impl_ZOk.mono_l : ∀ k,(∀ y0 y1 y2 y3,LeO (impl_ZOk.l0 k y0 y1 y2 y3) (impl_ZOk.l0 (k + 1) y0 y1 y2 y3))
 | 0=>fun _ _ _ _ r h=>by simp [impl_ZOk.l0] at h
 | k + 1=>by
  have ih0:=impl_ZOk.mono_l k
  ·intro y0 y1 y2 y3
   unfold impl_ZOk.l0
   repeat' first
   | (with_reducible exact ih0 _ _ _ _)
   | (with_reducible exact impl_RowLess.mono _ _ _)
   | (with_reducible exact impl_RowOk.mono _ _)
   | (with_reducible exact LeO.refl _)
   | (with_reducible exact LeO.none _)
   | (with_reducible refine LeO.ite ?_ ?_)
   | (with_reducible refine LeO.bind ?_ (fun _=>?_))
   | exact LeO.none _
   | refine LeO.ite ?_ ?_
   | refine LeO.bind ?_ (fun _=>?_)
theorem impl_ZOk.mono : ∀ a0 k,LeO (impl_ZOk.f k a0) (impl_ZOk.f (k + 1) a0):=by
 intro a0 k
 have ih0:=impl_ZOk.mono_l k
 unfold impl_ZOk.f
 repeat' first
   | (with_reducible exact ih0 _ _ _ _)
   | (with_reducible exact impl_RowLess.mono _ _ _)
   | (with_reducible exact impl_RowOk.mono _ _)
   | (with_reducible exact LeO.refl _)
   | (with_reducible exact LeO.none _)
   | (with_reducible refine LeO.ite ?_ ?_)
   | (with_reducible refine LeO.bind ?_ (fun _=>?_))
   | exact LeO.none _
   | refine LeO.ite ?_ ?_
   | refine LeO.bind ?_ (fun _=>?_)
def impl_ZOk.T6:Bool × List (List Nat × List Nat):=(true,[([],[]),([0],[0]),([1],[1]),([2],[2]),([3,2],[3]),([4],[4]),([5,4],[4,5]),([6,4],[4,6]),([4,7],[4,7]),([8,4],[8]),([9],[9]),([10,9],[9,10]),([11,9],[9,11]),([9,12],[9,12]),([13,9],[13]),([14],[14]),([15,14],[14,15]),([16,14],[14,16]),([14,17],[14,17]),([18,14],[18]),([19],[19]),([20,19],[19,20]),([21,19,19],[19,21]),([22],[22]),([22],[22]),([24,22],[22,24]),([23,25,22],[22,23,25]),([26,22],[22,26]),([27,22],[22,27]),([22],[22]),([29,22],[22,29]),([28,30,22,22],[22,28,30]),([31,22],[22,31]),([22,32,19],[19,22,32]),([19,33],[19,33])])
def impl_ZOk.B6:List Nat:=[0,1,3,7,15,31,63,127,255,511,1023,2047,4095,8191,16383,32767,65535,131071,262143,524287,1048575,2097151,4194303,8388607,8388607,25165823,67108863,134217727,268435455,8388607,545259519,2147483647,4294967295,8589934591,17179869183]
theorem impl_ZOk.tab6:rtab .any (opsOf Tryd.f23 6)=impl_ZOk.T6:=by kernel_rfl
theorem impl_ZOk.bits6:waitsOk impl_ZOk.T6.2 impl_ZOk.B6=true:=by kernel_rfl
set_option maxHeartbeats 8000000 in
set_option maxRecDepth 100000 in
theorem impl_ZOk.calls (k:Nat) (A0:Option Addr) (c0:Nat) (l0:List (S31)) (r:Bool) (w:World) (hr0:Kd.C k31 w A0 l0.length l0) (hc0:l0.length≤c0) (h:impl_ZOk.f k l0=some r) :
  Calls Tryd.prog 23 #[.slice A0 l0.length c0] w fun e w'=>e=.returned (.bool r)∧Below w.heap.size w w':=by
 have hu31:=Tryd.underlying31
 have HR0:=Aside0.mk hr0
 have HC0:=Aside0.mk hc0
 clear hr0 hc0
 have HB:=Aside0.mk (Below.refl w.heap.size w)
 have H:(if (l0.length:Int) > 100 then (some false) else (impl_ZOk.l0 k l0 l0 (l0.length:Int) 0))=some r:=h
 clear h
 by_cases c2:(l0.length:Int) > 100
 ·rw [if_pos c2] at H
  have c2b0:decide (100 < (l0.length:Int))=true:=decide_eq_true c2
  have c2b1:decide (100 < l0.length)=true:=decide_eq_true (by omega)
  clear c2
  obtain rfl:=Option.some.inj H
  go_enter Tryd.func23,Tryd.ntmps23
  go_wp2
  go_ret
  exact ⟨by first|rfl|(simp [errW_none,errW_some] <;> rfl)|(simp [*,errW_none,errW_some] <;> rfl),zhb⟩
 rw [if_neg c2] at H
 have c2b0:decide (100 < (l0.length:Int))=false:=decide_eq_false c2
 have c2b1:decide (100 < l0.length)=false:=decide_eq_false (by omega)
 clear c2
 have H':=Aside0.mk H
 clear H
 go_enter Tryd.func23,Tryd.ntmps23
 go_wp2
 go_loopg [10] k (fun kq v10 w'=>∃ (x10_1:Int),v10=.int .i64 x10_1∧Aside0 (impl_ZOk.l0 kq l0 l0 (l0.length:Int) x10_1=some r)∧Aside0 (kq≤k)∧Aside0 (Below w.heap.size w w'))
 case atStart=>exact ⟨(0),(by first|rfl|(simp;done)|(simp [*];done)),H',⟨Nat.le_refl _⟩,⟨zhb⟩⟩
 case round =>
  clear H'
  try clear c2
  try clear c2b0
  try clear c2b1
  try clear p2
  obtain ⟨x10_1,rfl,HA,HK1,HB⟩:=hrel
  cases gk with
  | zero=>exact absurd HA.out (by simp [impl_ZOk.l0])
  | succ k1 =>
   have H:=HA.out
   clear HA
   simp only [impl_ZOk.l0] at H
   by_cases c3:x10_1 < (l0.length:Int)
   rotate_left
   ·rw [if_neg c3] at H
    have c3b0:decide (x10_1 < (l0.length:Int))=false:=decide_eq_false c3
    clear c3
    obtain rfl:=Option.some.inj H
    go_wp2
    go_ret
    exact ⟨by first|rfl|(simp [errW_none,errW_some] <;> rfl)|(simp [*,errW_none,errW_some] <;> rfl),zhb⟩

   rw [if_pos c3] at H
   have c3b0:decide (x10_1 < (l0.length:Int))=true:=decide_eq_true c3
   clear c3
   by_cases c4:0≤x10_1
   rotate_left
   ·rw [if_neg c4] at H
    exact absurd H (by simp)
   rw [if_pos c4] at H
   have c4b0:decide (0≤x10_1)=true:=decide_eq_true c4
   clear c4
   by_cases c5:x10_1 < (l0.length:Int)
   rotate_left
   ·rw [if_neg c5] at H
    exact absurd H (by simp)
   rw [if_pos c5] at H
   have c5b0:decide (x10_1 < (l0.length:Int))=true:=decide_eq_true c5
   clear c5
   replace H:=Option.bind_eq_some_iff.mp H
   obtain ⟨t241,A60,H⟩:=H
   (try dsimp only at H)
   have A6:=Aside0.mk A60
   clear A60
   by_cases c7:t241=true
   rotate_left
   ·replace c7:=Bool.eq_false_iff.mpr c7
    subst c7
    have H1:(some false)=some r:=by rw [if_neg (show ¬ (false=true) by decide)] at H;exact H
    clear H
    have H:=H1
    clear H1
    obtain rfl:=Option.some.inj H
    have p239:0≤(x10_1:Int):=zod
    have q239:x10_1 < (l0.length:Int):=zod
    obtain ⟨ad239,A239_0,c239_0,e239,hx239_0,hx239_1,hl239_0,hi239_0⟩:=at_T31 HR0.out x10_1 p239 q239
    cases e239
    replace hx239_0:=(HB.out.cell (World.block_lt_of_cell? w _ hx239_0)).trans hx239_0
    replace hx239_1:=(HB.out.cell (World.block_lt_of_cell? w _ hx239_1)).trans hx239_1
    have HR239_0:=Aside0.mk hi239_0
    have HC239_0:=Aside0.mk hl239_0
    clear hi239_0 hl239_0
    replace p239:=eq_true p239
    replace q239:=eq_true q239
    try go_wp2_with (first|((with_reducible refine gate_dst (N:=4) rfl ?_);refine box_event ?hg (N:=4) ?hd (cs:=#[.slice none 0 0,.int .i64 0]) (t:=31) ?hr ?_;(case hd=>rfl);(case hg=>rfl);(case hr=>first|(go_simp;done)|(go_simp;rfl));intro gb240 hg w41 hbox hb;have n0_:=Aside0.mk (below_step zhb hb);have n1_:=Aside0.mk (hbox);have n2_:=Aside0.mk ((by rw [hg];exact (below_size zhb):w.heap.size≤gb240));have n3_:=Aside0.mk ((by rw [hg];exact (below_size zhb):w.heap.size≤gb240));clear HB;have HB:=n0_;have BK240:=n1_;have GW240:=n2_;have GE240:=n3_;clear n0_ n1_ n2_ n3_;clear hb hbox hg;have hcz42_0:w41.cell? ⟨gb240,0,none⟩=some (.slice none 0 0):=(blk_cell BK240.out 0).trans rfl;have hcz42_1:w41.cell? ⟨gb240,1,none⟩=some (.int .i64 0):=(blk_cell BK240.out 1).trans rfl;have hfz42_0:=blk_frozen BK240.out 0;have hfz42_1:=blk_frozen BK240.out 1))
    have n0_:Aside0 (((w41.setCell ⟨gb240,0,none⟩ (.slice A239_0 ((rd_T31 l0 x10_1).f0).length c239_0)).setCell ⟨gb240,1,none⟩ (.int .i64 ((rd_T31 l0 x10_1).f1))).heap[gb240]?=some (.cells #[.slice A239_0 ((rd_T31 l0 x10_1).f0).length c239_0,.int .i64 ((rd_T31 l0 x10_1).f1)] 31 (0,0))):=⟨by (with_reducible repeat (first|refine blk_drewN ?_ _|refine blk_drew ?_|refine blk_alloc ?_ _));refine blk_put (cs:=#[.slice A239_0 ((rd_T31 l0 x10_1).f0).length c239_0,.int .i64 0]) ?_ 1 _ rfl;(with_reducible repeat (first|refine blk_drewN ?_ _|refine blk_drew ?_|refine blk_alloc ?_ _));refine blk_put (cs:=#[.slice none 0 0,.int .i64 0]) ?_ 0 _ rfl;(with_reducible repeat (first|refine blk_drewN ?_ _|refine blk_drew ?_|refine blk_alloc ?_ _));exact BK240.out⟩
    have n1_:Aside0 (Below w.heap.size w ((w41.setCell ⟨gb240,0,none⟩ (.slice A239_0 ((rd_T31 l0 x10_1).f0).length c239_0)).setCell ⟨gb240,1,none⟩ (.int .i64 ((rd_T31 l0 x10_1).f1)))):=⟨by repeat (first|(with_reducible first|exact HB.out|apply below_alloc|apply pw_below_drewN|apply below_drew1|refine below_set ?_ GE240.out)|exact HB.out)⟩
    (try clear BK240)
    (try clear HB)
    generalize ((w41.setCell ⟨gb240,0,none⟩ (.slice A239_0 ((rd_T31 l0 x10_1).f0).length c239_0)).setCell ⟨gb240,1,none⟩ (.int .i64 ((rd_T31 l0 x10_1).f1)))=w43 at n0_ n1_ ⊢
    have BK240:=n0_
    have HB:=n1_
    clear n0_ n1_
    have n0_:=Aside0.mk (blk_drew BK240.out)
    have n1_:=Aside0.mk (below_drew1 HB.out)
    clear BK240
    clear HB
    have BK240:=n0_
    have HB:=n1_
    clear n0_ n1_
    refine start_ (n:=35) (S:=fun w'=>w'.cell? ⟨gb240,0,none⟩=some (.slice A239_0 ((rd_T31 l0 x10_1).f0).length c239_0)∧w'.cell? ⟨gb240,1,none⟩=some (.int .i64 ((rd_T31 l0 x10_1).f1))) (ds:=[]) (zm 35 0) (by kernel_rfl) rfl rfl ⟨(blk_cell BK240.out 0).trans rfl,(blk_cell BK240.out 1).trans rfl⟩ (fun hHeld=>?_);refine with_tabW impl_ZOk.tab6 impl_ZOk.bits6 (fun HT_ HW_=>?_)
    generalize w43.drew=w44 at BK240 HB hHeld ⊢
    refine zpu 0 15 35 1 ?_
    refine zta 1 16 35 3 ?_
    refine one_ (i:=2) (N:=some 17) (zm 35 7) rfl rfl (one_of HT_.out (by kernel_rfl)) (by decide) (fun K hK=>?_)
    refine goes_ Tryd.func49 (by kernel_rfl) rfl #[.slice A239_0 ((rd_T31 l0 x10_1).f0).length c239_0] (by rfl) rfl rfl zar ?_
    with_reducible refine (impl_RowOk.calls k1 _ _ ((rd_T31 l0 x10_1).f0) false _ ?side1 ?side2 A6.out).mono ?_
    (case side1=>exact zC (Kd.C_below HR239_0.out HB.out))
    (case side2=>exact HC239_0.out)
    rintro e w' ⟨rfl,⟨nd,rfl⟩⟩
    refine ⟨_,rfl,?_⟩
    refine hK.out _ _ ⟨(blk_cell BK240.out 0).trans rfl,(blk_cell BK240.out 1).trans rfl⟩ (fun hHeld=>?_)
    clear hK K
    refine norm_ (a':=?_) ?_ ?_
    rotate_left
    ·show Act.put _ (some 17) _=_
     simp only [Act.put,zp1,zp2,zp3,i64_w,i32_w]
     rfl
    refine zpu 3 18 35 15 ?_
    refine zpu 4 19 35 31 ?_
    refine zqu 5 20 35 63 ?_
    refine zqu 6 21 35 127 ?_
    refine zqu 7 22 35 255 ?_
    refine zpu 8 23 35 511 ?_
    refine zpu 9 24 35 1023 ?_
    refine zqu 10 25 35 2047 ?_
    refine zqu 11 26 35 4095 ?_
    refine zqu 12 27 35 8191 ?_
    refine zpu 13 28 35 16383 ?_
    refine zpu 14 29 35 32767 ?_
    refine zqu 15 30 35 65535 ?_
    refine zqu 16 31 35 131071 ?_
    refine zqu 17 32 35 262143 ?_
    refine zpu 18 33 35 524287 ?_
    refine zpu 19 34 35 1048575 ?_
    refine zqu 20 35 35 2097151 ?_
    refine zqu 21 36 35 4194303 ?_
    refine zqu 22 37 35 8388607 ?_
    refine zqu 23 38 35 16777215 ?_
    refine zqu 24 39 35 33554431 ?_
    refine zqu 25 40 35 67108863 ?_
    refine zqu 26 41 35 134217727 ?_
    refine zqu 27 42 35 268435455 ?_
    refine zqu 28 43 35 536870911 ?_
    refine zqu 29 44 35 1073741823 ?_
    refine zqu 30 45 35 2147483647 ?_
    refine zqu 31 46 35 4294967295 ?_
    refine zqu 32 47 35 8589934591 ?_
    refine zqu 33 48 35 17179869183 ?_
    refine zpu 34 49 35 34359738367 ?_
    refine done_ (done_of HT_.out (by kernel_rfl)) ?_
    try go_wp2
    go_ret
    exact ⟨by first|rfl|(simp [errW_none,errW_some] <;> rfl)|(simp [*,errW_none,errW_some] <;> rfl),by repeat (first|(with_reducible first|exact HB.out|apply below_alloc|apply pw_below_drewN|apply below_drew1|refine below_set ?_ GE240.out)|exact HB.out)⟩
   subst c7
   have H1:(if ((rd_T31 l0 x10_1).f1) < (-10000) then (some false) else (if ((rd_T31 l0 x10_1).f1) > 10000 then (some false) else (if ((rd_T31 l0 x10_1).f1)=0 then (some false) else (if x10_1 > 0 then (if 0≤(wrap64 (x10_1 - 1)) then (if (wrap64 (x10_1 - 1)) < (l0.length:Int) then ((impl_RowLess.f k1 ((rd_T31 l0 (wrap64 (x10_1 - 1))).f0) ((rd_T31 l0 x10_1).f0)).bind fun t243=>(if t243=true then (impl_ZOk.l0 k1 l0 l0 (l0.length:Int) (wrap64 (x10_1 + 1))) else (some false))) else (none)) else (none)) else (impl_ZOk.l0 k1 l0 l0 (l0.length:Int) (wrap64 (x10_1 + 1)))))))=some r:=by rw [if_pos rfl] at H;exact H
   clear H
   have H:=H1
   clear H1
   by_cases c8:((rd_T31 l0 x10_1).f1) < (-10000)
   ·rw [if_pos c8] at H
    have c8b0:decide (((rd_T31 l0 x10_1).f1) < (-10000))=true:=decide_eq_true c8
    clear c8
    obtain rfl:=Option.some.inj H
    have p239:0≤(x10_1:Int):=zod
    have q239:x10_1 < (l0.length:Int):=zod
    obtain ⟨ad239,A239_0,c239_0,e239,hx239_0,hx239_1,hl239_0,hi239_0⟩:=at_T31 HR0.out x10_1 p239 q239
    cases e239
    replace hx239_0:=(HB.out.cell (World.block_lt_of_cell? w _ hx239_0)).trans hx239_0
    replace hx239_1:=(HB.out.cell (World.block_lt_of_cell? w _ hx239_1)).trans hx239_1
    have HR239_0:=Aside0.mk hi239_0
    have HC239_0:=Aside0.mk hl239_0
    clear hi239_0 hl239_0
    replace p239:=eq_true p239
    replace q239:=eq_true q239
    try go_wp2_with (first|((with_reducible refine gate_dst (N:=4) rfl ?_);refine box_event ?hg (N:=4) ?hd (cs:=#[.slice none 0 0,.int .i64 0]) (t:=31) ?hr ?_;(case hd=>rfl);(case hg=>rfl);(case hr=>first|(go_simp;done)|(go_simp;rfl));intro gb240 hg w9 hbox hb;have n0_:=Aside0.mk (below_step zhb hb);have n1_:=Aside0.mk (hbox);have n2_:=Aside0.mk ((by rw [hg];exact (below_size zhb):w.heap.size≤gb240));have n3_:=Aside0.mk ((by rw [hg];exact (below_size zhb):w.heap.size≤gb240));clear HB;have HB:=n0_;have BK240:=n1_;have GW240:=n2_;have GE240:=n3_;clear n0_ n1_ n2_ n3_;clear hb hbox hg;have hcz10_0:w9.cell? ⟨gb240,0,none⟩=some (.slice none 0 0):=(blk_cell BK240.out 0).trans rfl;have hcz10_1:w9.cell? ⟨gb240,1,none⟩=some (.int .i64 0):=(blk_cell BK240.out 1).trans rfl;have hfz10_0:=blk_frozen BK240.out 0;have hfz10_1:=blk_frozen BK240.out 1))
    have n0_:Aside0 (((w9.setCell ⟨gb240,0,none⟩ (.slice A239_0 ((rd_T31 l0 x10_1).f0).length c239_0)).setCell ⟨gb240,1,none⟩ (.int .i64 ((rd_T31 l0 x10_1).f1))).heap[gb240]?=some (.cells #[.slice A239_0 ((rd_T31 l0 x10_1).f0).length c239_0,.int .i64 ((rd_T31 l0 x10_1).f1)] 31 (0,0))):=⟨by (with_reducible repeat (first|refine blk_drewN ?_ _|refine blk_drew ?_|refine blk_alloc ?_ _));refine blk_put (cs:=#[.slice A239_0 ((rd_T31 l0 x10_1).f0).length c239_0,.int .i64 0]) ?_ 1 _ rfl;(with_reducible repeat (first|refine blk_drewN ?_ _|refine blk_drew ?_|refine blk_alloc ?_ _));refine blk_put (cs:=#[.slice none 0 0,.int .i64 0]) ?_ 0 _ rfl;(with_reducible repeat (first|refine blk_drewN ?_ _|refine blk_drew ?_|refine blk_alloc ?_ _));exact BK240.out⟩
    have n1_:Aside0 (Below w.heap.size w ((w9.setCell ⟨gb240,0,none⟩ (.slice A239_0 ((rd_T31 l0 x10_1).f0).length c239_0)).setCell ⟨gb240,1,none⟩ (.int .i64 ((rd_T31 l0 x10_1).f1)))):=⟨by repeat (first|(with_reducible first|exact HB.out|apply below_alloc|apply pw_below_drewN|apply below_drew1|refine below_set ?_ GE240.out)|exact HB.out)⟩
    (try clear BK240)
    (try clear HB)
    generalize ((w9.setCell ⟨gb240,0,none⟩ (.slice A239_0 ((rd_T31 l0 x10_1).f0).length c239_0)).setCell ⟨gb240,1,none⟩ (.int .i64 ((rd_T31 l0 x10_1).f1)))=w11 at n0_ n1_ ⊢
    have BK240:=n0_
    have HB:=n1_
    clear n0_ n1_
    have n0_:=Aside0.mk (blk_drew BK240.out)
    have n1_:=Aside0.mk (below_drew1 HB.out)
    clear BK240
    clear HB
    have BK240:=n0_
    have HB:=n1_
    clear n0_ n1_
    refine start_ (n:=35) (S:=fun w'=>w'.cell? ⟨gb240,0,none⟩=some (.slice A239_0 ((rd_T31 l0 x10_1).f0).length c239_0)∧w'.cell? ⟨gb240,1,none⟩=some (.int .i64 ((rd_T31 l0 x10_1).f1))) (ds:=[]) (zm 35 0) (by kernel_rfl) rfl rfl ⟨(blk_cell BK240.out 0).trans rfl,(blk_cell BK240.out 1).trans rfl⟩ (fun hHeld=>?_);refine with_tabW impl_ZOk.tab6 impl_ZOk.bits6 (fun HT_ HW_=>?_)
    generalize w11.drew=w12 at BK240 HB hHeld ⊢
    refine zpu 0 15 35 1 ?_
    refine zta 1 16 35 3 ?_
    refine one_ (i:=2) (N:=some 17) (zm 35 7) rfl rfl (one_of HT_.out (by kernel_rfl)) (by decide) (fun K hK=>?_)
    refine goes_ Tryd.func49 (by kernel_rfl) rfl #[.slice A239_0 ((rd_T31 l0 x10_1).f0).length c239_0] (by rfl) rfl rfl zar ?_
    with_reducible refine (impl_RowOk.calls k1 _ _ ((rd_T31 l0 x10_1).f0) true _ ?side1 ?side2 A6.out).mono ?_
    (case side1=>exact zC (Kd.C_below HR239_0.out HB.out))
    (case side2=>exact HC239_0.out)
    rintro e w' ⟨rfl,⟨nd,rfl⟩⟩
    refine ⟨_,rfl,?_⟩
    refine hK.out _ _ ⟨(blk_cell BK240.out 0).trans rfl,(blk_cell BK240.out 1).trans rfl⟩ (fun hHeld=>?_)
    clear hK K
    refine norm_ (a':=?_) ?_ ?_
    rotate_left
    ·show Act.put _ (some 17) _=_
     simp only [Act.put,zp1,zp2,zp3,i64_w,i32_w]
     rfl
    refine zpu 3 18 35 15 ?_
    refine zpu 4 19 35 31 ?_
    refine zpu 5 20 35 63 ?_
    refine zta 6 21 35 127 ?_
    refine zpu 7 22 35 255 ?_
    refine zpu 8 23 35 511 ?_
    refine zpu 9 24 35 1023 ?_
    refine zqu 10 25 35 2047 ?_
    refine zqu 11 26 35 4095 ?_
    refine zqu 12 27 35 8191 ?_
    refine zpu 13 28 35 16383 ?_
    refine zpu 14 29 35 32767 ?_
    refine zqu 15 30 35 65535 ?_
    refine zqu 16 31 35 131071 ?_
    refine zqu 17 32 35 262143 ?_
    refine zpu 18 33 35 524287 ?_
    refine zpu 19 34 35 1048575 ?_
    refine zqu 20 35 35 2097151 ?_
    refine zqu 21 36 35 4194303 ?_
    refine zqu 22 37 35 8388607 ?_
    refine zqu 23 38 35 16777215 ?_
    refine zqu 24 39 35 33554431 ?_
    refine zqu 25 40 35 67108863 ?_
    refine zqu 26 41 35 134217727 ?_
    refine zqu 27 42 35 268435455 ?_
    refine zqu 28 43 35 536870911 ?_
    refine zqu 29 44 35 1073741823 ?_
    refine zqu 30 45 35 2147483647 ?_
    refine zqu 31 46 35 4294967295 ?_
    refine zqu 32 47 35 8589934591 ?_
    refine zqu 33 48 35 17179869183 ?_
    refine zpu 34 49 35 34359738367 ?_
    refine done_ (done_of HT_.out (by kernel_rfl)) ?_
    try go_wp2
    go_ret
    exact ⟨by first|rfl|(simp [errW_none,errW_some] <;> rfl)|(simp [*,errW_none,errW_some] <;> rfl),by repeat (first|(with_reducible first|exact HB.out|apply below_alloc|apply pw_below_drewN|apply below_drew1|refine below_set ?_ GE240.out)|exact HB.out)⟩
   rw [if_neg c8] at H
   have c8b0:decide (((rd_T31 l0 x10_1).f1) < (-10000))=false:=decide_eq_false c8
   clear c8
   by_cases c13:((rd_T31 l0 x10_1).f1) > 10000
   ·rw [if_pos c13] at H
    have c13b0:decide (10000 < ((rd_T31 l0 x10_1).f1))=true:=decide_eq_true c13
    clear c13
    obtain rfl:=Option.some.inj H
    have p239:0≤(x10_1:Int):=zod
    have q239:x10_1 < (l0.length:Int):=zod
    obtain ⟨ad239,A239_0,c239_0,e239,hx239_0,hx239_1,hl239_0,hi239_0⟩:=at_T31 HR0.out x10_1 p239 q239
    cases e239
    replace hx239_0:=(HB.out.cell (World.block_lt_of_cell? w _ hx239_0)).trans hx239_0
    replace hx239_1:=(HB.out.cell (World.block_lt_of_cell? w _ hx239_1)).trans hx239_1
    have HR239_0:=Aside0.mk hi239_0
    have HC239_0:=Aside0.mk hl239_0
    clear hi239_0 hl239_0
    replace p239:=eq_true p239
    replace q239:=eq_true q239
    try go_wp2_with (first|((with_reducible refine gate_dst (N:=4) rfl ?_);refine box_event ?hg (N:=4) ?hd (cs:=#[.slice none 0 0,.int .i64 0]) (t:=31) ?hr ?_;(case hd=>rfl);(case hg=>rfl);(case hr=>first|(go_simp;done)|(go_simp;rfl));intro gb240 hg w14 hbox hb;have n0_:=Aside0.mk (below_step zhb hb);have n1_:=Aside0.mk (hbox);have n2_:=Aside0.mk ((by rw [hg];exact (below_size zhb):w.heap.size≤gb240));have n3_:=Aside0.mk ((by rw [hg];exact (below_size zhb):w.heap.size≤gb240));clear HB;have HB:=n0_;have BK240:=n1_;have GW240:=n2_;have GE240:=n3_;clear n0_ n1_ n2_ n3_;clear hb hbox hg;have hcz15_0:w14.cell? ⟨gb240,0,none⟩=some (.slice none 0 0):=(blk_cell BK240.out 0).trans rfl;have hcz15_1:w14.cell? ⟨gb240,1,none⟩=some (.int .i64 0):=(blk_cell BK240.out 1).trans rfl;have hfz15_0:=blk_frozen BK240.out 0;have hfz15_1:=blk_frozen BK240.out 1))
    have n0_:Aside0 (((w14.setCell ⟨gb240,0,none⟩ (.slice A239_0 ((rd_T31 l0 x10_1).f0).length c239_0)).setCell ⟨gb240,1,none⟩ (.int .i64 ((rd_T31 l0 x10_1).f1))).heap[gb240]?=some (.cells #[.slice A239_0 ((rd_T31 l0 x10_1).f0).length c239_0,.int .i64 ((rd_T31 l0 x10_1).f1)] 31 (0,0))):=⟨by (with_reducible repeat (first|refine blk_drewN ?_ _|refine blk_drew ?_|refine blk_alloc ?_ _));refine blk_put (cs:=#[.slice A239_0 ((rd_T31 l0 x10_1).f0).length c239_0,.int .i64 0]) ?_ 1 _ rfl;(with_reducible repeat (first|refine blk_drewN ?_ _|refine blk_drew ?_|refine blk_alloc ?_ _));refine blk_put (cs:=#[.slice none 0 0,.int .i64 0]) ?_ 0 _ rfl;(with_reducible repeat (first|refine blk_drewN ?_ _|refine blk_drew ?_|refine blk_alloc ?_ _));exact BK240.out⟩
    have n1_:Aside0 (Below w.heap.size w ((w14.setCell ⟨gb240,0,none⟩ (.slice A239_0 ((rd_T31 l0 x10_1).f0).length c239_0)).setCell ⟨gb240,1,none⟩ (.int .i64 ((rd_T31 l0 x10_1).f1)))):=⟨by repeat (first|(with_reducible first|exact HB.out|apply below_alloc|apply pw_below_drewN|apply below_drew1|refine below_set ?_ GE240.out)|exact HB.out)⟩
    (try clear BK240)
    (try clear HB)
    generalize ((w14.setCell ⟨gb240,0,none⟩ (.slice A239_0 ((rd_T31 l0 x10_1).f0).length c239_0)).setCell ⟨gb240,1,none⟩ (.int .i64 ((rd_T31 l0 x10_1).f1)))=w16 at n0_ n1_ ⊢
    have BK240:=n0_
    have HB:=n1_
    clear n0_ n1_
    have n0_:=Aside0.mk (blk_drew BK240.out)
    have n1_:=Aside0.mk (below_drew1 HB.out)
    clear BK240
    clear HB
    have BK240:=n0_
    have HB:=n1_
    clear n0_ n1_
    refine start_ (n:=35) (S:=fun w'=>w'.cell? ⟨gb240,0,none⟩=some (.slice A239_0 ((rd_T31 l0 x10_1).f0).length c239_0)∧w'.cell? ⟨gb240,1,none⟩=some (.int .i64 ((rd_T31 l0 x10_1).f1))) (ds:=[]) (zm 35 0) (by kernel_rfl) rfl rfl ⟨(blk_cell BK240.out 0).trans rfl,(blk_cell BK240.out 1).trans rfl⟩ (fun hHeld=>?_);refine with_tabW impl_ZOk.tab6 impl_ZOk.bits6 (fun HT_ HW_=>?_)
    generalize w16.drew=w17 at BK240 HB hHeld ⊢
    refine zpu 0 15 35 1 ?_
    refine zta 1 16 35 3 ?_
    refine one_ (i:=2) (N:=some 17) (zm 35 7) rfl rfl (one_of HT_.out (by kernel_rfl)) (by decide) (fun K hK=>?_)
    refine goes_ Tryd.func49 (by kernel_rfl) rfl #[.slice A239_0 ((rd_T31 l0 x10_1).f0).length c239_0] (by rfl) rfl rfl zar ?_
    with_reducible refine (impl_RowOk.calls k1 _ _ ((rd_T31 l0 x10_1).f0) true _ ?side1 ?side2 A6.out).mono ?_
    (case side1=>exact zC (Kd.C_below HR239_0.out HB.out))
    (case side2=>exact HC239_0.out)
    rintro e w' ⟨rfl,⟨nd,rfl⟩⟩
    refine ⟨_,rfl,?_⟩
    refine hK.out _ _ ⟨(blk_cell BK240.out 0).trans rfl,(blk_cell BK240.out 1).trans rfl⟩ (fun hHeld=>?_)
    clear hK K
    refine norm_ (a':=?_) ?_ ?_
    rotate_left
    ·show Act.put _ (some 17) _=_
     simp only [Act.put,zp1,zp2,zp3,i64_w,i32_w]
     rfl
    refine zpu 3 18 35 15 ?_
    refine zpu 4 19 35 31 ?_
    refine zpu 5 20 35 63 ?_
    refine zta 6 21 35 127 ?_
    refine zpu 7 22 35 255 ?_
    refine zpu 8 23 35 511 ?_
    refine zpu 9 24 35 1023 ?_
    refine zpu 10 25 35 2047 ?_
    refine zta 11 26 35 4095 ?_
    refine zpu 12 27 35 8191 ?_
    refine zpu 13 28 35 16383 ?_
    refine zpu 14 29 35 32767 ?_
    refine zqu 15 30 35 65535 ?_
    refine zqu 16 31 35 131071 ?_
    refine zqu 17 32 35 262143 ?_
    refine zpu 18 33 35 524287 ?_
    refine zpu 19 34 35 1048575 ?_
    refine zqu 20 35 35 2097151 ?_
    refine zqu 21 36 35 4194303 ?_
    refine zqu 22 37 35 8388607 ?_
    refine zqu 23 38 35 16777215 ?_
    refine zqu 24 39 35 33554431 ?_
    refine zqu 25 40 35 67108863 ?_
    refine zqu 26 41 35 134217727 ?_
    refine zqu 27 42 35 268435455 ?_
    refine zqu 28 43 35 536870911 ?_
    refine zqu 29 44 35 1073741823 ?_
    refine zqu 30 45 35 2147483647 ?_
    refine zqu 31 46 35 4294967295 ?_
    refine zqu 32 47 35 8589934591 ?_
    refine zqu 33 48 35 17179869183 ?_
    refine zpu 34 49 35 34359738367 ?_
    refine done_ (done_of HT_.out (by kernel_rfl)) ?_
    try go_wp2
    go_ret
    exact ⟨by first|rfl|(simp [errW_none,errW_some] <;> rfl)|(simp [*,errW_none,errW_some] <;> rfl),by repeat (first|(with_reducible first|exact HB.out|apply below_alloc|apply pw_below_drewN|apply below_drew1|refine below_set ?_ GE240.out)|exact HB.out)⟩
   rw [if_neg c13] at H
   have c13b0:decide (10000 < ((rd_T31 l0 x10_1).f1))=false:=decide_eq_false c13
   clear c13
   by_cases c18:((rd_T31 l0 x10_1).f1)=0
   ·rw [if_pos c18] at H
    have c18b0:(((rd_T31 l0 x10_1).f1) == 0)=true:=beq_iff_eq.mpr c18
    have c18b1:(((rd_T31 l0 x10_1).f1) != 0)=false:=bne_eq_false_iff_eq.mpr c18
    clear c18
    obtain rfl:=Option.some.inj H
    have p239:0≤(x10_1:Int):=zod
    have q239:x10_1 < (l0.length:Int):=zod
    obtain ⟨ad239,A239_0,c239_0,e239,hx239_0,hx239_1,hl239_0,hi239_0⟩:=at_T31 HR0.out x10_1 p239 q239
    cases e239
    replace hx239_0:=(HB.out.cell (World.block_lt_of_cell? w _ hx239_0)).trans hx239_0
    replace hx239_1:=(HB.out.cell (World.block_lt_of_cell? w _ hx239_1)).trans hx239_1
    have HR239_0:=Aside0.mk hi239_0
    have HC239_0:=Aside0.mk hl239_0
    clear hi239_0 hl239_0
    replace p239:=eq_true p239
    replace q239:=eq_true q239
    try go_wp2_with (first|((with_reducible refine gate_dst (N:=4) rfl ?_);refine box_event ?hg (N:=4) ?hd (cs:=#[.slice none 0 0,.int .i64 0]) (t:=31) ?hr ?_;(case hd=>rfl);(case hg=>rfl);(case hr=>first|(go_simp;done)|(go_simp;rfl));intro gb240 hg w19 hbox hb;have n0_:=Aside0.mk (below_step zhb hb);have n1_:=Aside0.mk (hbox);have n2_:=Aside0.mk ((by rw [hg];exact (below_size zhb):w.heap.size≤gb240));have n3_:=Aside0.mk ((by rw [hg];exact (below_size zhb):w.heap.size≤gb240));clear HB;have HB:=n0_;have BK240:=n1_;have GW240:=n2_;have GE240:=n3_;clear n0_ n1_ n2_ n3_;clear hb hbox hg;have hcz20_0:w19.cell? ⟨gb240,0,none⟩=some (.slice none 0 0):=(blk_cell BK240.out 0).trans rfl;have hcz20_1:w19.cell? ⟨gb240,1,none⟩=some (.int .i64 0):=(blk_cell BK240.out 1).trans rfl;have hfz20_0:=blk_frozen BK240.out 0;have hfz20_1:=blk_frozen BK240.out 1))
    have n0_:Aside0 (((w19.setCell ⟨gb240,0,none⟩ (.slice A239_0 ((rd_T31 l0 x10_1).f0).length c239_0)).setCell ⟨gb240,1,none⟩ (.int .i64 ((rd_T31 l0 x10_1).f1))).heap[gb240]?=some (.cells #[.slice A239_0 ((rd_T31 l0 x10_1).f0).length c239_0,.int .i64 ((rd_T31 l0 x10_1).f1)] 31 (0,0))):=⟨by (with_reducible repeat (first|refine blk_drewN ?_ _|refine blk_drew ?_|refine blk_alloc ?_ _));refine blk_put (cs:=#[.slice A239_0 ((rd_T31 l0 x10_1).f0).length c239_0,.int .i64 0]) ?_ 1 _ rfl;(with_reducible repeat (first|refine blk_drewN ?_ _|refine blk_drew ?_|refine blk_alloc ?_ _));refine blk_put (cs:=#[.slice none 0 0,.int .i64 0]) ?_ 0 _ rfl;(with_reducible repeat (first|refine blk_drewN ?_ _|refine blk_drew ?_|refine blk_alloc ?_ _));exact BK240.out⟩
    have n1_:Aside0 (Below w.heap.size w ((w19.setCell ⟨gb240,0,none⟩ (.slice A239_0 ((rd_T31 l0 x10_1).f0).length c239_0)).setCell ⟨gb240,1,none⟩ (.int .i64 ((rd_T31 l0 x10_1).f1)))):=⟨by repeat (first|(with_reducible first|exact HB.out|apply below_alloc|apply pw_below_drewN|apply below_drew1|refine below_set ?_ GE240.out)|exact HB.out)⟩
    (try clear BK240)
    (try clear HB)
    generalize ((w19.setCell ⟨gb240,0,none⟩ (.slice A239_0 ((rd_T31 l0 x10_1).f0).length c239_0)).setCell ⟨gb240,1,none⟩ (.int .i64 ((rd_T31 l0 x10_1).f1)))=w21 at n0_ n1_ ⊢
    have BK240:=n0_
    have HB:=n1_
    clear n0_ n1_
    have n0_:=Aside0.mk (blk_drew BK240.out)
    have n1_:=Aside0.mk (below_drew1 HB.out)
    clear BK240
    clear HB
    have BK240:=n0_
    have HB:=n1_
    clear n0_ n1_
    refine start_ (n:=35) (S:=fun w'=>w'.cell? ⟨gb240,0,none⟩=some (.slice A239_0 ((rd_T31 l0 x10_1).f0).length c239_0)∧w'.cell? ⟨gb240,1,none⟩=some (.int .i64 ((rd_T31 l0 x10_1).f1))) (ds:=[]) (zm 35 0) (by kernel_rfl) rfl rfl ⟨(blk_cell BK240.out 0).trans rfl,(blk_cell BK240.out 1).trans rfl⟩ (fun hHeld=>?_);refine with_tabW impl_ZOk.tab6 impl_ZOk.bits6 (fun HT_ HW_=>?_)
    generalize w21.drew=w22 at BK240 HB hHeld ⊢
    refine zpu 0 15 35 1 ?_
    refine zta 1 16 35 3 ?_
    refine one_ (i:=2) (N:=some 17) (zm 35 7) rfl rfl (one_of HT_.out (by kernel_rfl)) (by decide) (fun K hK=>?_)
    refine goes_ Tryd.func49 (by kernel_rfl) rfl #[.slice A239_0 ((rd_T31 l0 x10_1).f0).length c239_0] (by rfl) rfl rfl zar ?_
    with_reducible refine (impl_RowOk.calls k1 _ _ ((rd_T31 l0 x10_1).f0) true _ ?side1 ?side2 A6.out).mono ?_
    (case side1=>exact zC (Kd.C_below HR239_0.out HB.out))
    (case side2=>exact HC239_0.out)
    rintro e w' ⟨rfl,⟨nd,rfl⟩⟩
    refine ⟨_,rfl,?_⟩
    refine hK.out _ _ ⟨(blk_cell BK240.out 0).trans rfl,(blk_cell BK240.out 1).trans rfl⟩ (fun hHeld=>?_)
    clear hK K
    refine norm_ (a':=?_) ?_ ?_
    rotate_left
    ·show Act.put _ (some 17) _=_
     simp only [Act.put,zp1,zp2,zp3,i64_w,i32_w]
     rfl
    refine zpu 3 18 35 15 ?_
    refine zpu 4 19 35 31 ?_
    refine zpu 5 20 35 63 ?_
    refine zta 6 21 35 127 ?_
    refine zpu 7 22 35 255 ?_
    refine zpu 8 23 35 511 ?_
    refine zpu 9 24 35 1023 ?_
    refine zpu 10 25 35 2047 ?_
    refine zta 11 26 35 4095 ?_
    refine zpu 12 27 35 8191 ?_
    refine zpu 13 28 35 16383 ?_
    refine zpu 14 29 35 32767 ?_
    refine zpu 15 30 35 65535 ?_
    refine zta 16 31 35 131071 ?_
    refine zpu 17 32 35 262143 ?_
    refine zpu 18 33 35 524287 ?_
    refine zpu 19 34 35 1048575 ?_
    refine zqu 20 35 35 2097151 ?_
    refine zqu 21 36 35 4194303 ?_
    refine zqu 22 37 35 8388607 ?_
    refine zqu 23 38 35 16777215 ?_
    refine zqu 24 39 35 33554431 ?_
    refine zqu 25 40 35 67108863 ?_
    refine zqu 26 41 35 134217727 ?_
    refine zqu 27 42 35 268435455 ?_
    refine zqu 28 43 35 536870911 ?_
    refine zqu 29 44 35 1073741823 ?_
    refine zqu 30 45 35 2147483647 ?_
    refine zqu 31 46 35 4294967295 ?_
    refine zqu 32 47 35 8589934591 ?_
    refine zqu 33 48 35 17179869183 ?_
    refine zpu 34 49 35 34359738367 ?_
    refine done_ (done_of HT_.out (by kernel_rfl)) ?_
    try go_wp2
    go_ret
    exact ⟨by first|rfl|(simp [errW_none,errW_some] <;> rfl)|(simp [*,errW_none,errW_some] <;> rfl),by repeat (first|(with_reducible first|exact HB.out|apply below_alloc|apply pw_below_drewN|apply below_drew1|refine below_set ?_ GE240.out)|exact HB.out)⟩
   rw [if_neg c18] at H
   have c18b0:(((rd_T31 l0 x10_1).f1) == 0)=false:=beq_eq_false_iff_ne.mpr c18
   have c18b1:(((rd_T31 l0 x10_1).f1) != 0)=true:=bne_iff_ne.mpr c18
   by_cases c23:x10_1 > 0
   rotate_left
   ·rw [if_neg c23] at H
    have c23b0:decide (0 < x10_1)=false:=decide_eq_false c23
    clear c23
    have H':=Aside0.mk H
    clear H
    have p239:0≤(x10_1:Int):=zod
    have q239:x10_1 < (l0.length:Int):=zod
    obtain ⟨ad239,A239_0,c239_0,e239,hx239_0,hx239_1,hl239_0,hi239_0⟩:=at_T31 HR0.out x10_1 p239 q239
    cases e239
    replace hx239_0:=(HB.out.cell (World.block_lt_of_cell? w _ hx239_0)).trans hx239_0
    replace hx239_1:=(HB.out.cell (World.block_lt_of_cell? w _ hx239_1)).trans hx239_1
    have HR239_0:=Aside0.mk hi239_0
    have HC239_0:=Aside0.mk hl239_0
    clear hi239_0 hl239_0
    replace p239:=eq_true p239
    replace q239:=eq_true q239
    try go_wp2_with (first|((with_reducible refine gate_dst (N:=4) rfl ?_);refine box_event ?hg (N:=4) ?hd (cs:=#[.slice none 0 0,.int .i64 0]) (t:=31) ?hr ?_;(case hd=>rfl);(case hg=>rfl);(case hr=>first|(go_simp;done)|(go_simp;rfl));intro gb240 hg w37 hbox hb;have n0_:=Aside0.mk (below_step zhb hb);have n1_:=Aside0.mk (hbox);have n2_:=Aside0.mk ((by rw [hg];exact (below_size zhb):w.heap.size≤gb240));have n3_:=Aside0.mk ((by rw [hg];exact (below_size zhb):w.heap.size≤gb240));clear HB;have HB:=n0_;have BK240:=n1_;have GW240:=n2_;have GE240:=n3_;clear n0_ n1_ n2_ n3_;clear hb hbox hg;have hcz38_0:w37.cell? ⟨gb240,0,none⟩=some (.slice none 0 0):=(blk_cell BK240.out 0).trans rfl;have hcz38_1:w37.cell? ⟨gb240,1,none⟩=some (.int .i64 0):=(blk_cell BK240.out 1).trans rfl;have hfz38_0:=blk_frozen BK240.out 0;have hfz38_1:=blk_frozen BK240.out 1))
    have n0_:Aside0 (((w37.setCell ⟨gb240,0,none⟩ (.slice A239_0 ((rd_T31 l0 x10_1).f0).length c239_0)).setCell ⟨gb240,1,none⟩ (.int .i64 ((rd_T31 l0 x10_1).f1))).heap[gb240]?=some (.cells #[.slice A239_0 ((rd_T31 l0 x10_1).f0).length c239_0,.int .i64 ((rd_T31 l0 x10_1).f1)] 31 (0,0))):=⟨by (with_reducible repeat (first|refine blk_drewN ?_ _|refine blk_drew ?_|refine blk_alloc ?_ _));refine blk_put (cs:=#[.slice A239_0 ((rd_T31 l0 x10_1).f0).length c239_0,.int .i64 0]) ?_ 1 _ rfl;(with_reducible repeat (first|refine blk_drewN ?_ _|refine blk_drew ?_|refine blk_alloc ?_ _));refine blk_put (cs:=#[.slice none 0 0,.int .i64 0]) ?_ 0 _ rfl;(with_reducible repeat (first|refine blk_drewN ?_ _|refine blk_drew ?_|refine blk_alloc ?_ _));exact BK240.out⟩
    have n1_:Aside0 (Below w.heap.size w ((w37.setCell ⟨gb240,0,none⟩ (.slice A239_0 ((rd_T31 l0 x10_1).f0).length c239_0)).setCell ⟨gb240,1,none⟩ (.int .i64 ((rd_T31 l0 x10_1).f1)))):=⟨by repeat (first|(with_reducible first|exact HB.out|apply below_alloc|apply pw_below_drewN|apply below_drew1|refine below_set ?_ GE240.out)|exact HB.out)⟩
    (try clear BK240)
    (try clear HB)
    generalize ((w37.setCell ⟨gb240,0,none⟩ (.slice A239_0 ((rd_T31 l0 x10_1).f0).length c239_0)).setCell ⟨gb240,1,none⟩ (.int .i64 ((rd_T31 l0 x10_1).f1)))=w39 at n0_ n1_ ⊢
    have BK240:=n0_
    have HB:=n1_
    clear n0_ n1_
    have n0_:=Aside0.mk (blk_drew BK240.out)
    have n1_:=Aside0.mk (below_drew1 HB.out)
    clear BK240
    clear HB
    have BK240:=n0_
    have HB:=n1_
    clear n0_ n1_
    refine start_ (n:=35) (S:=fun w'=>w'.cell? ⟨gb240,0,none⟩=some (.slice A239_0 ((rd_T31 l0 x10_1).f0).length c239_0)∧w'.cell? ⟨gb240,1,none⟩=some (.int .i64 ((rd_T31 l0 x10_1).f1))) (ds:=[]) (zm 35 0) (by kernel_rfl) rfl rfl ⟨(blk_cell BK240.out 0).trans rfl,(blk_cell BK240.out 1).trans rfl⟩ (fun hHeld=>?_);refine with_tabW impl_ZOk.tab6 impl_ZOk.bits6 (fun HT_ HW_=>?_)
    generalize w39.drew=w40 at BK240 HB hHeld ⊢
    refine zpu 0 15 35 1 ?_
    refine zta 1 16 35 3 ?_
    refine one_ (i:=2) (N:=some 17) (zm 35 7) rfl rfl (one_of HT_.out (by kernel_rfl)) (by decide) (fun K hK=>?_)
    refine goes_ Tryd.func49 (by kernel_rfl) rfl #[.slice A239_0 ((rd_T31 l0 x10_1).f0).length c239_0] (by rfl) rfl rfl zar ?_
    with_reducible refine (impl_RowOk.calls k1 _ _ ((rd_T31 l0 x10_1).f0) true _ ?side1 ?side2 A6.out).mono ?_
    (case side1=>exact zC (Kd.C_below HR239_0.out HB.out))
    (case side2=>exact HC239_0.out)
    rintro e w' ⟨rfl,⟨nd,rfl⟩⟩
    refine ⟨_,rfl,?_⟩
    refine hK.out _ _ ⟨(blk_cell BK240.out 0).trans rfl,(blk_cell BK240.out 1).trans rfl⟩ (fun hHeld=>?_)
    clear hK K
    refine norm_ (a':=?_) ?_ ?_
    rotate_left
    ·show Act.put _ (some 17) _=_
     simp only [Act.put,zp1,zp2,zp3,i64_w,i32_w]
     rfl
    refine zpu 3 18 35 15 ?_
    refine zpu 4 19 35 31 ?_
    refine zpu 5 20 35 63 ?_
    refine zta 6 21 35 127 ?_
    refine zpu 7 22 35 255 ?_
    refine zpu 8 23 35 511 ?_
    refine zpu 9 24 35 1023 ?_
    refine zpu 10 25 35 2047 ?_
    refine zta 11 26 35 4095 ?_
    refine zpu 12 27 35 8191 ?_
    refine zpu 13 28 35 16383 ?_
    refine zpu 14 29 35 32767 ?_
    refine zpu 15 30 35 65535 ?_
    refine zta 16 31 35 131071 ?_
    refine zpu 17 32 35 262143 ?_
    refine zpu 18 33 35 524287 ?_
    refine zpu 19 34 35 1048575 ?_
    refine zpu 20 35 35 2097151 ?_
    refine zpu 21 36 35 4194303 ?_
    refine zpu 22 37 35 8388607 ?_
    refine zqu 23 38 35 16777215 ?_
    refine zqu 24 39 35 33554431 ?_
    refine zqu 25 40 35 67108863 ?_
    refine zqu 26 41 35 134217727 ?_
    refine zqu 27 42 35 268435455 ?_
    refine zqu 28 43 35 536870911 ?_
    refine zqu 29 44 35 1073741823 ?_
    refine zqu 30 45 35 2147483647 ?_
    refine zqu 31 46 35 4294967295 ?_
    refine zqu 32 47 35 8589934591 ?_
    refine zpu 33 48 35 17179869183 ?_
    refine zpu 34 49 35 34359738367 ?_
    refine done_ (done_of HT_.out (by kernel_rfl)) ?_
    try go_wp2
    go_roundg k1
    case measure=>have:=HK1.out;omega
    case rel=>exact ⟨(wrap64 (x10_1 + 1)),(by first|rfl|(simp;done)|(simp [*];done)),H',⟨by have:=HK1.out;omega⟩,⟨by repeat (first|(with_reducible first|exact HB.out|apply below_alloc|apply pw_below_drewN|apply below_drew1|refine below_set ?_ GE240.out)|exact HB.out)⟩⟩
   rw [if_pos c23] at H
   have c23b0:decide (0 < x10_1)=true:=decide_eq_true c23
   clear c23
   obtain ⟨ji24,hji24⟩ : ∃ j_:Int,(wrap64 (x10_1 - 1))=j_:=⟨_,rfl⟩
   replace H:(if 0≤(ji24) then (if (ji24) < (l0.length:Int) then ((impl_RowLess.f k1 ((rd_T31 l0 (ji24)).f0) ((rd_T31 l0 x10_1).f0)).bind fun t243=>(if t243=true then (impl_ZOk.l0 k1 l0 l0 (l0.length:Int) (wrap64 (x10_1 + 1))) else (some false))) else (none)) else (none))=some r:=by first|(rw [hji24] at H;exact H)|(simp only [hji24] at H ⊢;exact H)
   (try rw [hji24] at A6)
   have hji24w:(IntKind.i64.wrap (x10_1 - 1))=ji24:=(i64_w _).trans hji24
   by_cases c25:0≤(ji24)
   rotate_left
   ·rw [if_neg c25] at H
    exact absurd H (by simp)
   rw [if_pos c25] at H
   have c25b0:decide (0≤(ji24))=true:=decide_eq_true c25
   clear c25
   by_cases c26:(ji24) < (l0.length:Int)
   rotate_left
   ·rw [if_neg c26] at H
    exact absurd H (by simp)
   rw [if_pos c26] at H
   have c26b0:decide ((ji24) < (l0.length:Int))=true:=decide_eq_true c26
   clear c26
   replace H:=Option.bind_eq_some_iff.mp H
   obtain ⟨t243,A270,H⟩:=H
   (try dsimp only at H)
   have A27:=Aside0.mk A270
   clear A270
   by_cases c28:t243=true
   ·subst c28
    have H1:(impl_ZOk.l0 k1 l0 l0 (l0.length:Int) (wrap64 (x10_1 + 1)))=some r:=by rw [if_pos rfl] at H;exact H
    clear H
    have H:=H1
    clear H1
    have H':=Aside0.mk H
    clear H
    have p239:0≤(x10_1:Int):=zod
    have q239:x10_1 < (l0.length:Int):=zod
    obtain ⟨ad239,A239_0,c239_0,e239,hx239_0,hx239_1,hl239_0,hi239_0⟩:=at_T31 HR0.out x10_1 p239 q239
    cases e239
    replace hx239_0:=(HB.out.cell (World.block_lt_of_cell? w _ hx239_0)).trans hx239_0
    replace hx239_1:=(HB.out.cell (World.block_lt_of_cell? w _ hx239_1)).trans hx239_1
    have HR239_0:=Aside0.mk hi239_0
    have HC239_0:=Aside0.mk hl239_0
    clear hi239_0 hl239_0
    replace p239:=eq_true p239
    replace q239:=eq_true q239
    try go_wp2_with (first|((with_reducible refine gate_dst (N:=4) rfl ?_);refine box_event ?hg (N:=4) ?hd (cs:=#[.slice none 0 0,.int .i64 0]) (t:=31) ?hr ?_;(case hd=>rfl);(case hg=>rfl);(case hr=>first|(go_simp;done)|(go_simp;rfl));intro gb240 hg w29 hbox hb;have n0_:=Aside0.mk (below_step zhb hb);have n1_:=Aside0.mk (hbox);have n2_:=Aside0.mk ((by rw [hg];exact (below_size zhb):w.heap.size≤gb240));have n3_:=Aside0.mk ((by rw [hg];exact (below_size zhb):w.heap.size≤gb240));clear HB;have HB:=n0_;have BK240:=n1_;have GW240:=n2_;have GE240:=n3_;clear n0_ n1_ n2_ n3_;clear hb hbox hg;have hcz30_0:w29.cell? ⟨gb240,0,none⟩=some (.slice none 0 0):=(blk_cell BK240.out 0).trans rfl;have hcz30_1:w29.cell? ⟨gb240,1,none⟩=some (.int .i64 0):=(blk_cell BK240.out 1).trans rfl;have hfz30_0:=blk_frozen BK240.out 0;have hfz30_1:=blk_frozen BK240.out 1))
    have n0_:Aside0 (((w29.setCell ⟨gb240,0,none⟩ (.slice A239_0 ((rd_T31 l0 x10_1).f0).length c239_0)).setCell ⟨gb240,1,none⟩ (.int .i64 ((rd_T31 l0 x10_1).f1))).heap[gb240]?=some (.cells #[.slice A239_0 ((rd_T31 l0 x10_1).f0).length c239_0,.int .i64 ((rd_T31 l0 x10_1).f1)] 31 (0,0))):=⟨by (with_reducible repeat (first|refine blk_drewN ?_ _|refine blk_drew ?_|refine blk_alloc ?_ _));refine blk_put (cs:=#[.slice A239_0 ((rd_T31 l0 x10_1).f0).length c239_0,.int .i64 0]) ?_ 1 _ rfl;(with_reducible repeat (first|refine blk_drewN ?_ _|refine blk_drew ?_|refine blk_alloc ?_ _));refine blk_put (cs:=#[.slice none 0 0,.int .i64 0]) ?_ 0 _ rfl;(with_reducible repeat (first|refine blk_drewN ?_ _|refine blk_drew ?_|refine blk_alloc ?_ _));exact BK240.out⟩
    have n1_:Aside0 (Below w.heap.size w ((w29.setCell ⟨gb240,0,none⟩ (.slice A239_0 ((rd_T31 l0 x10_1).f0).length c239_0)).setCell ⟨gb240,1,none⟩ (.int .i64 ((rd_T31 l0 x10_1).f1)))):=⟨by repeat (first|(with_reducible first|exact HB.out|apply below_alloc|apply pw_below_drewN|apply below_drew1|refine below_set ?_ GE240.out)|exact HB.out)⟩
    (try clear BK240)
    (try clear HB)
    generalize ((w29.setCell ⟨gb240,0,none⟩ (.slice A239_0 ((rd_T31 l0 x10_1).f0).length c239_0)).setCell ⟨gb240,1,none⟩ (.int .i64 ((rd_T31 l0 x10_1).f1)))=w31 at n0_ n1_ ⊢
    have BK240:=n0_
    have HB:=n1_
    clear n0_ n1_
    have n0_:=Aside0.mk (blk_drew BK240.out)
    have n1_:=Aside0.mk (below_drew1 HB.out)
    clear BK240
    clear HB
    have BK240:=n0_
    have HB:=n1_
    clear n0_ n1_
    have p242:0≤((ji24):Int):=zod
    have q242:(ji24) < (l0.length:Int):=zod
    obtain ⟨ad242,A242_0,c242_0,e242,hx242_0,hx242_1,hl242_0,hi242_0⟩:=at_T31 HR0.out (ji24) p242 q242
    have hw242_1:=hx242_1
    have hw242_0:=hx242_0
    obtain rfl:ad239=ad242:=(by injection e242)
    replace hx242_0:=(HB.out.cell (World.block_lt_of_cell? w _ hx242_0)).trans hx242_0
    replace hx242_1:=(HB.out.cell (World.block_lt_of_cell? w _ hx242_1)).trans hx242_1
    have HR242_0:=Aside0.mk hi242_0
    have HC242_0:=Aside0.mk hl242_0
    clear hi242_0 hl242_0
    replace p242:=eq_true p242
    replace q242:=eq_true q242
    refine start_ (n:=35) (S:=fun w'=>w'.cell? ⟨gb240,0,none⟩=some (.slice A239_0 ((rd_T31 l0 x10_1).f0).length c239_0)∧w'.cell? ⟨gb240,1,none⟩=some (.int .i64 ((rd_T31 l0 x10_1).f1))∧w'.cell? (ad239.add (((ji24)).toNat * 2))=some (.slice A242_0 ((rd_T31 l0 (ji24)).f0).length c242_0)∧w'.cell? ⟨(ad239.add (((ji24)).toNat * 2)).block,(ad239.add (((ji24)).toNat * 2)).off + 1,none⟩=some (.int .i64 ((rd_T31 l0 (ji24)).f1))) (ds:=[]) (zm 35 0) (by kernel_rfl) rfl rfl ⟨(blk_cell BK240.out 0).trans rfl,(blk_cell BK240.out 1).trans rfl,((HB.out.cell (World.block_lt_of_cell? w _ hw242_0)).trans hw242_0),((HB.out.cell (World.block_lt_of_cell? w _ hw242_1)).trans hw242_1)⟩ (fun hHeld=>?_);refine with_tabW impl_ZOk.tab6 impl_ZOk.bits6 (fun HT_ HW_=>?_)
    generalize w31.drew=w32 at BK240 HB HR242_0 hx242_0 hx242_1 hHeld ⊢
    refine zpu 0 15 35 1 ?_
    refine zta 1 16 35 3 ?_
    refine one_ (i:=2) (N:=some 17) (zm 35 7) rfl rfl (one_of HT_.out (by kernel_rfl)) (by decide) (fun K hK=>?_)
    refine goes_ Tryd.func49 (by kernel_rfl) rfl #[.slice A239_0 ((rd_T31 l0 x10_1).f0).length c239_0] (by rfl) rfl rfl zar ?_
    with_reducible refine (impl_RowOk.calls k1 _ _ ((rd_T31 l0 x10_1).f0) true _ ?side1 ?side2 A6.out).mono ?_
    (case side1=>exact zC (Kd.C_below HR239_0.out HB.out))
    (case side2=>exact HC239_0.out)
    rintro e w' ⟨rfl,⟨nd,rfl⟩⟩
    refine ⟨_,rfl,?_⟩
    refine hK.out _ _ ⟨(blk_cell BK240.out 0).trans rfl,(blk_cell BK240.out 1).trans rfl,((HB.out.cell (World.block_lt_of_cell? w _ hw242_0)).trans hw242_0),((HB.out.cell (World.block_lt_of_cell? w _ hw242_1)).trans hw242_1)⟩ (fun hHeld=>?_)
    clear hK K
    refine norm_ (a':=?_) ?_ ?_
    rotate_left
    ·show Act.put _ (some 17) _=_
     simp only [Act.put,zp1,zp2,zp3,i64_w,i32_w]
     rfl
    refine zpu 3 18 35 15 ?_
    refine zpu 4 19 35 31 ?_
    refine zpu 5 20 35 63 ?_
    refine zta 6 21 35 127 ?_
    refine zpu 7 22 35 255 ?_
    refine zpu 8 23 35 511 ?_
    refine zpu 9 24 35 1023 ?_
    refine zpu 10 25 35 2047 ?_
    refine zta 11 26 35 4095 ?_
    refine zpu 12 27 35 8191 ?_
    refine zpu 13 28 35 16383 ?_
    refine zpu 14 29 35 32767 ?_
    refine zpu 15 30 35 65535 ?_
    refine zta 16 31 35 131071 ?_
    refine zpu 17 32 35 262143 ?_
    refine zpu 18 33 35 524287 ?_
    refine zpu 19 34 35 1048575 ?_
    refine zpu 20 35 35 2097151 ?_
    refine zpu 21 36 35 4194303 ?_
    refine zpu 22 37 35 8388607 ?_
    refine zpu 23 38 35 16777215 ?_
    refine zpu 24 39 35 33554431 ?_
    refine zpu 25 40 35 67108863 ?_
    refine zpu 26 41 35 134217727 ?_
    refine zpu 27 42 35 268435455 ?_
    refine zpu 29 44 35 805306367 ?_
    refine zta 28 43 35 1073741823 ?_
    refine zta 30 45 35 2147483647 ?_
    refine one_ (i:=31) (N:=some 46) (zm 35 4294967295) rfl rfl (one_of HT_.out (by kernel_rfl)) (by decide) (fun K hK=>?_)
    refine goes_ Tryd.func50 (by kernel_rfl) rfl #[.slice A242_0 ((rd_T31 l0 (ji24)).f0).length c242_0,.slice A239_0 ((rd_T31 l0 x10_1).f0).length c239_0] (by rfl) rfl rfl (by (try simp only [List.map_toArray,List.map_cons,List.map_nil]);first|done|(simp only [hji24];rfl)|rfl|(simp only [List.length_drop,List.length_take];rfl)) ?_
    with_reducible refine (impl_RowLess.calls k1 _ _ ((rd_T31 l0 (ji24)).f0) _ _ ((rd_T31 l0 x10_1).f0) true _ ?side1 ?side2 ?side3 ?side4 A27.out).mono ?_
    (case side1=>repeat (first|exact (Kd.C_below HR242_0.out (by repeat (first|(with_reducible first|exact HB.out|apply below_alloc|apply pw_below_drewN|apply below_drew1|refine below_set ?_ GE240.out)|exact HB.out)))|(with_reducible refine Kd.C_alloc ?_ _)|(with_reducible refine Kd.C_drewN ?_ _)|(with_reducible refine Kd.C_drew ?_)))
    (case side2=>exact HC242_0.out)
    (case side3=>repeat (first|exact (Kd.C_below HR239_0.out (by repeat (first|(with_reducible first|exact HB.out|apply below_alloc|apply pw_below_drewN|apply below_drew1|refine below_set ?_ GE240.out)|exact HB.out)))|(with_reducible refine Kd.C_alloc ?_ _)|(with_reducible refine Kd.C_drewN ?_ _)|(with_reducible refine Kd.C_drew ?_)))
    (case side4=>exact HC239_0.out)
    rintro e w' ⟨rfl,⟨nd,rfl⟩⟩
    refine ⟨_,rfl,?_⟩
    refine hK.out _ _ ⟨(blk_cell BK240.out 0).trans rfl,(blk_cell BK240.out 1).trans rfl,((HB.out.cell (World.block_lt_of_cell? w _ hw242_0)).trans hw242_0),((HB.out.cell (World.block_lt_of_cell? w _ hw242_1)).trans hw242_1)⟩ (fun hHeld=>?_)
    clear hK K
    refine norm_ (a':=?_) ?_ ?_
    rotate_left
    ·show Act.put _ (some 46) _=_
     simp only [Act.put,zp1,zp2,zp3,i64_w,i32_w]
     rfl
    refine zpu 32 47 35 8589934591 ?_
    refine zpu 33 48 35 17179869183 ?_
    refine zpu 34 49 35 34359738367 ?_
    refine done_ (done_of HT_.out (by kernel_rfl)) ?_
    try go_wp2
    go_roundg k1
    case measure=>have:=HK1.out;omega
    case rel=>exact ⟨(wrap64 (x10_1 + 1)),(by first|rfl|(simp;done)|(simp [*];done)),H',⟨by have:=HK1.out;omega⟩,⟨by repeat (first|(with_reducible first|exact HB.out|apply below_alloc|apply pw_below_drewN|apply below_drew1|refine below_set ?_ GE240.out)|exact HB.out)⟩⟩
   replace c28:=Bool.eq_false_iff.mpr c28
   subst c28
   have H1:(some false)=some r:=by rw [if_neg (show ¬ (false=true) by decide)] at H;exact H
   clear H
   have H:=H1
   clear H1
   obtain rfl:=Option.some.inj H
   have p239:0≤(x10_1:Int):=zod
   have q239:x10_1 < (l0.length:Int):=zod
   obtain ⟨ad239,A239_0,c239_0,e239,hx239_0,hx239_1,hl239_0,hi239_0⟩:=at_T31 HR0.out x10_1 p239 q239
   cases e239
   replace hx239_0:=(HB.out.cell (World.block_lt_of_cell? w _ hx239_0)).trans hx239_0
   replace hx239_1:=(HB.out.cell (World.block_lt_of_cell? w _ hx239_1)).trans hx239_1
   have HR239_0:=Aside0.mk hi239_0
   have HC239_0:=Aside0.mk hl239_0
   clear hi239_0 hl239_0
   replace p239:=eq_true p239
   replace q239:=eq_true q239
   try go_wp2_with (first|((with_reducible refine gate_dst (N:=4) rfl ?_);refine box_event ?hg (N:=4) ?hd (cs:=#[.slice none 0 0,.int .i64 0]) (t:=31) ?hr ?_;(case hd=>rfl);(case hg=>rfl);(case hr=>first|(go_simp;done)|(go_simp;rfl));intro gb240 hg w33 hbox hb;have n0_:=Aside0.mk (below_step zhb hb);have n1_:=Aside0.mk (hbox);have n2_:=Aside0.mk ((by rw [hg];exact (below_size zhb):w.heap.size≤gb240));have n3_:=Aside0.mk ((by rw [hg];exact (below_size zhb):w.heap.size≤gb240));clear HB;have HB:=n0_;have BK240:=n1_;have GW240:=n2_;have GE240:=n3_;clear n0_ n1_ n2_ n3_;clear hb hbox hg;have hcz34_0:w33.cell? ⟨gb240,0,none⟩=some (.slice none 0 0):=(blk_cell BK240.out 0).trans rfl;have hcz34_1:w33.cell? ⟨gb240,1,none⟩=some (.int .i64 0):=(blk_cell BK240.out 1).trans rfl;have hfz34_0:=blk_frozen BK240.out 0;have hfz34_1:=blk_frozen BK240.out 1))
   have n0_:Aside0 (((w33.setCell ⟨gb240,0,none⟩ (.slice A239_0 ((rd_T31 l0 x10_1).f0).length c239_0)).setCell ⟨gb240,1,none⟩ (.int .i64 ((rd_T31 l0 x10_1).f1))).heap[gb240]?=some (.cells #[.slice A239_0 ((rd_T31 l0 x10_1).f0).length c239_0,.int .i64 ((rd_T31 l0 x10_1).f1)] 31 (0,0))):=⟨by (with_reducible repeat (first|refine blk_drewN ?_ _|refine blk_drew ?_|refine blk_alloc ?_ _));refine blk_put (cs:=#[.slice A239_0 ((rd_T31 l0 x10_1).f0).length c239_0,.int .i64 0]) ?_ 1 _ rfl;(with_reducible repeat (first|refine blk_drewN ?_ _|refine blk_drew ?_|refine blk_alloc ?_ _));refine blk_put (cs:=#[.slice none 0 0,.int .i64 0]) ?_ 0 _ rfl;(with_reducible repeat (first|refine blk_drewN ?_ _|refine blk_drew ?_|refine blk_alloc ?_ _));exact BK240.out⟩
   have n1_:Aside0 (Below w.heap.size w ((w33.setCell ⟨gb240,0,none⟩ (.slice A239_0 ((rd_T31 l0 x10_1).f0).length c239_0)).setCell ⟨gb240,1,none⟩ (.int .i64 ((rd_T31 l0 x10_1).f1)))):=⟨by repeat (first|(with_reducible first|exact HB.out|apply below_alloc|apply pw_below_drewN|apply below_drew1|refine below_set ?_ GE240.out)|exact HB.out)⟩
   (try clear BK240)
   (try clear HB)
   generalize ((w33.setCell ⟨gb240,0,none⟩ (.slice A239_0 ((rd_T31 l0 x10_1).f0).length c239_0)).setCell ⟨gb240,1,none⟩ (.int .i64 ((rd_T31 l0 x10_1).f1)))=w35 at n0_ n1_ ⊢
   have BK240:=n0_
   have HB:=n1_
   clear n0_ n1_
   have n0_:=Aside0.mk (blk_drew BK240.out)
   have n1_:=Aside0.mk (below_drew1 HB.out)
   clear BK240
   clear HB
   have BK240:=n0_
   have HB:=n1_
   clear n0_ n1_
   have p242:0≤((ji24):Int):=zod
   have q242:(ji24) < (l0.length:Int):=zod
   obtain ⟨ad242,A242_0,c242_0,e242,hx242_0,hx242_1,hl242_0,hi242_0⟩:=at_T31 HR0.out (ji24) p242 q242
   have hw242_1:=hx242_1
   have hw242_0:=hx242_0
   obtain rfl:ad239=ad242:=(by injection e242)
   replace hx242_0:=(HB.out.cell (World.block_lt_of_cell? w _ hx242_0)).trans hx242_0
   replace hx242_1:=(HB.out.cell (World.block_lt_of_cell? w _ hx242_1)).trans hx242_1
   have HR242_0:=Aside0.mk hi242_0
   have HC242_0:=Aside0.mk hl242_0
   clear hi242_0 hl242_0
   replace p242:=eq_true p242
   replace q242:=eq_true q242
   refine start_ (n:=35) (S:=fun w'=>w'.cell? ⟨gb240,0,none⟩=some (.slice A239_0 ((rd_T31 l0 x10_1).f0).length c239_0)∧w'.cell? ⟨gb240,1,none⟩=some (.int .i64 ((rd_T31 l0 x10_1).f1))∧w'.cell? (ad239.add (((ji24)).toNat * 2))=some (.slice A242_0 ((rd_T31 l0 (ji24)).f0).length c242_0)∧w'.cell? ⟨(ad239.add (((ji24)).toNat * 2)).block,(ad239.add (((ji24)).toNat * 2)).off + 1,none⟩=some (.int .i64 ((rd_T31 l0 (ji24)).f1))) (ds:=[]) (zm 35 0) (by kernel_rfl) rfl rfl ⟨(blk_cell BK240.out 0).trans rfl,(blk_cell BK240.out 1).trans rfl,((HB.out.cell (World.block_lt_of_cell? w _ hw242_0)).trans hw242_0),((HB.out.cell (World.block_lt_of_cell? w _ hw242_1)).trans hw242_1)⟩ (fun hHeld=>?_);refine with_tabW impl_ZOk.tab6 impl_ZOk.bits6 (fun HT_ HW_=>?_)
   generalize w35.drew=w36 at BK240 HB HR242_0 hx242_0 hx242_1 hHeld ⊢
   refine zpu 0 15 35 1 ?_
   refine zta 1 16 35 3 ?_
   refine one_ (i:=2) (N:=some 17) (zm 35 7) rfl rfl (one_of HT_.out (by kernel_rfl)) (by decide) (fun K hK=>?_)
   refine goes_ Tryd.func49 (by kernel_rfl) rfl #[.slice A239_0 ((rd_T31 l0 x10_1).f0).length c239_0] (by rfl) rfl rfl zar ?_
   with_reducible refine (impl_RowOk.calls k1 _ _ ((rd_T31 l0 x10_1).f0) true _ ?side1 ?side2 A6.out).mono ?_
   (case side1=>exact zC (Kd.C_below HR239_0.out HB.out))
   (case side2=>exact HC239_0.out)
   rintro e w' ⟨rfl,⟨nd,rfl⟩⟩
   refine ⟨_,rfl,?_⟩
   refine hK.out _ _ ⟨(blk_cell BK240.out 0).trans rfl,(blk_cell BK240.out 1).trans rfl,((HB.out.cell (World.block_lt_of_cell? w _ hw242_0)).trans hw242_0),((HB.out.cell (World.block_lt_of_cell? w _ hw242_1)).trans hw242_1)⟩ (fun hHeld=>?_)
   clear hK K
   refine norm_ (a':=?_) ?_ ?_
   rotate_left
   ·show Act.put _ (some 17) _=_
    simp only [Act.put,zp1,zp2,zp3,i64_w,i32_w]
    rfl
   refine zpu 3 18 35 15 ?_
   refine zpu 4 19 35 31 ?_
   refine zpu 5 20 35 63 ?_
   refine zta 6 21 35 127 ?_
   refine zpu 7 22 35 255 ?_
   refine zpu 8 23 35 511 ?_
   refine zpu 9 24 35 1023 ?_
   refine zpu 10 25 35 2047 ?_
   refine zta 11 26 35 4095 ?_
   refine zpu 12 27 35 8191 ?_
   refine zpu 13 28 35 16383 ?_
   refine zpu 14 29 35 32767 ?_
   refine zpu 15 30 35 65535 ?_
   refine zta 16 31 35 131071 ?_
   refine zpu 17 32 35 262143 ?_
   refine zpu 18 33 35 524287 ?_
   refine zpu 19 34 35 1048575 ?_
   refine zpu 20 35 35 2097151 ?_
   refine zpu 21 36 35 4194303 ?_
   refine zpu 22 37 35 8388607 ?_
   refine zpu 23 38 35 16777215 ?_
   refine zpu 24 39 35 33554431 ?_
   refine zpu 25 40 35 67108863 ?_
   refine zpu 26 41 35 134217727 ?_
   refine zpu 27 42 35 268435455 ?_
   refine zpu 29 44 35 805306367 ?_
   refine zta 28 43 35 1073741823 ?_
   refine zta 30 45 35 2147483647 ?_
   refine one_ (i:=31) (N:=some 46) (zm 35 4294967295) rfl rfl (one_of HT_.out (by kernel_rfl)) (by decide) (fun K hK=>?_)
   refine goes_ Tryd.func50 (by kernel_rfl) rfl #[.slice A242_0 ((rd_T31 l0 (ji24)).f0).length c242_0,.slice A239_0 ((rd_T31 l0 x10_1).f0).length c239_0] (by rfl) rfl rfl (by (try simp only [List.map_toArray,List.map_cons,List.map_nil]);first|done|(simp only [hji24];rfl)|rfl|(simp only [List.length_drop,List.length_take];rfl)) ?_
   with_reducible refine (impl_RowLess.calls k1 _ _ ((rd_T31 l0 (ji24)).f0) _ _ ((rd_T31 l0 x10_1).f0) false _ ?side1 ?side2 ?side3 ?side4 A27.out).mono ?_
   (case side1=>repeat (first|exact (Kd.C_below HR242_0.out (by repeat (first|(with_reducible first|exact HB.out|apply below_alloc|apply pw_below_drewN|apply below_drew1|refine below_set ?_ GE240.out)|exact HB.out)))|(with_reducible refine Kd.C_alloc ?_ _)|(with_reducible refine Kd.C_drewN ?_ _)|(with_reducible refine Kd.C_drew ?_)))
   (case side2=>exact HC242_0.out)
   (case side3=>repeat (first|exact (Kd.C_below HR239_0.out (by repeat (first|(with_reducible first|exact HB.out|apply below_alloc|apply pw_below_drewN|apply below_drew1|refine below_set ?_ GE240.out)|exact HB.out)))|(with_reducible refine Kd.C_alloc ?_ _)|(with_reducible refine Kd.C_drewN ?_ _)|(with_reducible refine Kd.C_drew ?_)))
   (case side4=>exact HC239_0.out)
   rintro e w' ⟨rfl,⟨nd,rfl⟩⟩
   refine ⟨_,rfl,?_⟩
   refine hK.out _ _ ⟨(blk_cell BK240.out 0).trans rfl,(blk_cell BK240.out 1).trans rfl,((HB.out.cell (World.block_lt_of_cell? w _ hw242_0)).trans hw242_0),((HB.out.cell (World.block_lt_of_cell? w _ hw242_1)).trans hw242_1)⟩ (fun hHeld=>?_)
   clear hK K
   refine norm_ (a':=?_) ?_ ?_
   rotate_left
   ·show Act.put _ (some 46) _=_
    simp only [Act.put,zp1,zp2,zp3,i64_w,i32_w]
    rfl
   refine zpu 32 47 35 8589934591 ?_
   refine zpu 33 48 35 17179869183 ?_
   refine zpu 34 49 35 34359738367 ?_
   refine done_ (done_of HT_.out (by kernel_rfl)) ?_
   try go_wp2
   go_ret
   exact ⟨by first|rfl|(simp [errW_none,errW_some] <;> rfl)|(simp only [← hji24];first|rfl|(simp [errW_none,errW_some] <;> rfl))|(simp [*,errW_none,errW_some] <;> rfl),by repeat (first|(with_reducible first|exact HB.out|apply below_alloc|apply pw_below_drewN|apply below_drew1|refine below_set ?_ GE240.out)|exact HB.out)⟩
end Go.Proofs.YtlknceioincaeaaDoor.PFnJoin
