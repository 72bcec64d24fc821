-- Written by wip/tools/pp.py, a program of this session over the kit's printer: not the kit's own print
import Derived.Test.YtlknceioincaeaaDoorPFnJoinx0
import Derived.Test.YtlknceioincaeaaDoorPFnJoinx1
import Derived.Test.YtlknceioincaeaaDoorPFnJoinx8
namespace Go.Proofs.YtlknceioincaeaaDoor.PFnJoin
open Go.RowKit Go.Proofs.YtlknceioincaeaaDoorW.PrintWords Go.Proofs.YtlknceioincaeaaDoorW.PrintLast Go.Proofs.YtlknceioincaeaaDoorW.PrintMore
attribute [local go_sem] max2_int min2_int max_two min_two max_three min_three max_four min_four   -- for this text's walks alone
set_option linter.unusedVariables false
set_option linter.unusedSimpArgs false

/-! ### spec_ZOk: function 28 -/
def spec_ZOk.l0:Nat→List (S31)→Int→Option (Bool)
 | 0,_,_=>none
 | k + 1,x0,x3=>if x3 < (x0.length:Int) then (if 0≤x3 then ((spec_RowOk.f k ((rd_T31 x0 x3).f0)).bind fun t259=>(if t259=true then ((spec_l2W.f ((rd_T31 x0 x3).f1)).bind fun t261=>(if t261=true then (if x3 > 0 then (if 0≤(wrap64 (x3 - 1)) then (if (wrap64 (x3 - 1)) < (x0.length:Int) then ((spec_RowLess.f k ((rd_T31 x0 (wrap64 (x3 - 1))).f0) ((rd_T31 x0 x3).f0)).bind fun t264=>(if t264=true then (spec_ZOk.l0 k x0 (wrap64 (x3 + 1))) else (some false))) else (none)) else (none)) else (spec_ZOk.l0 k x0 (wrap64 (x3 + 1)))) else (some false))) else (some false))) else (none)) else (some true)
def spec_ZOk.f (k:Nat) (l0:List (S31)):Option (Bool):=if (l0.length:Int) > 100 then (some false) else (spec_ZOk.l0 k l0 0)
theorem spec_ZOk.mono_l : ∀ k,(∀ y0 y1,LeO (spec_ZOk.l0 k y0 y1) (spec_ZOk.l0 (k + 1) y0 y1))
 | 0=>fun _ _ r h=>by simp [spec_ZOk.l0] at h
 | k + 1=>by
  have ih0:=spec_ZOk.mono_l k
  ·intro y0 y1
   unfold spec_ZOk.l0
   repeat' first
   | (with_reducible exact ih0 _ _)
   | (with_reducible exact spec_RowLess.mono _ _ _)
   | (with_reducible exact spec_RowOk.mono _ _)
   | (with_reducible exact LeO.refl _)
   | (with_reducible exact LeO.none _)
   | (with_reducible refine LeO.ite ?_ ?_)
   | (with_reducible refine LeO.bind ?_ (fun _=>?_))
   | exact LeO.none _
   | refine LeO.ite ?_ ?_
   | refine LeO.bind ?_ (fun _=>?_)
theorem spec_ZOk.mono : ∀ a0 k,LeO (spec_ZOk.f k a0) (spec_ZOk.f (k + 1) a0):=by
 intro a0 k
 have ih0:=spec_ZOk.mono_l k
 unfold spec_ZOk.f
 repeat' first
   | (with_reducible exact ih0 _ _)
   | (with_reducible exact spec_RowLess.mono _ _ _)
   | (with_reducible exact spec_RowOk.mono _ _)
   | (with_reducible exact LeO.refl _)
   | (with_reducible exact LeO.none _)
   | (with_reducible refine LeO.ite ?_ ?_)
   | (with_reducible refine LeO.bind ?_ (fun _=>?_))
   | exact LeO.none _
   | refine LeO.ite ?_ ?_
   | refine LeO.bind ?_ (fun _=>?_)
def spec_ZOk.T6:Bool × List (List Nat × List Nat):=(true,[([],[]),([],[]),([0,1],[0,1]),([2],[2]),([3],[3]),([4],[4]),([5],[5]),([6,5],[6]),([7],[7]),([7],[7]),([8,9,7],[7,8,9]),([10,7],[7,10]),([11,7],[7,11]),([12,7,7],[7,12]),([13,7],[7,13]),([7,14],[7,14]),([15,13],[15]),([16],[16]),([17,16],[16,17]),([18,16,16],[16,18]),([19],[19]),([19],[19]),([21,19],[19,21]),([20,22,19],[19,20,22]),([23,19],[19,23]),([24,19],[19,24]),([19],[19]),([19],[19]),([26,27,19],[19,26,27]),([28,19],[19,28]),([29,19],[19,29]),([25,30,19,19],[19,25,30]),([31,19],[19,31]),([19,32,16],[16,19,32]),([16,33],[16,33])])
def spec_ZOk.B6:List Nat:=[0,0,3,7,15,31,63,127,255,255,1023,2047,4095,8191,16383,32767,65535,131071,262143,524287,1048575,1048575,3145727,8388607,16777215,33554431,1048575,1048575,202375167,470810623,1007681535,2147483647,4294967295,8589934591,17179869183]
theorem spec_ZOk.tab6:rtab .any (opsOf Tryd.f28 6)=spec_ZOk.T6:=by kernel_rfl
theorem spec_ZOk.bits6:waitsOk spec_ZOk.T6.2 spec_ZOk.B6=true:=by kernel_rfl
set_option maxHeartbeats 8000000 in
set_option maxRecDepth 100000 in
theorem spec_ZOk.calls (k:Nat) (A0:Option Addr) (c0:Nat) (l0:List (S31)) (r:Bool) (w:World) (hr0:Kd.C k31 w A0 l0.length l0) (hc0:l0.length≤c0) (h:spec_ZOk.f k l0=some r) :
  Calls Tryd.prog 28 #[.slice A0 l0.length c0] w fun e w'=>e=.returned (.bool r)∧Below w.heap.size w w':=by
 have HR0:=Aside0.mk hr0
 have HC0:=Aside0.mk hc0
 clear hr0 hc0
 have HB:=Aside0.mk (Below.refl w.heap.size w)
 have H:(if (l0.length:Int) > 100 then (some false) else (spec_ZOk.l0 k l0 0))=some r:=h
 clear h
 by_cases c2:(l0.length:Int) > 100
 ·rw [if_pos c2] at H
  have c2b0:decide (100 < (l0.length:Int))=true:=decide_eq_true c2
  have c2b1:decide (100 < l0.length)=true:=decide_eq_true (by omega)
  clear c2
  obtain rfl:=Option.some.inj H
  go_enter Tryd.func28,Tryd.ntmps28
  go_wp2
  go_ret
  exact ⟨by first|rfl|(simp [errW_none,errW_some] <;> rfl)|(simp [*,errW_none,errW_some] <;> rfl),zhb⟩
 rw [if_neg c2] at H
 have c2b0:decide (100 < (l0.length:Int))=false:=decide_eq_false c2
 have c2b1:decide (100 < l0.length)=false:=decide_eq_false (by omega)
 clear c2
 have H':=Aside0.mk H
 clear H
 go_enter Tryd.func28,Tryd.ntmps28
 go_wp2
 go_loopg [3] k (fun kq v3 w'=>∃ (x3_1:Int),v3=.int .i64 x3_1∧Aside0 (spec_ZOk.l0 kq l0 x3_1=some r)∧Aside0 (kq≤k)∧Aside0 (Below w.heap.size w w'))
 case atStart=>exact ⟨(0),(by first|rfl|(simp;done)|(simp [*];done)),H',⟨Nat.le_refl _⟩,⟨zhb⟩⟩
 case round =>
  clear H'
  try clear c2
  try clear c2b0
  try clear c2b1
  try clear p2
  obtain ⟨x3_1,rfl,HA,HK1,HB⟩:=hrel
  cases gk with
  | zero=>exact absurd HA.out (by simp [spec_ZOk.l0])
  | succ k1 =>
   have H:=HA.out
   clear HA
   simp only [spec_ZOk.l0] at H
   by_cases c3:x3_1 < (l0.length:Int)
   rotate_left
   ·rw [if_neg c3] at H
    have c3b0:decide (x3_1 < (l0.length:Int))=false:=decide_eq_false c3
    clear c3
    obtain rfl:=Option.some.inj H
    go_wp2
    go_ret
    exact ⟨by first|rfl|(simp [errW_none,errW_some] <;> rfl)|(simp [*,errW_none,errW_some] <;> rfl),zhb⟩

   rw [if_pos c3] at H
   have c3b0:decide (x3_1 < (l0.length:Int))=true:=decide_eq_true c3
   clear c3
   by_cases c4:0≤x3_1
   rotate_left
   ·rw [if_neg c4] at H
    exact absurd H (by simp)
   rw [if_pos c4] at H
   have c4b0:decide (0≤x3_1)=true:=decide_eq_true c4
   clear c4
   replace H:=Option.bind_eq_some_iff.mp H
   obtain ⟨t259,A50,H⟩:=H
   (try dsimp only at H)
   have A5:=Aside0.mk A50
   clear A50
   by_cases c6:t259=true
   rotate_left
   ·replace c6:=Bool.eq_false_iff.mpr c6
    subst c6
    have H1:(some false)=some r:=by rw [if_neg (show ¬ (false=true) by decide)] at H;exact H
    clear H
    have H:=H1
    clear H1
    obtain rfl:=Option.some.inj H
    try go_wp2
    have n0_:=Aside0.mk (below_drew1 HB.out)
    clear HB
    have HB:=n0_
    clear n0_
    have p258:0≤(x3_1:Int):=zod
    have q258:x3_1 < (l0.length:Int):=zod
    obtain ⟨ad258,A258_0,c258_0,e258,hx258_0,hx258_1,hl258_0,hi258_0⟩:=at_T31 HR0.out x3_1 p258 q258
    have hw258_1:=hx258_1
    have hw258_0:=hx258_0
    cases e258
    replace hx258_0:=(HB.out.cell (World.block_lt_of_cell? w _ hx258_0)).trans hx258_0
    replace hx258_1:=(HB.out.cell (World.block_lt_of_cell? w _ hx258_1)).trans hx258_1
    have HR258_0:=Aside0.mk hi258_0
    have HC258_0:=Aside0.mk hl258_0
    clear hi258_0 hl258_0
    replace p258:=eq_true p258
    replace q258:=eq_true q258
    refine start_ (n:=35) (S:=fun w'=>w'.cell? (ad258.add ((x3_1).toNat * 2))=some (.slice A258_0 ((rd_T31 l0 x3_1).f0).length c258_0)∧w'.cell? ⟨(ad258.add ((x3_1).toNat * 2)).block,(ad258.add ((x3_1).toNat * 2)).off + 1,none⟩=some (.int .i64 ((rd_T31 l0 x3_1).f1))) (ds:=[]) (zm 35 0) (by kernel_rfl) rfl rfl ⟨((HB.out.cell (World.block_lt_of_cell? w _ hw258_0)).trans hw258_0),((HB.out.cell (World.block_lt_of_cell? w _ hw258_1)).trans hw258_1)⟩ (fun hHeld=>?_);refine with_tabW spec_ZOk.tab6 spec_ZOk.bits6 (fun HT_ HW_=>?_)
    generalize wr.drew=w19 at HB HR258_0 hx258_0 hx258_1 hHeld ⊢
    refine zpu 0 13 35 1 ?_
    refine zpu 1 14 35 3 ?_
    refine zpu 2 15 35 7 ?_
    refine zpu 3 16 35 15 ?_
    refine zta 4 17 35 31 ?_
    refine one_ (i:=5) (N:=some 18) (zm 35 63) rfl rfl (one_of HT_.out (by kernel_rfl)) (by decide) (fun K hK=>?_)
    refine goes_ Tryd.func55 (by kernel_rfl) rfl #[.slice A258_0 ((rd_T31 l0 x3_1).f0).length c258_0] (by rfl) rfl rfl zar ?_
    with_reducible refine (spec_RowOk.calls k1 _ _ ((rd_T31 l0 x3_1).f0) false _ ?side1 ?side2 A5.out).mono ?_
    (case side1=>exact zC (Kd.C_below HR258_0.out HB.out))
    (case side2=>exact HC258_0.out)
    rintro e w' ⟨rfl,⟨nd,rfl⟩⟩
    refine ⟨_,rfl,?_⟩
    refine hK.out _ _ ⟨((HB.out.cell (World.block_lt_of_cell? w _ hw258_0)).trans hw258_0),((HB.out.cell (World.block_lt_of_cell? w _ hw258_1)).trans hw258_1)⟩ (fun hHeld=>?_)
    clear hK K
    refine norm_ (a':=?_) ?_ ?_
    rotate_left
    ·show Act.put _ (some 18) _=_
     simp only [Act.put,zp1,zp2,zp3,i64_w,i32_w]
     rfl
    refine zpu 6 19 35 127 ?_
    refine zpu 7 20 35 255 ?_
    refine zqu 8 21 35 511 ?_
    refine zqu 9 22 35 1023 ?_
    refine zqu 10 23 35 2047 ?_
    refine zqu 11 24 35 4095 ?_
    refine zqu 12 25 35 8191 ?_
    refine zqu 13 26 35 16383 ?_
    refine zqu 14 27 35 32767 ?_
    refine zpu 15 28 35 65535 ?_
    refine zpu 16 29 35 131071 ?_
    refine zqu 17 30 35 262143 ?_
    refine zqu 18 31 35 524287 ?_
    refine zqu 19 32 35 1048575 ?_
    refine zqu 20 33 35 2097151 ?_
    refine zqu 21 34 35 4194303 ?_
    refine zqu 22 35 35 8388607 ?_
    refine zqu 23 36 35 16777215 ?_
    refine zqu 24 37 35 33554431 ?_
    refine zqu 25 38 35 67108863 ?_
    refine zqu 26 39 35 134217727 ?_
    refine zqu 27 40 35 268435455 ?_
    refine zqu 28 41 35 536870911 ?_
    refine zqu 29 42 35 1073741823 ?_
    refine zqu 30 43 35 2147483647 ?_
    refine zqu 31 44 35 4294967295 ?_
    refine zqu 32 45 35 8589934591 ?_
    refine zqu 33 46 35 17179869183 ?_
    refine zpu 34 47 35 34359738367 ?_
    refine done_ (done_of HT_.out (by kernel_rfl)) ?_
    try go_wp2
    go_ret
    exact ⟨by first|rfl|(simp [errW_none,errW_some] <;> rfl)|(simp [*,errW_none,errW_some] <;> rfl),zhb⟩
   subst c6
   have H1:((spec_l2W.f ((rd_T31 l0 x3_1).f1)).bind fun t261=>(if t261=true then (if x3_1 > 0 then (if 0≤(wrap64 (x3_1 - 1)) then (if (wrap64 (x3_1 - 1)) < (l0.length:Int) then ((spec_RowLess.f k1 ((rd_T31 l0 (wrap64 (x3_1 - 1))).f0) ((rd_T31 l0 x3_1).f0)).bind fun t264=>(if t264=true then (spec_ZOk.l0 k1 l0 (wrap64 (x3_1 + 1))) else (some false))) else (none)) else (none)) else (spec_ZOk.l0 k1 l0 (wrap64 (x3_1 + 1)))) else (some false)))=some r:=by rw [if_pos rfl] at H;exact H
   clear H
   have H:=H1
   clear H1
   replace H:=Option.bind_eq_some_iff.mp H
   obtain ⟨t261,A70,H⟩:=H
   (try dsimp only at H)
   have A7:=Aside0.mk A70
   clear A70
   by_cases c8:t261=true
   rotate_left
   ·replace c8:=Bool.eq_false_iff.mpr c8
    subst c8
    have H1:(some false)=some r:=by rw [if_neg (show ¬ (false=true) by decide)] at H;exact H
    clear H
    have H:=H1
    clear H1
    obtain rfl:=Option.some.inj H
    try go_wp2
    have n0_:=Aside0.mk (below_drew1 HB.out)
    clear HB
    have HB:=n0_
    clear n0_
    have p258:0≤(x3_1:Int):=zod
    have q258:x3_1 < (l0.length:Int):=zod
    obtain ⟨ad258,A258_0,c258_0,e258,hx258_0,hx258_1,hl258_0,hi258_0⟩:=at_T31 HR0.out x3_1 p258 q258
    have hw258_1:=hx258_1
    have hw258_0:=hx258_0
    cases e258
    replace hx258_0:=(HB.out.cell (World.block_lt_of_cell? w _ hx258_0)).trans hx258_0
    replace hx258_1:=(HB.out.cell (World.block_lt_of_cell? w _ hx258_1)).trans hx258_1
    have HR258_0:=Aside0.mk hi258_0
    have HC258_0:=Aside0.mk hl258_0
    clear hi258_0 hl258_0
    replace p258:=eq_true p258
    replace q258:=eq_true q258
    have p260:0≤(x3_1:Int):=zod
    have q260:x3_1 < (l0.length:Int):=zod
    obtain ⟨ad260,A260_0,c260_0,e260,hx260_0,hx260_1,hl260_0,hi260_0⟩:=at_T31 HR0.out x3_1 p260 q260
    have hw260_1:=hx260_1
    have hw260_0:=hx260_0
    obtain rfl:ad258=ad260:=(by injection e260)
    replace hx260_0:=(HB.out.cell (World.block_lt_of_cell? w _ hx260_0)).trans hx260_0
    replace hx260_1:=(HB.out.cell (World.block_lt_of_cell? w _ hx260_1)).trans hx260_1
    have HR260_0:=Aside0.mk hi260_0
    have HC260_0:=Aside0.mk hl260_0
    clear hi260_0 hl260_0
    replace p260:=eq_true p260
    replace q260:=eq_true q260
    have ea_:=Option.some.inj (hx258_0.symm.trans hx260_0)
    injection ea_ with ea_ en_ ec_
    subst ea_
    subst ec_
    clear en_
    refine start_ (n:=35) (S:=fun w'=>w'.cell? (ad258.add ((x3_1).toNat * 2))=some (.slice A258_0 ((rd_T31 l0 x3_1).f0).length c258_0)∧w'.cell? ⟨(ad258.add ((x3_1).toNat * 2)).block,(ad258.add ((x3_1).toNat * 2)).off + 1,none⟩=some (.int .i64 ((rd_T31 l0 x3_1).f1))∧w'.cell? (ad258.add ((x3_1).toNat * 2))=some (.slice A258_0 ((rd_T31 l0 x3_1).f0).length c258_0)∧w'.cell? ⟨(ad258.add ((x3_1).toNat * 2)).block,(ad258.add ((x3_1).toNat * 2)).off + 1,none⟩=some (.int .i64 ((rd_T31 l0 x3_1).f1))) (ds:=[]) (zm 35 0) (by kernel_rfl) rfl rfl ⟨((HB.out.cell (World.block_lt_of_cell? w _ hw258_0)).trans hw258_0),((HB.out.cell (World.block_lt_of_cell? w _ hw258_1)).trans hw258_1),((HB.out.cell (World.block_lt_of_cell? w _ hw260_0)).trans hw260_0),((HB.out.cell (World.block_lt_of_cell? w _ hw260_1)).trans hw260_1)⟩ (fun hHeld=>?_);refine with_tabW spec_ZOk.tab6 spec_ZOk.bits6 (fun HT_ HW_=>?_)
    generalize wr.drew=w18 at HB HR258_0 HR260_0 hx258_0 hx258_1 hx260_0 hx260_1 hHeld ⊢
    refine zpu 0 13 35 1 ?_
    refine zpu 1 14 35 3 ?_
    refine zpu 2 15 35 7 ?_
    refine zpu 3 16 35 15 ?_
    refine zta 4 17 35 31 ?_
    refine one_ (i:=5) (N:=some 18) (zm 35 63) rfl rfl (one_of HT_.out (by kernel_rfl)) (by decide) (fun K hK=>?_)
    refine goes_ Tryd.func55 (by kernel_rfl) rfl #[.slice A258_0 ((rd_T31 l0 x3_1).f0).length c258_0] (by rfl) rfl rfl zar ?_
    with_reducible refine (spec_RowOk.calls k1 _ _ ((rd_T31 l0 x3_1).f0) true _ ?side1 ?side2 A5.out).mono ?_
    (case side1=>exact zC (Kd.C_below HR258_0.out HB.out))
    (case side2=>exact HC258_0.out)
    rintro e w' ⟨rfl,⟨nd,rfl⟩⟩
    refine ⟨_,rfl,?_⟩
    refine hK.out _ _ ⟨((HB.out.cell (World.block_lt_of_cell? w _ hw258_0)).trans hw258_0),((HB.out.cell (World.block_lt_of_cell? w _ hw258_1)).trans hw258_1),((HB.out.cell (World.block_lt_of_cell? w _ hw260_0)).trans hw260_0),((HB.out.cell (World.block_lt_of_cell? w _ hw260_1)).trans hw260_1)⟩ (fun hHeld=>?_)
    clear hK K
    refine norm_ (a':=?_) ?_ ?_
    rotate_left
    ·show Act.put _ (some 18) _=_
     simp only [Act.put,zp1,zp2,zp3,i64_w,i32_w]
     rfl
    refine zpu 6 19 35 127 ?_
    refine zpu 7 20 35 255 ?_
    refine zpu 8 21 35 511 ?_
    refine zpu 9 22 35 1023 ?_
    refine zpu 10 23 35 2047 ?_
    refine zpu 11 24 35 4095 ?_
    refine zta 12 25 35 8191 ?_
    refine one_ (i:=13) (N:=some 26) (zm 35 16383) rfl rfl (one_of HT_.out (by kernel_rfl)) (by decide) (fun K hK=>?_)
    refine goes_ Tryd.func56 (by kernel_rfl) rfl #[.int .i64 ((rd_T31 l0 x3_1).f1)] (by rfl) rfl rfl zar ?_
    with_reducible refine (spec_l2W.calls ((rd_T31 l0 x3_1).f1) false _ A7.out).mono ?_
    rintro e w' ⟨rfl,⟨nd,rfl⟩⟩
    refine ⟨_,rfl,?_⟩
    refine hK.out _ _ ⟨((HB.out.cell (World.block_lt_of_cell? w _ hw258_0)).trans hw258_0),((HB.out.cell (World.block_lt_of_cell? w _ hw258_1)).trans hw258_1),((HB.out.cell (World.block_lt_of_cell? w _ hw260_0)).trans hw260_0),((HB.out.cell (World.block_lt_of_cell? w _ hw260_1)).trans hw260_1)⟩ (fun hHeld=>?_)
    clear hK K
    refine norm_ (a':=?_) ?_ ?_
    rotate_left
    ·show Act.put _ (some 26) _=_
     simp only [Act.put,zp1,zp2,zp3,i64_w,i32_w]
     rfl
    refine zpu 14 27 35 32767 ?_
    refine zpu 15 28 35 65535 ?_
    refine zpu 16 29 35 131071 ?_
    refine zqu 17 30 35 262143 ?_
    refine zqu 18 31 35 524287 ?_
    refine zqu 19 32 35 1048575 ?_
    refine zqu 20 33 35 2097151 ?_
    refine zqu 21 34 35 4194303 ?_
    refine zqu 22 35 35 8388607 ?_
    refine zqu 23 36 35 16777215 ?_
    refine zqu 24 37 35 33554431 ?_
    refine zqu 25 38 35 67108863 ?_
    refine zqu 26 39 35 134217727 ?_
    refine zqu 27 40 35 268435455 ?_
    refine zqu 28 41 35 536870911 ?_
    refine zqu 29 42 35 1073741823 ?_
    refine zqu 30 43 35 2147483647 ?_
    refine zqu 31 44 35 4294967295 ?_
    refine zqu 32 45 35 8589934591 ?_
    refine zqu 33 46 35 17179869183 ?_
    refine zpu 34 47 35 34359738367 ?_
    refine done_ (done_of HT_.out (by kernel_rfl)) ?_
    try go_wp2
    go_ret
    exact ⟨by first|rfl|(simp [errW_none,errW_some] <;> rfl)|(simp [*,errW_none,errW_some] <;> rfl),zhb⟩
   subst c8
   have H1:(if x3_1 > 0 then (if 0≤(wrap64 (x3_1 - 1)) then (if (wrap64 (x3_1 - 1)) < (l0.length:Int) then ((spec_RowLess.f k1 ((rd_T31 l0 (wrap64 (x3_1 - 1))).f0) ((rd_T31 l0 x3_1).f0)).bind fun t264=>(if t264=true then (spec_ZOk.l0 k1 l0 (wrap64 (x3_1 + 1))) else (some false))) else (none)) else (none)) else (spec_ZOk.l0 k1 l0 (wrap64 (x3_1 + 1))))=some r:=by rw [if_pos rfl] at H;exact H
   clear H
   have H:=H1
   clear H1
   by_cases c9:x3_1 > 0
   rotate_left
   ·rw [if_neg c9] at H
    have c9b0:decide (0 < x3_1)=false:=decide_eq_false c9
    clear c9
    have H':=Aside0.mk H
    clear H
    try go_wp2
    have n0_:=Aside0.mk (below_drew1 HB.out)
    clear HB
    have HB:=n0_
    clear n0_
    have p258:0≤(x3_1:Int):=zod
    have q258:x3_1 < (l0.length:Int):=zod
    obtain ⟨ad258,A258_0,c258_0,e258,hx258_0,hx258_1,hl258_0,hi258_0⟩:=at_T31 HR0.out x3_1 p258 q258
    have hw258_1:=hx258_1
    have hw258_0:=hx258_0
    cases e258
    replace hx258_0:=(HB.out.cell (World.block_lt_of_cell? w _ hx258_0)).trans hx258_0
    replace hx258_1:=(HB.out.cell (World.block_lt_of_cell? w _ hx258_1)).trans hx258_1
    have HR258_0:=Aside0.mk hi258_0
    have HC258_0:=Aside0.mk hl258_0
    clear hi258_0 hl258_0
    replace p258:=eq_true p258
    replace q258:=eq_true q258
    have p260:0≤(x3_1:Int):=zod
    have q260:x3_1 < (l0.length:Int):=zod
    obtain ⟨ad260,A260_0,c260_0,e260,hx260_0,hx260_1,hl260_0,hi260_0⟩:=at_T31 HR0.out x3_1 p260 q260
    have hw260_1:=hx260_1
    have hw260_0:=hx260_0
    obtain rfl:ad258=ad260:=(by injection e260)
    replace hx260_0:=(HB.out.cell (World.block_lt_of_cell? w _ hx260_0)).trans hx260_0
    replace hx260_1:=(HB.out.cell (World.block_lt_of_cell? w _ hx260_1)).trans hx260_1
    have HR260_0:=Aside0.mk hi260_0
    have HC260_0:=Aside0.mk hl260_0
    clear hi260_0 hl260_0
    replace p260:=eq_true p260
    replace q260:=eq_true q260
    have ea_:=Option.some.inj (hx258_0.symm.trans hx260_0)
    injection ea_ with ea_ en_ ec_
    subst ea_
    subst ec_
    clear en_
    refine start_ (n:=35) (S:=fun w'=>w'.cell? (ad258.add ((x3_1).toNat * 2))=some (.slice A258_0 ((rd_T31 l0 x3_1).f0).length c258_0)∧w'.cell? ⟨(ad258.add ((x3_1).toNat * 2)).block,(ad258.add ((x3_1).toNat * 2)).off + 1,none⟩=some (.int .i64 ((rd_T31 l0 x3_1).f1))∧w'.cell? (ad258.add ((x3_1).toNat * 2))=some (.slice A258_0 ((rd_T31 l0 x3_1).f0).length c258_0)∧w'.cell? ⟨(ad258.add ((x3_1).toNat * 2)).block,(ad258.add ((x3_1).toNat * 2)).off + 1,none⟩=some (.int .i64 ((rd_T31 l0 x3_1).f1))) (ds:=[]) (zm 35 0) (by kernel_rfl) rfl rfl ⟨((HB.out.cell (World.block_lt_of_cell? w _ hw258_0)).trans hw258_0),((HB.out.cell (World.block_lt_of_cell? w _ hw258_1)).trans hw258_1),((HB.out.cell (World.block_lt_of_cell? w _ hw260_0)).trans hw260_0),((HB.out.cell (World.block_lt_of_cell? w _ hw260_1)).trans hw260_1)⟩ (fun hHeld=>?_);refine with_tabW spec_ZOk.tab6 spec_ZOk.bits6 (fun HT_ HW_=>?_)
    generalize wr.drew=w17 at HB HR258_0 HR260_0 hx258_0 hx258_1 hx260_0 hx260_1 hHeld ⊢
    refine zpu 0 13 35 1 ?_
    refine zpu 1 14 35 3 ?_
    refine zpu 2 15 35 7 ?_
    refine zpu 3 16 35 15 ?_
    refine zta 4 17 35 31 ?_
    refine one_ (i:=5) (N:=some 18) (zm 35 63) rfl rfl (one_of HT_.out (by kernel_rfl)) (by decide) (fun K hK=>?_)
    refine goes_ Tryd.func55 (by kernel_rfl) rfl #[.slice A258_0 ((rd_T31 l0 x3_1).f0).length c258_0] (by rfl) rfl rfl zar ?_
    with_reducible refine (spec_RowOk.calls k1 _ _ ((rd_T31 l0 x3_1).f0) true _ ?side1 ?side2 A5.out).mono ?_
    (case side1=>exact zC (Kd.C_below HR258_0.out HB.out))
    (case side2=>exact HC258_0.out)
    rintro e w' ⟨rfl,⟨nd,rfl⟩⟩
    refine ⟨_,rfl,?_⟩
    refine hK.out _ _ ⟨((HB.out.cell (World.block_lt_of_cell? w _ hw258_0)).trans hw258_0),((HB.out.cell (World.block_lt_of_cell? w _ hw258_1)).trans hw258_1),((HB.out.cell (World.block_lt_of_cell? w _ hw260_0)).trans hw260_0),((HB.out.cell (World.block_lt_of_cell? w _ hw260_1)).trans hw260_1)⟩ (fun hHeld=>?_)
    clear hK K
    refine norm_ (a':=?_) ?_ ?_
    rotate_left
    ·show Act.put _ (some 18) _=_
     simp only [Act.put,zp1,zp2,zp3,i64_w,i32_w]
     rfl
    refine zpu 6 19 35 127 ?_
    refine zpu 7 20 35 255 ?_
    refine zpu 8 21 35 511 ?_
    refine zpu 9 22 35 1023 ?_
    refine zpu 10 23 35 2047 ?_
    refine zpu 11 24 35 4095 ?_
    refine zta 12 25 35 8191 ?_
    refine one_ (i:=13) (N:=some 26) (zm 35 16383) rfl rfl (one_of HT_.out (by kernel_rfl)) (by decide) (fun K hK=>?_)
    refine goes_ Tryd.func56 (by kernel_rfl) rfl #[.int .i64 ((rd_T31 l0 x3_1).f1)] (by rfl) rfl rfl zar ?_
    with_reducible refine (spec_l2W.calls ((rd_T31 l0 x3_1).f1) true _ A7.out).mono ?_
    rintro e w' ⟨rfl,⟨nd,rfl⟩⟩
    refine ⟨_,rfl,?_⟩
    refine hK.out _ _ ⟨((HB.out.cell (World.block_lt_of_cell? w _ hw258_0)).trans hw258_0),((HB.out.cell (World.block_lt_of_cell? w _ hw258_1)).trans hw258_1),((HB.out.cell (World.block_lt_of_cell? w _ hw260_0)).trans hw260_0),((HB.out.cell (World.block_lt_of_cell? w _ hw260_1)).trans hw260_1)⟩ (fun hHeld=>?_)
    clear hK K
    refine norm_ (a':=?_) ?_ ?_
    rotate_left
    ·show Act.put _ (some 26) _=_
     simp only [Act.put,zp1,zp2,zp3,i64_w,i32_w]
     rfl
    refine zpu 14 27 35 32767 ?_
    refine zpu 15 28 35 65535 ?_
    refine zpu 16 29 35 131071 ?_
    refine zpu 17 30 35 262143 ?_
    refine zpu 18 31 35 524287 ?_
    refine zpu 19 32 35 1048575 ?_
    refine zqu 20 33 35 2097151 ?_
    refine zqu 21 34 35 4194303 ?_
    refine zqu 22 35 35 8388607 ?_
    refine zqu 23 36 35 16777215 ?_
    refine zqu 24 37 35 33554431 ?_
    refine zqu 25 38 35 67108863 ?_
    refine zqu 26 39 35 134217727 ?_
    refine zqu 27 40 35 268435455 ?_
    refine zqu 28 41 35 536870911 ?_
    refine zqu 29 42 35 1073741823 ?_
    refine zqu 30 43 35 2147483647 ?_
    refine zqu 31 44 35 4294967295 ?_
    refine zqu 32 45 35 8589934591 ?_
    refine zpu 33 46 35 17179869183 ?_
    refine zpu 34 47 35 34359738367 ?_
    refine done_ (done_of HT_.out (by kernel_rfl)) ?_
    try go_wp2
    go_roundg k1
    case measure=>have:=HK1.out;omega
    case rel=>exact ⟨(wrap64 (x3_1 + 1)),(by first|rfl|(simp;done)|(simp [*];done)),H',⟨by have:=HK1.out;omega⟩,⟨zhb⟩⟩
   rw [if_pos c9] at H
   have c9b0:decide (0 < x3_1)=true:=decide_eq_true c9
   clear c9
   obtain ⟨ji10,hji10⟩ : ∃ j_:Int,(wrap64 (x3_1 - 1))=j_:=⟨_,rfl⟩
   replace H:(if 0≤(ji10) then (if (ji10) < (l0.length:Int) then ((spec_RowLess.f k1 ((rd_T31 l0 (ji10)).f0) ((rd_T31 l0 x3_1).f0)).bind fun t264=>(if t264=true then (spec_ZOk.l0 k1 l0 (wrap64 (x3_1 + 1))) else (some false))) else (none)) else (none))=some r:=by first|(rw [hji10] at H;exact H)|(simp only [hji10] at H ⊢;exact H)
   (try rw [hji10] at A5)
   (try rw [hji10] at A7)
   have hji10w:(IntKind.i64.wrap (x3_1 - 1))=ji10:=(i64_w _).trans hji10
   by_cases c11:0≤(ji10)
   rotate_left
   ·rw [if_neg c11] at H
    exact absurd H (by simp)
   rw [if_pos c11] at H
   have c11b0:decide (0≤(ji10))=true:=decide_eq_true c11
   clear c11
   by_cases c12:(ji10) < (l0.length:Int)
   rotate_left
   ·rw [if_neg c12] at H
    exact absurd H (by simp)
   rw [if_pos c12] at H
   have c12b0:decide ((ji10) < (l0.length:Int))=true:=decide_eq_true c12
   clear c12
   replace H:=Option.bind_eq_some_iff.mp H
   obtain ⟨t264,A130,H⟩:=H
   (try dsimp only at H)
   have A13:=Aside0.mk A130
   clear A130
   by_cases c14:t264=true
   ·subst c14
    have H1:(spec_ZOk.l0 k1 l0 (wrap64 (x3_1 + 1)))=some r:=by rw [if_pos rfl] at H;exact H
    clear H
    have H:=H1
    clear H1
    have H':=Aside0.mk H
    clear H
    try go_wp2
    have n0_:=Aside0.mk (below_drew1 HB.out)
    clear HB
    have HB:=n0_
    clear n0_
    have p258:0≤(x3_1:Int):=zod
    have q258:x3_1 < (l0.length:Int):=zod
    obtain ⟨ad258,A258_0,c258_0,e258,hx258_0,hx258_1,hl258_0,hi258_0⟩:=at_T31 HR0.out x3_1 p258 q258
    have hw258_1:=hx258_1
    have hw258_0:=hx258_0
    cases e258
    replace hx258_0:=(HB.out.cell (World.block_lt_of_cell? w _ hx258_0)).trans hx258_0
    replace hx258_1:=(HB.out.cell (World.block_lt_of_cell? w _ hx258_1)).trans hx258_1
    have HR258_0:=Aside0.mk hi258_0
    have HC258_0:=Aside0.mk hl258_0
    clear hi258_0 hl258_0
    replace p258:=eq_true p258
    replace q258:=eq_true q258
    have p260:0≤(x3_1:Int):=zod
    have q260:x3_1 < (l0.length:Int):=zod
    obtain ⟨ad260,A260_0,c260_0,e260,hx260_0,hx260_1,hl260_0,hi260_0⟩:=at_T31 HR0.out x3_1 p260 q260
    have hw260_1:=hx260_1
    have hw260_0:=hx260_0
    obtain rfl:ad258=ad260:=(by injection e260)
    replace hx260_0:=(HB.out.cell (World.block_lt_of_cell? w _ hx260_0)).trans hx260_0
    replace hx260_1:=(HB.out.cell (World.block_lt_of_cell? w _ hx260_1)).trans hx260_1
    have HR260_0:=Aside0.mk hi260_0
    have HC260_0:=Aside0.mk hl260_0
    clear hi260_0 hl260_0
    replace p260:=eq_true p260
    replace q260:=eq_true q260
    have ea_:=Option.some.inj (hx258_0.symm.trans hx260_0)
    injection ea_ with ea_ en_ ec_
    subst ea_
    subst ec_
    clear en_
    have p262:0≤((ji10):Int):=zod
    have q262:(ji10) < (l0.length:Int):=zod
    obtain ⟨ad262,A262_0,c262_0,e262,hx262_0,hx262_1,hl262_0,hi262_0⟩:=at_T31 HR0.out (ji10) p262 q262
    have hw262_1:=hx262_1
    have hw262_0:=hx262_0
    obtain rfl:ad258=ad262:=(by injection e262)
    replace hx262_0:=(HB.out.cell (World.block_lt_of_cell? w _ hx262_0)).trans hx262_0
    replace hx262_1:=(HB.out.cell (World.block_lt_of_cell? w _ hx262_1)).trans hx262_1
    have HR262_0:=Aside0.mk hi262_0
    have HC262_0:=Aside0.mk hl262_0
    clear hi262_0 hl262_0
    replace p262:=eq_true p262
    replace q262:=eq_true q262
    have p263:0≤(x3_1:Int):=zod
    have q263:x3_1 < (l0.length:Int):=zod
    obtain ⟨ad263,A263_0,c263_0,e263,hx263_0,hx263_1,hl263_0,hi263_0⟩:=at_T31 HR0.out x3_1 p263 q263
    have hw263_1:=hx263_1
    have hw263_0:=hx263_0
    obtain rfl:ad258=ad263:=(by injection e263)
    replace hx263_0:=(HB.out.cell (World.block_lt_of_cell? w _ hx263_0)).trans hx263_0
    replace hx263_1:=(HB.out.cell (World.block_lt_of_cell? w _ hx263_1)).trans hx263_1
    have HR263_0:=Aside0.mk hi263_0
    have HC263_0:=Aside0.mk hl263_0
    clear hi263_0 hl263_0
    replace p263:=eq_true p263
    replace q263:=eq_true q263
    have ea_:=Option.some.inj (hx258_0.symm.trans hx263_0)
    injection ea_ with ea_ en_ ec_
    subst ea_
    subst ec_
    clear en_
    refine start_ (n:=35) (S:=fun w'=>w'.cell? (ad258.add ((x3_1).toNat * 2))=some (.slice A258_0 ((rd_T31 l0 x3_1).f0).length c258_0)∧w'.cell? ⟨(ad258.add ((x3_1).toNat * 2)).block,(ad258.add ((x3_1).toNat * 2)).off + 1,none⟩=some (.int .i64 ((rd_T31 l0 x3_1).f1))∧w'.cell? (ad258.add ((x3_1).toNat * 2))=some (.slice A258_0 ((rd_T31 l0 x3_1).f0).length c258_0)∧w'.cell? ⟨(ad258.add ((x3_1).toNat * 2)).block,(ad258.add ((x3_1).toNat * 2)).off + 1,none⟩=some (.int .i64 ((rd_T31 l0 x3_1).f1))∧w'.cell? (ad258.add (((ji10)).toNat * 2))=some (.slice A262_0 ((rd_T31 l0 (ji10)).f0).length c262_0)∧w'.cell? ⟨(ad258.add (((ji10)).toNat * 2)).block,(ad258.add (((ji10)).toNat * 2)).off + 1,none⟩=some (.int .i64 ((rd_T31 l0 (ji10)).f1))∧w'.cell? (ad258.add ((x3_1).toNat * 2))=some (.slice A258_0 ((rd_T31 l0 x3_1).f0).length c258_0)∧w'.cell? ⟨(ad258.add ((x3_1).toNat * 2)).block,(ad258.add ((x3_1).toNat * 2)).off + 1,none⟩=some (.int .i64 ((rd_T31 l0 x3_1).f1))) (ds:=[]) (zm 35 0) (by kernel_rfl) rfl rfl ⟨((HB.out.cell (World.block_lt_of_cell? w _ hw258_0)).trans hw258_0),((HB.out.cell (World.block_lt_of_cell? w _ hw258_1)).trans hw258_1),((HB.out.cell (World.block_lt_of_cell? w _ hw260_0)).trans hw260_0),((HB.out.cell (World.block_lt_of_cell? w _ hw260_1)).trans hw260_1),((HB.out.cell (World.block_lt_of_cell? w _ hw262_0)).trans hw262_0),((HB.out.cell (World.block_lt_of_cell? w _ hw262_1)).trans hw262_1),((HB.out.cell (World.block_lt_of_cell? w _ hw263_0)).trans hw263_0),((HB.out.cell (World.block_lt_of_cell? w _ hw263_1)).trans hw263_1)⟩ (fun hHeld=>?_);refine with_tabW spec_ZOk.tab6 spec_ZOk.bits6 (fun HT_ HW_=>?_)
    generalize wr.drew=w15 at HB HR258_0 HR260_0 HR262_0 HR263_0 hx258_0 hx258_1 hx260_0 hx260_1 hx262_0 hx262_1 hx263_0 hx263_1 hHeld ⊢
    refine zpu 0 13 35 1 ?_
    refine zpu 1 14 35 3 ?_
    refine zpu 2 15 35 7 ?_
    refine zpu 3 16 35 15 ?_
    refine zta 4 17 35 31 ?_
    refine one_ (i:=5) (N:=some 18) (zm 35 63) rfl rfl (one_of HT_.out (by kernel_rfl)) (by decide) (fun K hK=>?_)
    refine goes_ Tryd.func55 (by kernel_rfl) rfl #[.slice A258_0 ((rd_T31 l0 x3_1).f0).length c258_0] (by rfl) rfl rfl zar ?_
    with_reducible refine (spec_RowOk.calls k1 _ _ ((rd_T31 l0 x3_1).f0) true _ ?side1 ?side2 A5.out).mono ?_
    (case side1=>exact zC (Kd.C_below HR258_0.out HB.out))
    (case side2=>exact HC258_0.out)
    rintro e w' ⟨rfl,⟨nd,rfl⟩⟩
    refine ⟨_,rfl,?_⟩
    refine hK.out _ _ ⟨((HB.out.cell (World.block_lt_of_cell? w _ hw258_0)).trans hw258_0),((HB.out.cell (World.block_lt_of_cell? w _ hw258_1)).trans hw258_1),((HB.out.cell (World.block_lt_of_cell? w _ hw260_0)).trans hw260_0),((HB.out.cell (World.block_lt_of_cell? w _ hw260_1)).trans hw260_1),((HB.out.cell (World.block_lt_of_cell? w _ hw262_0)).trans hw262_0),((HB.out.cell (World.block_lt_of_cell? w _ hw262_1)).trans hw262_1),((HB.out.cell (World.block_lt_of_cell? w _ hw263_0)).trans hw263_0),((HB.out.cell (World.block_lt_of_cell? w _ hw263_1)).trans hw263_1)⟩ (fun hHeld=>?_)
    clear hK K
    refine norm_ (a':=?_) ?_ ?_
    rotate_left
    ·show Act.put _ (some 18) _=_
     simp only [Act.put,zp1,zp2,zp3,i64_w,i32_w]
     rfl
    refine zpu 6 19 35 127 ?_
    refine zpu 7 20 35 255 ?_
    refine zpu 8 21 35 511 ?_
    refine zpu 9 22 35 1023 ?_
    refine zpu 10 23 35 2047 ?_
    refine zpu 11 24 35 4095 ?_
    refine zta 12 25 35 8191 ?_
    refine one_ (i:=13) (N:=some 26) (zm 35 16383) rfl rfl (one_of HT_.out (by kernel_rfl)) (by decide) (fun K hK=>?_)
    refine goes_ Tryd.func56 (by kernel_rfl) rfl #[.int .i64 ((rd_T31 l0 x3_1).f1)] (by rfl) rfl rfl zar ?_
    with_reducible refine (spec_l2W.calls ((rd_T31 l0 x3_1).f1) true _ A7.out).mono ?_
    rintro e w' ⟨rfl,⟨nd,rfl⟩⟩
    refine ⟨_,rfl,?_⟩
    refine hK.out _ _ ⟨((HB.out.cell (World.block_lt_of_cell? w _ hw258_0)).trans hw258_0),((HB.out.cell (World.block_lt_of_cell? w _ hw258_1)).trans hw258_1),((HB.out.cell (World.block_lt_of_cell? w _ hw260_0)).trans hw260_0),((HB.out.cell (World.block_lt_of_cell? w _ hw260_1)).trans hw260_1),((HB.out.cell (World.block_lt_of_cell? w _ hw262_0)).trans hw262_0),((HB.out.cell (World.block_lt_of_cell? w _ hw262_1)).trans hw262_1),((HB.out.cell (World.block_lt_of_cell? w _ hw263_0)).trans hw263_0),((HB.out.cell (World.block_lt_of_cell? w _ hw263_1)).trans hw263_1)⟩ (fun hHeld=>?_)
    clear hK K
    refine norm_ (a':=?_) ?_ ?_
    rotate_left
    ·show Act.put _ (some 26) _=_
     simp only [Act.put,zp1,zp2,zp3,i64_w,i32_w]
     rfl
    refine zpu 14 27 35 32767 ?_
    refine zpu 15 28 35 65535 ?_
    refine zpu 16 29 35 131071 ?_
    refine zpu 17 30 35 262143 ?_
    refine zpu 18 31 35 524287 ?_
    refine zpu 19 32 35 1048575 ?_
    refine zpu 20 33 35 2097151 ?_
    refine zpu 21 34 35 4194303 ?_
    refine zpu 22 35 35 8388607 ?_
    refine zpu 23 36 35 16777215 ?_
    refine zpu 24 37 35 33554431 ?_
    refine zpu 26 39 35 100663295 ?_
    refine zpu 27 40 35 234881023 ?_
    refine zpu 28 41 35 503316479 ?_
    refine zpu 29 42 35 1040187391 ?_
    refine zta 25 38 35 1073741823 ?_
    refine zta 30 43 35 2147483647 ?_
    refine one_ (i:=31) (N:=some 44) (zm 35 4294967295) rfl rfl (one_of HT_.out (by kernel_rfl)) (by decide) (fun K hK=>?_)
    refine goes_ Tryd.func57 (by kernel_rfl) rfl #[.slice A262_0 ((rd_T31 l0 (ji10)).f0).length c262_0,.slice A258_0 ((rd_T31 l0 x3_1).f0).length c258_0] (by rfl) rfl rfl (by (try simp only [List.map_toArray,List.map_cons,List.map_nil]);first|done|(simp only [hji10];rfl)|rfl|(simp only [List.length_drop,List.length_take];rfl)) ?_
    with_reducible refine (spec_RowLess.calls k1 _ _ ((rd_T31 l0 (ji10)).f0) _ _ ((rd_T31 l0 x3_1).f0) true _ ?side1 ?side2 ?side3 ?side4 A13.out).mono ?_
    (case side1=>exact zC (Kd.C_below HR262_0.out zhb))
    (case side2=>exact HC262_0.out)
    (case side3=>exact zC (Kd.C_below HR258_0.out zhb))
    (case side4=>exact HC258_0.out)
    rintro e w' ⟨rfl,⟨nd,rfl⟩⟩
    refine ⟨_,rfl,?_⟩
    refine hK.out _ _ ⟨((HB.out.cell (World.block_lt_of_cell? w _ hw258_0)).trans hw258_0),((HB.out.cell (World.block_lt_of_cell? w _ hw258_1)).trans hw258_1),((HB.out.cell (World.block_lt_of_cell? w _ hw260_0)).trans hw260_0),((HB.out.cell (World.block_lt_of_cell? w _ hw260_1)).trans hw260_1),((HB.out.cell (World.block_lt_of_cell? w _ hw262_0)).trans hw262_0),((HB.out.cell (World.block_lt_of_cell? w _ hw262_1)).trans hw262_1),((HB.out.cell (World.block_lt_of_cell? w _ hw263_0)).trans hw263_0),((HB.out.cell (World.block_lt_of_cell? w _ hw263_1)).trans hw263_1)⟩ (fun hHeld=>?_)
    clear hK K
    refine norm_ (a':=?_) ?_ ?_
    rotate_left
    ·show Act.put _ (some 44) _=_
     simp only [Act.put,zp1,zp2,zp3,i64_w,i32_w]
     rfl
    refine zpu 32 45 35 8589934591 ?_
    refine zpu 33 46 35 17179869183 ?_
    refine zpu 34 47 35 34359738367 ?_
    refine done_ (done_of HT_.out (by kernel_rfl)) ?_
    try go_wp2
    go_roundg k1
    case measure=>have:=HK1.out;omega
    case rel=>exact ⟨(wrap64 (x3_1 + 1)),(by first|rfl|(simp;done)|(simp [*];done)),H',⟨by have:=HK1.out;omega⟩,⟨zhb⟩⟩
   replace c14:=Bool.eq_false_iff.mpr c14
   subst c14
   have H1:(some false)=some r:=by rw [if_neg (show ¬ (false=true) by decide)] at H;exact H
   clear H
   have H:=H1
   clear H1
   obtain rfl:=Option.some.inj H
   try go_wp2
   have n0_:=Aside0.mk (below_drew1 HB.out)
   clear HB
   have HB:=n0_
   clear n0_
   have p258:0≤(x3_1:Int):=zod
   have q258:x3_1 < (l0.length:Int):=zod
   obtain ⟨ad258,A258_0,c258_0,e258,hx258_0,hx258_1,hl258_0,hi258_0⟩:=at_T31 HR0.out x3_1 p258 q258
   have hw258_1:=hx258_1
   have hw258_0:=hx258_0
   cases e258
   replace hx258_0:=(HB.out.cell (World.block_lt_of_cell? w _ hx258_0)).trans hx258_0
   replace hx258_1:=(HB.out.cell (World.block_lt_of_cell? w _ hx258_1)).trans hx258_1
   have HR258_0:=Aside0.mk hi258_0
   have HC258_0:=Aside0.mk hl258_0
   clear hi258_0 hl258_0
   replace p258:=eq_true p258
   replace q258:=eq_true q258
   have p260:0≤(x3_1:Int):=zod
   have q260:x3_1 < (l0.length:Int):=zod
   obtain ⟨ad260,A260_0,c260_0,e260,hx260_0,hx260_1,hl260_0,hi260_0⟩:=at_T31 HR0.out x3_1 p260 q260
   have hw260_1:=hx260_1
   have hw260_0:=hx260_0
   obtain rfl:ad258=ad260:=(by injection e260)
   replace hx260_0:=(HB.out.cell (World.block_lt_of_cell? w _ hx260_0)).trans hx260_0
   replace hx260_1:=(HB.out.cell (World.block_lt_of_cell? w _ hx260_1)).trans hx260_1
   have HR260_0:=Aside0.mk hi260_0
   have HC260_0:=Aside0.mk hl260_0
   clear hi260_0 hl260_0
   replace p260:=eq_true p260
   replace q260:=eq_true q260
   have ea_:=Option.some.inj (hx258_0.symm.trans hx260_0)
   injection ea_ with ea_ en_ ec_
   subst ea_
   subst ec_
   clear en_
   have p262:0≤((ji10):Int):=zod
   have q262:(ji10) < (l0.length:Int):=zod
   obtain ⟨ad262,A262_0,c262_0,e262,hx262_0,hx262_1,hl262_0,hi262_0⟩:=at_T31 HR0.out (ji10) p262 q262
   have hw262_1:=hx262_1
   have hw262_0:=hx262_0
   obtain rfl:ad258=ad262:=(by injection e262)
   replace hx262_0:=(HB.out.cell (World.block_lt_of_cell? w _ hx262_0)).trans hx262_0
   replace hx262_1:=(HB.out.cell (World.block_lt_of_cell? w _ hx262_1)).trans hx262_1
   have HR262_0:=Aside0.mk hi262_0
   have HC262_0:=Aside0.mk hl262_0
   clear hi262_0 hl262_0
   replace p262:=eq_true p262
   replace q262:=eq_true q262
   have p263:0≤(x3_1:Int):=zod
   have q263:x3_1 < (l0.length:Int):=zod
   obtain ⟨ad263,A263_0,c263_0,e263,hx263_0,hx263_1,hl263_0,hi263_0⟩:=at_T31 HR0.out x3_1 p263 q263
   have hw263_1:=hx263_1
   have hw263_0:=hx263_0
   obtain rfl:ad258=ad263:=(by injection e263)
   replace hx263_0:=(HB.out.cell (World.block_lt_of_cell? w _ hx263_0)).trans hx263_0
   replace hx263_1:=(HB.out.cell (World.block_lt_of_cell? w _ hx263_1)).trans hx263_1
   have HR263_0:=Aside0.mk hi263_0
   have HC263_0:=Aside0.mk hl263_0
   clear hi263_0 hl263_0
   replace p263:=eq_true p263
   replace q263:=eq_true q263
   have ea_:=Option.some.inj (hx258_0.symm.trans hx263_0)
   injection ea_ with ea_ en_ ec_
   subst ea_
   subst ec_
   clear en_
   refine start_ (n:=35) (S:=fun w'=>w'.cell? (ad258.add ((x3_1).toNat * 2))=some (.slice A258_0 ((rd_T31 l0 x3_1).f0).length c258_0)∧w'.cell? ⟨(ad258.add ((x3_1).toNat * 2)).block,(ad258.add ((x3_1).toNat * 2)).off + 1,none⟩=some (.int .i64 ((rd_T31 l0 x3_1).f1))∧w'.cell? (ad258.add ((x3_1).toNat * 2))=some (.slice A258_0 ((rd_T31 l0 x3_1).f0).length c258_0)∧w'.cell? ⟨(ad258.add ((x3_1).toNat * 2)).block,(ad258.add ((x3_1).toNat * 2)).off + 1,none⟩=some (.int .i64 ((rd_T31 l0 x3_1).f1))∧w'.cell? (ad258.add (((ji10)).toNat * 2))=some (.slice A262_0 ((rd_T31 l0 (ji10)).f0).length c262_0)∧w'.cell? ⟨(ad258.add (((ji10)).toNat * 2)).block,(ad258.add (((ji10)).toNat * 2)).off + 1,none⟩=some (.int .i64 ((rd_T31 l0 (ji10)).f1))∧w'.cell? (ad258.add ((x3_1).toNat * 2))=some (.slice A258_0 ((rd_T31 l0 x3_1).f0).length c258_0)∧w'.cell? ⟨(ad258.add ((x3_1).toNat * 2)).block,(ad258.add ((x3_1).toNat * 2)).off + 1,none⟩=some (.int .i64 ((rd_T31 l0 x3_1).f1))) (ds:=[]) (zm 35 0) (by kernel_rfl) rfl rfl ⟨((HB.out.cell (World.block_lt_of_cell? w _ hw258_0)).trans hw258_0),((HB.out.cell (World.block_lt_of_cell? w _ hw258_1)).trans hw258_1),((HB.out.cell (World.block_lt_of_cell? w _ hw260_0)).trans hw260_0),((HB.out.cell (World.block_lt_of_cell? w _ hw260_1)).trans hw260_1),((HB.out.cell (World.block_lt_of_cell? w _ hw262_0)).trans hw262_0),((HB.out.cell (World.block_lt_of_cell? w _ hw262_1)).trans hw262_1),((HB.out.cell (World.block_lt_of_cell? w _ hw263_0)).trans hw263_0),((HB.out.cell (World.block_lt_of_cell? w _ hw263_1)).trans hw263_1)⟩ (fun hHeld=>?_);refine with_tabW spec_ZOk.tab6 spec_ZOk.bits6 (fun HT_ HW_=>?_)
   generalize wr.drew=w16 at HB HR258_0 HR260_0 HR262_0 HR263_0 hx258_0 hx258_1 hx260_0 hx260_1 hx262_0 hx262_1 hx263_0 hx263_1 hHeld ⊢
   refine zpu 0 13 35 1 ?_
   refine zpu 1 14 35 3 ?_
   refine zpu 2 15 35 7 ?_
   refine zpu 3 16 35 15 ?_
   refine zta 4 17 35 31 ?_
   refine one_ (i:=5) (N:=some 18) (zm 35 63) rfl rfl (one_of HT_.out (by kernel_rfl)) (by decide) (fun K hK=>?_)
   refine goes_ Tryd.func55 (by kernel_rfl) rfl #[.slice A258_0 ((rd_T31 l0 x3_1).f0).length c258_0] (by rfl) rfl rfl zar ?_
   with_reducible refine (spec_RowOk.calls k1 _ _ ((rd_T31 l0 x3_1).f0) true _ ?side1 ?side2 A5.out).mono ?_
   (case side1=>exact zC (Kd.C_below HR258_0.out HB.out))
   (case side2=>exact HC258_0.out)
   rintro e w' ⟨rfl,⟨nd,rfl⟩⟩
   refine ⟨_,rfl,?_⟩
   refine hK.out _ _ ⟨((HB.out.cell (World.block_lt_of_cell? w _ hw258_0)).trans hw258_0),((HB.out.cell (World.block_lt_of_cell? w _ hw258_1)).trans hw258_1),((HB.out.cell (World.block_lt_of_cell? w _ hw260_0)).trans hw260_0),((HB.out.cell (World.block_lt_of_cell? w _ hw260_1)).trans hw260_1),((HB.out.cell (World.block_lt_of_cell? w _ hw262_0)).trans hw262_0),((HB.out.cell (World.block_lt_of_cell? w _ hw262_1)).trans hw262_1),((HB.out.cell (World.block_lt_of_cell? w _ hw263_0)).trans hw263_0),((HB.out.cell (World.block_lt_of_cell? w _ hw263_1)).trans hw263_1)⟩ (fun hHeld=>?_)
   clear hK K
   refine norm_ (a':=?_) ?_ ?_
   rotate_left
   ·show Act.put _ (some 18) _=_
    simp only [Act.put,zp1,zp2,zp3,i64_w,i32_w]
    rfl
   refine zpu 6 19 35 127 ?_
   refine zpu 7 20 35 255 ?_
   refine zpu 8 21 35 511 ?_
   refine zpu 9 22 35 1023 ?_
   refine zpu 10 23 35 2047 ?_
   refine zpu 11 24 35 4095 ?_
   refine zta 12 25 35 8191 ?_
   refine one_ (i:=13) (N:=some 26) (zm 35 16383) rfl rfl (one_of HT_.out (by kernel_rfl)) (by decide) (fun K hK=>?_)
   refine goes_ Tryd.func56 (by kernel_rfl) rfl #[.int .i64 ((rd_T31 l0 x3_1).f1)] (by rfl) rfl rfl zar ?_
   with_reducible refine (spec_l2W.calls ((rd_T31 l0 x3_1).f1) true _ A7.out).mono ?_
   rintro e w' ⟨rfl,⟨nd,rfl⟩⟩
   refine ⟨_,rfl,?_⟩
   refine hK.out _ _ ⟨((HB.out.cell (World.block_lt_of_cell? w _ hw258_0)).trans hw258_0),((HB.out.cell (World.block_lt_of_cell? w _ hw258_1)).trans hw258_1),((HB.out.cell (World.block_lt_of_cell? w _ hw260_0)).trans hw260_0),((HB.out.cell (World.block_lt_of_cell? w _ hw260_1)).trans hw260_1),((HB.out.cell (World.block_lt_of_cell? w _ hw262_0)).trans hw262_0),((HB.out.cell (World.block_lt_of_cell? w _ hw262_1)).trans hw262_1),((HB.out.cell (World.block_lt_of_cell? w _ hw263_0)).trans hw263_0),((HB.out.cell (World.block_lt_of_cell? w _ hw263_1)).trans hw263_1)⟩ (fun hHeld=>?_)
   clear hK K
   refine norm_ (a':=?_) ?_ ?_
   rotate_left
   ·show Act.put _ (some 26) _=_
    simp only [Act.put,zp1,zp2,zp3,i64_w,i32_w]
    rfl
   refine zpu 14 27 35 32767 ?_
   refine zpu 15 28 35 65535 ?_
   refine zpu 16 29 35 131071 ?_
   refine zpu 17 30 35 262143 ?_
   refine zpu 18 31 35 524287 ?_
   refine zpu 19 32 35 1048575 ?_
   refine zpu 20 33 35 2097151 ?_
   refine zpu 21 34 35 4194303 ?_
   refine zpu 22 35 35 8388607 ?_
   refine zpu 23 36 35 16777215 ?_
   refine zpu 24 37 35 33554431 ?_
   refine zpu 26 39 35 100663295 ?_
   refine zpu 27 40 35 234881023 ?_
   refine zpu 28 41 35 503316479 ?_
   refine zpu 29 42 35 1040187391 ?_
   refine zta 25 38 35 1073741823 ?_
   refine zta 30 43 35 2147483647 ?_
   refine one_ (i:=31) (N:=some 44) (zm 35 4294967295) rfl rfl (one_of HT_.out (by kernel_rfl)) (by decide) (fun K hK=>?_)
   refine goes_ Tryd.func57 (by kernel_rfl) rfl #[.slice A262_0 ((rd_T31 l0 (ji10)).f0).length c262_0,.slice A258_0 ((rd_T31 l0 x3_1).f0).length c258_0] (by rfl) rfl rfl (by (try simp only [List.map_toArray,List.map_cons,List.map_nil]);first|done|(simp only [hji10];rfl)|rfl|(simp only [List.length_drop,List.length_take];rfl)) ?_
   with_reducible refine (spec_RowLess.calls k1 _ _ ((rd_T31 l0 (ji10)).f0) _ _ ((rd_T31 l0 x3_1).f0) false _ ?side1 ?side2 ?side3 ?side4 A13.out).mono ?_
   (case side1=>exact zC (Kd.C_below HR262_0.out zhb))
   (case side2=>exact HC262_0.out)
   (case side3=>exact zC (Kd.C_below HR258_0.out zhb))
   (case side4=>exact HC258_0.out)
   rintro e w' ⟨rfl,⟨nd,rfl⟩⟩
   refine ⟨_,rfl,?_⟩
   refine hK.out _ _ ⟨((HB.out.cell (World.block_lt_of_cell? w _ hw258_0)).trans hw258_0),((HB.out.cell (World.block_lt_of_cell? w _ hw258_1)).trans hw258_1),((HB.out.cell (World.block_lt_of_cell? w _ hw260_0)).trans hw260_0),((HB.out.cell (World.block_lt_of_cell? w _ hw260_1)).trans hw260_1),((HB.out.cell (World.block_lt_of_cell? w _ hw262_0)).trans hw262_0),((HB.out.cell (World.block_lt_of_cell? w _ hw262_1)).trans hw262_1),((HB.out.cell (World.block_lt_of_cell? w _ hw263_0)).trans hw263_0),((HB.out.cell (World.block_lt_of_cell? w _ hw263_1)).trans hw263_1)⟩ (fun hHeld=>?_)
   clear hK K
   refine norm_ (a':=?_) ?_ ?_
   rotate_left
   ·show Act.put _ (some 44) _=_
    simp only [Act.put,zp1,zp2,zp3,i64_w,i32_w]
    rfl
   refine zpu 32 45 35 8589934591 ?_
   refine zpu 33 46 35 17179869183 ?_
   refine zpu 34 47 35 34359738367 ?_
   refine done_ (done_of HT_.out (by kernel_rfl)) ?_
   try go_wp2
   go_ret
   exact ⟨by first|rfl|(simp [errW_none,errW_some] <;> rfl)|(simp only [← hji10];first|rfl|(simp [errW_none,errW_some] <;> rfl))|(simp [*,errW_none,errW_some] <;> rfl),zhb⟩
end Go.Proofs.YtlknceioincaeaaDoor.PFnJoin
