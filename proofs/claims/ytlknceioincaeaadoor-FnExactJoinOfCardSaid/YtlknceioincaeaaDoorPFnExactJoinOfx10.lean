-- Written by wip/tools/pp.py, a program of this session over the kit's printer: not the kit's own print
import Derived.Test.YtlknceioincaeaaDoorPFnExactJoinOfx0
import Derived.Test.YtlknceioincaeaaDoorPFnExactJoinOfx8
import Derived.Test.YtlknceioincaeaaDoorPFnExactJoinOfx9
namespace Go.Proofs.YtlknceioincaeaaDoor.PFnExactJoinOf
open Go.RowKit Go.Proofs.YtlknceioincaeaaDoorW.PrintWords Go.Proofs.YtlknceioincaeaaDoorW.PrintLast Go.Proofs.YtlknceioincaeaaDoorW.PrintMore
attribute [local go_sem] max2_int min2_int max_two min_two max_three min_three max_four min_four   -- for this text's walks alone
set_option linter.unusedVariables false
set_option linter.unusedSimpArgs false

/-! ### spec_l5Join: function 30 -/
mutual
def spec_l5Join.l0:Nat→List (S31)→List (S31)→Int→Int→List (S31)→Int→Option ((List (S31)) × Bool)
 | 0,_,_,_,_,_,_=>none
 | k + 1,x0,x1,x2,x3,x10,x11=>if x11 < (x0.length:Int) then (spec_l5Join.l1 k x0 x1 x2 x3 x10 x11 0) else (some (x10,true))
def spec_l5Join.l1:Nat→List (S31)→List (S31)→Int→Int→List (S31)→Int→Int→Option ((List (S31)) × Bool)
 | 0,_,_,_,_,_,_,_=>none
 | k + 1,x0,x1,x2,x3,x10,x11,x12=>if x12 < (x1.length:Int) then (if 0≤x11 then (if x11 < (x0.length:Int) then (if x2 ≥ (((rd_T31 x0 x11).f0).length:Int) then (some (x10,false)) else (if 0≤x12 then (if x3 ≥ (((rd_T31 x1 x12).f0).length:Int) then (some (x10,false)) else (if 0≤x2 then (if x2 < (((rd_T31 x0 x11).f0).length:Int) then (if 0≤x3 then (if x3 < (((rd_T31 x1 x12).f0).length:Int) then (if (rd ((rd_T31 x0 x11).f0) x2)=(rd ((rd_T31 x1 x12).f0) x3) then ((spec_RowJoin.f ((rd_T31 x0 x11).f0) ((rd_T31 x1 x12).f0)).bind fun t182=>((spec_l2Put.f k x10 t182 (wrap64 (((rd_T31 x0 x11).f1) * ((rd_T31 x1 x12).f1)))).bind fun t187=>(spec_l5Join.l1 k x0 x1 x2 x3 t187 x11 (wrap64 (x12 + 1))))) else (spec_l5Join.l1 k x0 x1 x2 x3 x10 x11 (wrap64 (x12 + 1)))) else (none)) else (none)) else (none)) else (none))) else (none))) else (none)) else (none)) else (spec_l5Join.l0 k x0 x1 x2 x3 x10 (wrap64 (x11 + 1)))
end
def spec_l5Join.f (k:Nat) (l0:List (S31)) (l1:List (S31)) (a2:Int) (a3:Int):Option ((List (S31)) × Bool):=spec_l5Join.l0 k l0 l1 a2 a3 (([]:List (S31))) 0
theorem spec_l5Join.mono_l : ∀ k,(∀ y0 y1 y2 y3 y4 y5,LeO (spec_l5Join.l0 k y0 y1 y2 y3 y4 y5) (spec_l5Join.l0 (k + 1) y0 y1 y2 y3 y4 y5))∧(∀ y0 y1 y2 y3 y4 y5 y6,LeO (spec_l5Join.l1 k y0 y1 y2 y3 y4 y5 y6) (spec_l5Join.l1 (k + 1) y0 y1 y2 y3 y4 y5 y6))
 | 0=>⟨fun _ _ _ _ _ _ r h=>by simp [spec_l5Join.l0] at h,fun _ _ _ _ _ _ _ r h=>by simp [spec_l5Join.l1] at h⟩
 | k + 1=>by
  obtain ⟨ih0,ih1⟩:=spec_l5Join.mono_l k
  refine ⟨?_,?_⟩
  ·intro y0 y1 y2 y3 y4 y5
   unfold spec_l5Join.l0
   repeat' first
   | (with_reducible exact ih0 _ _ _ _ _ _)
   | (with_reducible exact ih1 _ _ _ _ _ _ _)
   | (with_reducible exact spec_l2Put.mono _ _ _ _)
   | (with_reducible exact LeO.refl _)
   | (with_reducible exact LeO.none _)
   | (with_reducible refine LeO.ite ?_ ?_)
   | (with_reducible refine LeO.bind ?_ (fun _=>?_))
   | exact LeO.none _
   | refine LeO.ite ?_ ?_
   | refine LeO.bind ?_ (fun _=>?_)
  ·intro y0 y1 y2 y3 y4 y5 y6
   unfold spec_l5Join.l1
   repeat' first
   | (with_reducible exact ih0 _ _ _ _ _ _)
   | (with_reducible exact ih1 _ _ _ _ _ _ _)
   | (with_reducible exact spec_l2Put.mono _ _ _ _)
   | (with_reducible exact LeO.refl _)
   | (with_reducible exact LeO.none _)
   | (with_reducible refine LeO.ite ?_ ?_)
   | (with_reducible refine LeO.bind ?_ (fun _=>?_))
   | exact LeO.none _
   | refine LeO.ite ?_ ?_
   | refine LeO.bind ?_ (fun _=>?_)
theorem spec_l5Join.mono : ∀ a0 a1 a2 a3 k,LeO (spec_l5Join.f k a0 a1 a2 a3) (spec_l5Join.f (k + 1) a0 a1 a2 a3):=by
 intro a0 a1 a2 a3 k
 obtain ⟨ih0,ih1⟩:=spec_l5Join.mono_l k
 unfold spec_l5Join.f
 repeat' first
   | (with_reducible exact ih0 _ _ _ _ _ _)
   | (with_reducible exact ih1 _ _ _ _ _ _ _)
   | (with_reducible exact spec_l2Put.mono _ _ _ _)
   | (with_reducible exact LeO.refl _)
   | (with_reducible exact LeO.none _)
   | (with_reducible refine LeO.ite ?_ ?_)
   | (with_reducible refine LeO.bind ?_ (fun _=>?_))
   | exact LeO.none _
   | refine LeO.ite ?_ ?_
   | refine LeO.bind ?_ (fun _=>?_)
def spec_l5Join.T10:Bool × List (List Nat × List Nat):=(true,[([],[]),([],[]),([0,1],[0,1]),([2],[2]),([3],[3]),([],[]),([4,5],[4,5]),([6],[6]),([],[]),([],[]),([8,9],[8,9]),([10],[10]),([11],[11]),([],[]),([12,13],[12,13]),([14],[14]),([7,15],[7,15])])
def spec_l5Join.B10:List Nat:=[0,0,3,7,15,0,63,127,0,0,768,1792,3840,0,16128,32512,65535]
theorem spec_l5Join.tab10:rtab .any (opsOf Tryd.f30 10)=spec_l5Join.T10:=by kernel_rfl
theorem spec_l5Join.bits10:waitsOk spec_l5Join.T10.2 spec_l5Join.B10=true:=by kernel_rfl
def spec_l5Join.T11:Bool × List (List Nat × List Nat):=(true,[([],[]),([],[]),([],[]),([1,2],[1,2]),([3],[3]),([4],[4]),([],[]),([],[]),([6,7],[6,7]),([8],[8]),([9],[9]),([5,10],[5,10]),([],[]),([],[]),([12,13],[12,13]),([14],[14]),([15],[15]),([],[]),([],[]),([17,18],[17,18]),([19],[19]),([20],[20]),([16,21],[16,21]),([0,11,22,11],[0,11,22]),([23,23,0,1,2,3,4,5,6,7,8,9,10,11,12,13,14,15,16,17,18,19,20,21,22,23],[0,23])])
def spec_l5Join.B11:List Nat:=[0,0,0,6,14,30,0,0,192,448,960,2046,0,0,12288,28672,61440,0,0,393216,917504,1966080,4190208,8388607,16777215]
theorem spec_l5Join.tab11:rtab .any (opsOf Tryd.f30 11)=spec_l5Join.T11:=by kernel_rfl
theorem spec_l5Join.bits11:waitsOk spec_l5Join.T11.2 spec_l5Join.B11=true:=by kernel_rfl
set_option maxHeartbeats 8000000 in
set_option maxRecDepth 100000 in
theorem spec_l5Join.calls (k:Nat) (A0:Option Addr) (c0:Nat) (l0:List (S31)) (A1:Option Addr) (c1:Nat) (l1:List (S31)) (a2:Int) (a3:Int) (r1:List (S31)) (r2:Bool) (w:World) (hr0:Kd.C k31 w A0 l0.length l0) (hc0:l0.length≤c0) (hr1:Kd.C k31 w A1 l1.length l1) (hc1:l1.length≤c1) (h:spec_l5Join.f k l0 l1 a2 a3=some (r1,r2)) :
  Calls Tryd.prog 30 #[.slice A0 l0.length c0,.slice A1 l1.length c1,.int .i64 a2,.int .i64 a3] w fun e w'=>∃ v0_:Value,e=.returned (.tuple #[v0_,.bool r2])∧Kd.N k31 31 w' w.heap.size (fun k_=>(w.heap.size≤k_)) v0_ r1∧Below w.heap.size w w':=by
 have HR0:=Aside0.mk hr0
 have HC0:=Aside0.mk hc0
 clear hr0 hc0
 have HR1:=Aside0.mk hr1
 have HC1:=Aside0.mk hc1
 clear hr1 hc1
 have HB:=Aside0.mk (Below.refl w.heap.size w)
 have H:(spec_l5Join.l0 k l0 l1 a2 a3 (([]:List (S31))) 0)=some (r1,r2):=h
 clear h
 obtain ⟨y171,hy171⟩ : ∃ y_:List (S31),y_=(([]:List (S31))):=⟨_,rfl⟩
 replace H:(spec_l5Join.l0 k l0 l1 a2 a3 y171 0)=some (r1,r2):=by first|(rw [hy171];with_reducible exact H)|(have H2_:=(Option.bind_some _ _).symm.trans H;rw [hy171];with_reducible exact H2_)|(have H2_:=(Option.bind_some _ _).symm.trans H;with_reducible exact H2_)|with_reducible exact H|(rw [hy171];exact H)|exact H
 have Ny171:=Aside0.mk hy171
 clear hy171
 have H':=Aside0.mk H
 clear H
 go_enter Tryd.func30,Tryd.ntmps30
 go_wp2_with (first|((with_reducible refine gate_dst (N:=13) rfl ?_);(try (refine gate_guard (by rfl) ?_;dsimp only));refine Kd.N_lit k31 _ 31 ?hg (N':=13) ?hd (xs:=([]:List (S31))) (inner:=[]) (ok:=(fun k_=>(w.heap.size≤k_))) (okp:=(fun k_=>(w.heap.size≤k_))) ?hr ?hp (fun _ hk=>hk) ((show ∀ k_,w.heap.size≤k_→(fun k_=>(w.heap.size≤k_)) k_ from fun k_ hk=>(Nat.le_trans (below_size zhb) hk)) _ (Nat.le_refl _)) (Below.refl _ _) (Nat.le_refl _) (by simp) ?_;(case hd=>rfl);(case hg=>rfl);(case hr=>first|(go_simp;done)|(go_simp;rfl));(case hp=>exact (Reps.none _ _));intro v172 w5 ho6 hb hg_ hnew_;clear hg_ hnew_;(first|rw [← Ny171.out] at ho6|(simp only [Int.reduceToNat] at ho6;rw [← Ny171.out] at ho6));have n0_:=Aside0.mk (Kd.N_lower ho6 (below_size zhb));have n1_:=Aside0.mk (below_step zhb hb);clear HB;have HO173:=n0_;have HB:=n1_;clear n0_ n1_;clear hb ho6))
 go_loopg [10,11] k (fun kq v10 v11 w'=>∃ (x10_1:List (S31)) (x11_1:Int),v11=.int .i64 x11_1∧Aside0 (spec_l5Join.l0 kq l0 l1 a2 a3 x10_1 x11_1=some (r1,r2))∧Aside0 (kq≤k)∧Aside0 (Kd.N k31 31 w' w.heap.size (fun k_=>(w.heap.size≤k_)) v10 x10_1)∧Aside0 (Below w.heap.size w w'))
 case atStart=>exact ⟨(y171),(0),(by first|rfl|(simp;done)|(simp [*];done)),H',⟨Nat.le_refl _⟩,⟨by (with_reducible repeat (first|apply Kd.N_alloc|apply Kd.N_drewN|apply Kd.N_drew));exact HO173.out⟩,⟨zhb⟩⟩
 case round =>
  clear H'
  try clear c1
  try clear p2
  try clear c3
  obtain ⟨x10_1,x11_1,rfl,HA,HK1,HO_10,HB⟩:=hrel
  cases gk with
  | zero=>exact absurd HA.out (by simp [spec_l5Join.l0])
  | succ k1 =>
   have H:=HA.out
   clear HA
   simp only [spec_l5Join.l0] at H
   by_cases c7:x11_1 < (l0.length:Int)
   ·rw [if_pos c7] at H
    have c7b0:decide (x11_1 < (l0.length:Int))=true:=decide_eq_true c7
    clear c7
    have H':=Aside0.mk H
    clear H
    go_wp2
    go_loopg [10,12] k1 (fun kq v10 v12 w'=>∃ (x10_2:List (S31)) (x12_2:Int),v12=.int .i64 x12_2∧Aside0 (spec_l5Join.l1 kq l0 l1 a2 a3 x10_2 x11_1 x12_2=some (r1,r2))∧Aside0 (kq≤k1)∧Aside0 (Kd.N k31 31 w' w.heap.size (fun k_=>(w.heap.size≤k_)) v10 x10_2)∧Aside0 (Below w.heap.size w w'))
    case atStart=>exact ⟨(x10_1),(0),(by first|rfl|(simp;done)|(simp [*];done)),H',⟨Nat.le_refl _⟩,⟨by (with_reducible repeat (first|apply Kd.N_alloc|apply Kd.N_drewN|apply Kd.N_drew));exact HO_10.out⟩,⟨zhb⟩⟩
    case round =>
     clear H'
     try clear c1
     try clear p2
     try clear c3
     try clear c7
     try clear c7b0
     try clear p2
     obtain ⟨x10_2,x12_2,rfl,HA,HK2,HO_10,HB⟩:=hrel
     cases gk with
     | zero=>exact absurd HA.out (by simp [spec_l5Join.l1])
     | succ k2 =>
      have H:=HA.out
      clear HA
      simp only [spec_l5Join.l1] at H
      by_cases c8:x12_2 < (l1.length:Int)
      ·rw [if_pos c8] at H
       have c8b0:decide (x12_2 < (l1.length:Int))=true:=decide_eq_true c8
       clear c8
       by_cases c9:0≤x11_1
       ·rw [if_pos c9] at H
        have c9b0:decide (0≤x11_1)=true:=decide_eq_true c9
        clear c9
        by_cases c10:x11_1 < (l0.length:Int)
        ·rw [if_pos c10] at H
         have c10b0:decide (x11_1 < (l0.length:Int))=true:=decide_eq_true c10
         clear c10
         by_cases c11:a2 ≥ (((rd_T31 l0 x11_1).f0).length:Int)
         ·rw [if_pos c11] at H
          have c11b0:decide ((((rd_T31 l0 x11_1).f0).length:Int)≤a2)=true:=decide_eq_true c11
          clear c11
          simp only [Option.some.injEq,Prod.mk.injEq] at H
          obtain ⟨rfl,rfl⟩:=H
          have p174:0≤(x11_1:Int):=zod
          have q174:x11_1 < (l0.length:Int):=zod
          obtain ⟨ad174,A174_0,c174_0,e174,hx174_0,hx174_1,hl174_0,hi174_0⟩:=at_T31 HR0.out x11_1 p174 q174
          cases e174
          replace hx174_0:=(HB.out.cell (World.block_lt_of_cell? w _ hx174_0)).trans hx174_0
          replace hx174_1:=(HB.out.cell (World.block_lt_of_cell? w _ hx174_1)).trans hx174_1
          have HR174_0:=Aside0.mk hi174_0
          have HC174_0:=Aside0.mk hl174_0
          clear hi174_0 hl174_0
          replace p174:=eq_true p174
          replace q174:=eq_true q174
          go_wp2
          go_ret2
          exact ⟨_,by first|rfl|(simp [errW_none,errW_some] <;> rfl)|(simp [*,errW_none,errW_some] <;> rfl),by (with_reducible repeat (first|apply Kd.N_alloc|apply Kd.N_drewN|apply Kd.N_drew));exact HO_10.out,zhb⟩
         ·rw [if_neg c11] at H
          have c11b0:decide ((((rd_T31 l0 x11_1).f0).length:Int)≤a2)=false:=decide_eq_false c11
          clear c11
          by_cases c12:0≤x12_2
          ·rw [if_pos c12] at H
           have c12b0:decide (0≤x12_2)=true:=decide_eq_true c12
           clear c12
           by_cases c13:a3 ≥ (((rd_T31 l1 x12_2).f0).length:Int)
           ·rw [if_pos c13] at H
            have c13b0:decide ((((rd_T31 l1 x12_2).f0).length:Int)≤a3)=true:=decide_eq_true c13
            clear c13
            simp only [Option.some.injEq,Prod.mk.injEq] at H
            obtain ⟨rfl,rfl⟩:=H
            have p174:0≤(x11_1:Int):=zod
            have q174:x11_1 < (l0.length:Int):=zod
            obtain ⟨ad174,A174_0,c174_0,e174,hx174_0,hx174_1,hl174_0,hi174_0⟩:=at_T31 HR0.out x11_1 p174 q174
            cases e174
            replace hx174_0:=(HB.out.cell (World.block_lt_of_cell? w _ hx174_0)).trans hx174_0
            replace hx174_1:=(HB.out.cell (World.block_lt_of_cell? w _ hx174_1)).trans hx174_1
            have HR174_0:=Aside0.mk hi174_0
            have HC174_0:=Aside0.mk hl174_0
            clear hi174_0 hl174_0
            replace p174:=eq_true p174
            replace q174:=eq_true q174
            have p175:0≤(x12_2:Int):=zod
            have q175:x12_2 < (l1.length:Int):=zod
            obtain ⟨ad175,A175_0,c175_0,e175,hx175_0,hx175_1,hl175_0,hi175_0⟩:=at_T31 HR1.out x12_2 p175 q175
            cases e175
            replace hx175_0:=(HB.out.cell (World.block_lt_of_cell? w _ hx175_0)).trans hx175_0
            replace hx175_1:=(HB.out.cell (World.block_lt_of_cell? w _ hx175_1)).trans hx175_1
            have HR175_0:=Aside0.mk hi175_0
            have HC175_0:=Aside0.mk hl175_0
            clear hi175_0 hl175_0
            replace p175:=eq_true p175
            replace q175:=eq_true q175
            go_wp2
            go_ret2
            exact ⟨_,by first|rfl|(simp [errW_none,errW_some] <;> rfl)|(simp [*,errW_none,errW_some] <;> rfl),by (with_reducible repeat (first|apply Kd.N_alloc|apply Kd.N_drewN|apply Kd.N_drew));exact HO_10.out,zhb⟩
           ·rw [if_neg c13] at H
            have c13b0:decide ((((rd_T31 l1 x12_2).f0).length:Int)≤a3)=false:=decide_eq_false c13
            clear c13
            by_cases c14:0≤a2
            ·rw [if_pos c14] at H
             have c14b0:decide (0≤a2)=true:=decide_eq_true c14
             clear c14
             by_cases c15:a2 < (((rd_T31 l0 x11_1).f0).length:Int)
             ·rw [if_pos c15] at H
              have c15b0:decide (a2 < (((rd_T31 l0 x11_1).f0).length:Int))=true:=decide_eq_true c15
              clear c15
              by_cases c16:0≤a3
              ·rw [if_pos c16] at H
               have c16b0:decide (0≤a3)=true:=decide_eq_true c16
               clear c16
               by_cases c17:a3 < (((rd_T31 l1 x12_2).f0).length:Int)
               ·rw [if_pos c17] at H
                have c17b0:decide (a3 < (((rd_T31 l1 x12_2).f0).length:Int))=true:=decide_eq_true c17
                clear c17
                by_cases c18:(rd ((rd_T31 l0 x11_1).f0) a2)=(rd ((rd_T31 l1 x12_2).f0) a3)
                ·rw [if_pos c18] at H
                 have c18b0:((rd ((rd_T31 l0 x11_1).f0) a2) == (rd ((rd_T31 l1 x12_2).f0) a3))=true:=beq_iff_eq.mpr c18
                 have c18b1:((rd ((rd_T31 l0 x11_1).f0) a2) != (rd ((rd_T31 l1 x12_2).f0) a3))=false:=bne_eq_false_iff_eq.mpr c18
                 clear c18
                 replace H:=Option.bind_eq_some_iff.mp H
                 obtain ⟨t182,A190,H⟩:=H
                 (try dsimp only at H)
                 have A19:=Aside0.mk A190
                 clear A190
                 replace H:=Option.bind_eq_some_iff.mp H
                 obtain ⟨t187,A200,H⟩:=H
                 (try dsimp only at H)
                 have A20:=Aside0.mk A200
                 clear A200
                 have H':=Aside0.mk H
                 clear H
                 have p174:0≤(x11_1:Int):=zod
                 have q174:x11_1 < (l0.length:Int):=zod
                 obtain ⟨ad174,A174_0,c174_0,e174,hx174_0,hx174_1,hl174_0,hi174_0⟩:=at_T31 HR0.out x11_1 p174 q174
                 cases e174
                 replace hx174_0:=(HB.out.cell (World.block_lt_of_cell? w _ hx174_0)).trans hx174_0
                 replace hx174_1:=(HB.out.cell (World.block_lt_of_cell? w _ hx174_1)).trans hx174_1
                 have HR174_0:=Aside0.mk hi174_0
                 have HC174_0:=Aside0.mk hl174_0
                 clear hi174_0 hl174_0
                 replace p174:=eq_true p174
                 replace q174:=eq_true q174
                 have p175:0≤(x12_2:Int):=zod
                 have q175:x12_2 < (l1.length:Int):=zod
                 obtain ⟨ad175,A175_0,c175_0,e175,hx175_0,hx175_1,hl175_0,hi175_0⟩:=at_T31 HR1.out x12_2 p175 q175
                 cases e175
                 replace hx175_0:=(HB.out.cell (World.block_lt_of_cell? w _ hx175_0)).trans hx175_0
                 replace hx175_1:=(HB.out.cell (World.block_lt_of_cell? w _ hx175_1)).trans hx175_1
                 have HR175_0:=Aside0.mk hi175_0
                 have HC175_0:=Aside0.mk hl175_0
                 clear hi175_0 hl175_0
                 replace p175:=eq_true p175
                 replace q175:=eq_true q175
                 try go_wp2
                 have n0_:=Aside0.mk (Kd.N_drew HO_10.out)
                 have n1_:=Aside0.mk (below_drew1 HB.out)
                 clear HO_10
                 clear HB
                 have HO_10:=n0_
                 have HB:=n1_
                 clear n0_ n1_
                 have p176:0≤(x11_1:Int):=zod
                 have q176:x11_1 < (l0.length:Int):=zod
                 obtain ⟨ad176,A176_0,c176_0,e176,hx176_0,hx176_1,hl176_0,hi176_0⟩:=at_T31 HR0.out x11_1 p176 q176
                 have hw176_1:=hx176_1
                 have hw176_0:=hx176_0
                 obtain rfl:ad174=ad176:=(by injection e176)
                 replace hx176_0:=(HB.out.cell (World.block_lt_of_cell? w _ hx176_0)).trans hx176_0
                 replace hx176_1:=(HB.out.cell (World.block_lt_of_cell? w _ hx176_1)).trans hx176_1
                 have HR176_0:=Aside0.mk hi176_0
                 have HC176_0:=Aside0.mk hl176_0
                 clear hi176_0 hl176_0
                 replace p176:=eq_true p176
                 replace q176:=eq_true q176
                 have p177:0≤(a2:Int):=zod
                 have q177:a2 < (((rd_T31 l0 x11_1).f0).length:Int):=zod
                 obtain ⟨ad177,e177,hx177_0⟩:=Kd.at_int HR176_0.out a2 p177 q177
                 have hw177_0:=hx177_0
                 cases e177
                 replace hx177_0:=(HB.out.cell (World.block_lt_of_cell? w _ hx177_0)).trans hx177_0
                 replace p177:=eq_true p177
                 replace q177:=eq_true q177
                 have p178:0≤(x12_2:Int):=zod
                 have q178:x12_2 < (l1.length:Int):=zod
                 obtain ⟨ad178,A178_0,c178_0,e178,hx178_0,hx178_1,hl178_0,hi178_0⟩:=at_T31 HR1.out x12_2 p178 q178
                 have hw178_1:=hx178_1
                 have hw178_0:=hx178_0
                 obtain rfl:ad175=ad178:=(by injection e178)
                 replace hx178_0:=(HB.out.cell (World.block_lt_of_cell? w _ hx178_0)).trans hx178_0
                 replace hx178_1:=(HB.out.cell (World.block_lt_of_cell? w _ hx178_1)).trans hx178_1
                 have HR178_0:=Aside0.mk hi178_0
                 have HC178_0:=Aside0.mk hl178_0
                 clear hi178_0 hl178_0
                 replace p178:=eq_true p178
                 replace q178:=eq_true q178
                 have p179:0≤(a3:Int):=zod
                 have q179:a3 < (((rd_T31 l1 x12_2).f0).length:Int):=zod
                 obtain ⟨ad179,e179,hx179_0⟩:=Kd.at_int HR178_0.out a3 p179 q179
                 have hw179_0:=hx179_0
                 cases e179
                 replace hx179_0:=(HB.out.cell (World.block_lt_of_cell? w _ hx179_0)).trans hx179_0
                 replace p179:=eq_true p179
                 replace q179:=eq_true q179
                 refine start_ (n:=17) (S:=fun w'=>w'.cell? (ad174.add ((x11_1).toNat * 2))=some (.slice (some ad177) ((rd_T31 l0 x11_1).f0).length c176_0)∧w'.cell? ⟨(ad174.add ((x11_1).toNat * 2)).block,(ad174.add ((x11_1).toNat * 2)).off + 1,none⟩=some (.int .i64 ((rd_T31 l0 x11_1).f1))∧w'.cell? (ad177.add (a2).toNat)=some (.int .i64 (rd ((rd_T31 l0 x11_1).f0) a2))∧w'.cell? (ad175.add ((x12_2).toNat * 2))=some (.slice (some ad179) ((rd_T31 l1 x12_2).f0).length c178_0)∧w'.cell? ⟨(ad175.add ((x12_2).toNat * 2)).block,(ad175.add ((x12_2).toNat * 2)).off + 1,none⟩=some (.int .i64 ((rd_T31 l1 x12_2).f1))∧w'.cell? (ad179.add (a3).toNat)=some (.int .i64 (rd ((rd_T31 l1 x12_2).f0) a3))) (ds:=[]) #[X,X,X,X,X,X,X,X,X,X,X,X,X,X,X,X,X] (by kernel_rfl) rfl rfl ⟨((HB.out.cell (World.block_lt_of_cell? w _ hw176_0)).trans hw176_0),((HB.out.cell (World.block_lt_of_cell? w _ hw176_1)).trans hw176_1),((HB.out.cell (World.block_lt_of_cell? w _ hw177_0)).trans hw177_0),((HB.out.cell (World.block_lt_of_cell? w _ hw178_0)).trans hw178_0),((HB.out.cell (World.block_lt_of_cell? w _ hw178_1)).trans hw178_1),((HB.out.cell (World.block_lt_of_cell? w _ hw179_0)).trans hw179_0)⟩ (fun hHeld=>?_);refine with_tabW spec_l5Join.tab10 spec_l5Join.bits10 (fun HT_ HW_=>?_)
                 generalize wr.drew=w21 at HO_10 HB HR176_0 HR178_0 hx176_0 hx176_1 hx177_0 hx178_0 hx178_1 hx179_0 hHeld ⊢
                 refine pure_ (i:=0) (N:=some 45) (v:=?_) (a':=?_) #[Y,X,X,X,X,X,X,X,X,X,X,X,X,X,X,X,X] rfl rfl zan (fun _ _ _ h=>h) (Or.inl ⟨by rfl,?_⟩) ?_ ?_
                 rotate_left
                 ·intro w'
                  go_simp
                  with_reducible rfl
                 rotate_left
                 ·simp only [Act.put,zp1,zp2,zp3,i64_w,i32_w]
                  rfl
                 refine pure_ (i:=1) (N:=some 46) (v:=?_) (a':=?_) #[Y,Y,X,X,X,X,X,X,X,X,X,X,X,X,X,X,X] rfl rfl zan (fun _ _ _ h=>h) (Or.inl ⟨by rfl,?_⟩) ?_ ?_
                 rotate_left
                 ·intro w'
                  go_simp
                  with_reducible rfl
                 rotate_left
                 ·simp only [Act.put,zp1,zp2,zp3,i64_w,i32_w]
                  rfl
                 refine pure_ (i:=2) (N:=some 47) (v:=?_) (a':=?_) #[Y,Y,Y,X,X,X,X,X,X,X,X,X,X,X,X,X,X] rfl rfl zan (fun _ _ _ h=>h) (Or.inl ⟨by rfl,?_⟩) ?_ ?_
                 rotate_left
                 ·intro w'
                  go_simp
                  with_reducible rfl
                 rotate_left
                 ·simp only [Act.put,zp1,zp2,zp3,i64_w,i32_w]
                  rfl
                 refine pure_ (i:=3) (N:=some 48) (v:=?_) (a':=?_) #[Y,Y,Y,Y,X,X,X,X,X,X,X,X,X,X,X,X,X] rfl rfl zan (fun _ _ _ h=>h) (Or.inl ⟨by rfl,?_⟩) ?_ ?_
                 rotate_left
                 ·intro w'
                  go_simp
                  with_reducible rfl
                 rotate_left
                 ·simp only [Act.put,zp1,zp2,zp3,i64_w,i32_w]
                  rfl
                 refine pure_ (i:=5) (N:=some 50) (v:=?_) (a':=?_) #[Y,Y,Y,Y,X,Y,X,X,X,X,X,X,X,X,X,X,X] rfl rfl zan (fun _ _ _ h=>h) (Or.inl ⟨by rfl,?_⟩) ?_ ?_
                 rotate_left
                 ·intro w'
                  go_simp
                  with_reducible rfl
                 rotate_left
                 ·simp only [Act.put,zp1,zp2,zp3,i64_w,i32_w]
                  rfl
                 refine pure_ (i:=8) (N:=some 53) (v:=?_) (a':=?_) #[Y,Y,Y,Y,X,Y,X,X,Y,X,X,X,X,X,X,X,X] rfl rfl zan (fun _ _ _ h=>h) (Or.inl ⟨by rfl,?_⟩) ?_ ?_
                 rotate_left
                 ·intro w'
                  go_simp
                  with_reducible rfl
                 rotate_left
                 ·simp only [Act.put,zp1,zp2,zp3,i64_w,i32_w]
                  rfl
                 refine pure_ (i:=9) (N:=some 54) (v:=?_) (a':=?_) #[Y,Y,Y,Y,X,Y,X,X,Y,Y,X,X,X,X,X,X,X] rfl rfl zan (fun _ _ _ h=>h) (Or.inl ⟨by rfl,?_⟩) ?_ ?_
                 rotate_left
                 ·intro w'
                  go_simp
                  with_reducible rfl
                 rotate_left
                 ·simp only [Act.put,zp1,zp2,zp3,i64_w,i32_w]
                  rfl
                 refine pure_ (i:=10) (N:=some 55) (v:=?_) (a':=?_) #[Y,Y,Y,Y,X,Y,X,X,Y,Y,Y,X,X,X,X,X,X] rfl rfl zan (fun _ _ _ h=>h) (Or.inl ⟨by rfl,?_⟩) ?_ ?_
                 rotate_left
                 ·intro w'
                  go_simp
                  with_reducible rfl
                 rotate_left
                 ·simp only [Act.put,zp1,zp2,zp3,i64_w,i32_w]
                  rfl
                 refine pure_ (i:=11) (N:=some 56) (v:=?_) (a':=?_) #[Y,Y,Y,Y,X,Y,X,X,Y,Y,Y,Y,X,X,X,X,X] rfl rfl zan (fun _ _ _ h=>h) (Or.inl ⟨by rfl,?_⟩) ?_ ?_
                 rotate_left
                 ·intro w'
                  go_simp
                  with_reducible rfl
                 rotate_left
                 ·simp only [Act.put,zp1,zp2,zp3,i64_w,i32_w]
                  rfl
                 refine pure_ (i:=13) (N:=some 58) (v:=?_) (a':=?_) #[Y,Y,Y,Y,X,Y,X,X,Y,Y,Y,Y,X,Y,X,X,X] rfl rfl zan (fun _ _ _ h=>h) (Or.inl ⟨by rfl,?_⟩) ?_ ?_
                 rotate_left
                 ·intro w'
                  go_simp
                  with_reducible rfl
                 rotate_left
                 ·simp only [Act.put,zp1,zp2,zp3,i64_w,i32_w]
                  rfl
                 refine take_ (i:=4) (N:=some 49) (v:=?_) (a':=?_) #[Y,Y,Y,Y,Y,Y,X,X,Y,Y,Y,Y,X,Y,X,X,X] rfl rfl ztw (fun _ _ _ h=>h) (Or.inl ⟨by rfl,?_⟩) hHeld ?_ ?_
                 rotate_left
                 ·rintro w' ⟨s0,s1,s2,s3,s4,s5⟩
                  go_simp
                  with_reducible rfl
                 rotate_left
                 ·simp only [Act.put,zp1,zp2,zp3,i64_w,i32_w]
                  rfl
                 refine pure_ (i:=6) (N:=some 51) (v:=?_) (a':=?_) #[Y,Y,Y,Y,Y,Y,Y,X,Y,Y,Y,Y,X,Y,X,X,X] rfl rfl zan (fun _ _ _ h=>h) (Or.inl ⟨by rfl,?_⟩) ?_ ?_
                 rotate_left
                 ·intro w'
                  go_simp
                  with_reducible rfl
                 rotate_left
                 ·simp only [Act.put,zp1,zp2,zp3,i64_w,i32_w]
                  rfl
                 refine take_ (i:=7) (N:=some 52) (v:=?_) (a':=?_) #[Y,Y,Y,Y,Y,Y,Y,Y,Y,Y,Y,Y,X,Y,X,X,X] rfl rfl ztw (fun _ _ _ h=>h) (Or.inl ⟨by rfl,?_⟩) hHeld ?_ ?_
                 rotate_left
                 ·rintro w' ⟨s0,s1,s2,s3,s4,s5⟩
                  go_simp
                  with_reducible rfl
                 rotate_left
                 ·simp only [Act.put,zp1,zp2,zp3,i64_w,i32_w]
                  rfl
                 refine take_ (i:=12) (N:=some 57) (v:=?_) (a':=?_) #[Y,Y,Y,Y,Y,Y,Y,Y,Y,Y,Y,Y,Y,Y,X,X,X] rfl rfl ztw (fun _ _ _ h=>h) (Or.inl ⟨by rfl,?_⟩) hHeld ?_ ?_
                 rotate_left
                 ·rintro w' ⟨s0,s1,s2,s3,s4,s5⟩
                  go_simp
                  with_reducible rfl
                 rotate_left
                 ·simp only [Act.put,zp1,zp2,zp3,i64_w,i32_w]
                  rfl
                 refine pure_ (i:=14) (N:=some 59) (v:=?_) (a':=?_) #[Y,Y,Y,Y,Y,Y,Y,Y,Y,Y,Y,Y,Y,Y,Y,X,X] rfl rfl zan (fun _ _ _ h=>h) (Or.inl ⟨by rfl,?_⟩) ?_ ?_
                 rotate_left
                 ·intro w'
                  go_simp
                  with_reducible rfl
                 rotate_left
                 ·simp only [Act.put,zp1,zp2,zp3,i64_w,i32_w]
                  rfl
                 refine take_ (i:=15) (N:=some 60) (v:=?_) (a':=?_) #[Y,Y,Y,Y,Y,Y,Y,Y,Y,Y,Y,Y,Y,Y,Y,Y,X] rfl rfl ztw (fun _ _ _ h=>h) (Or.inl ⟨by rfl,?_⟩) hHeld ?_ ?_
                 rotate_left
                 ·rintro w' ⟨s0,s1,s2,s3,s4,s5⟩
                  go_simp
                  with_reducible rfl
                 rotate_left
                 ·simp only [Act.put,zp1,zp2,zp3,i64_w,i32_w]
                  rfl
                 refine pure_ (i:=16) (N:=some 61) (v:=?_) (a':=?_) #[Y,Y,Y,Y,Y,Y,Y,Y,Y,Y,Y,Y,Y,Y,Y,Y,Y] rfl rfl zan (fun _ _ _ h=>h) (Or.inl ⟨by rfl,?_⟩) ?_ ?_
                 rotate_left
                 ·intro w'
                  go_simp
                  with_reducible rfl
                 rotate_left
                 ·simp only [Act.put,zp1,zp2,zp3,i64_w,i32_w]
                  rfl
                 refine done_ (done_of HT_.out (by kernel_rfl)) ?_
                 try go_wp2
                 have n0_:=Aside0.mk (Kd.N_drew HO_10.out)
                 have n1_:=Aside0.mk (below_drew1 HB.out)
                 clear HO_10
                 clear HB
                 have HO_10:=n0_
                 have HB:=n1_
                 clear n0_ n1_
                 have p180:0≤(x11_1:Int):=zod
                 have q180:x11_1 < (l0.length:Int):=zod
                 obtain ⟨ad180,A180_0,c180_0,e180,hx180_0,hx180_1,hl180_0,hi180_0⟩:=at_T31 HR0.out x11_1 p180 q180
                 have hw180_1:=hx180_1
                 have hw180_0:=hx180_0
                 obtain rfl:ad174=ad180:=(by injection e180)
                 replace hx180_0:=(HB.out.cell (World.block_lt_of_cell? w _ hx180_0)).trans hx180_0
                 replace hx180_1:=(HB.out.cell (World.block_lt_of_cell? w _ hx180_1)).trans hx180_1
                 have HR180_0:=Aside0.mk hi180_0
                 have HC180_0:=Aside0.mk hl180_0
                 clear hi180_0 hl180_0
                 replace p180:=eq_true p180
                 replace q180:=eq_true q180
                 have p181:0≤(x12_2:Int):=zod
                 have q181:x12_2 < (l1.length:Int):=zod
                 obtain ⟨ad181,A181_0,c181_0,e181,hx181_0,hx181_1,hl181_0,hi181_0⟩:=at_T31 HR1.out x12_2 p181 q181
                 have hw181_1:=hx181_1
                 have hw181_0:=hx181_0
                 obtain rfl:ad175=ad181:=(by injection e181)
                 replace hx181_0:=(HB.out.cell (World.block_lt_of_cell? w _ hx181_0)).trans hx181_0
                 replace hx181_1:=(HB.out.cell (World.block_lt_of_cell? w _ hx181_1)).trans hx181_1
                 have HR181_0:=Aside0.mk hi181_0
                 have HC181_0:=Aside0.mk hl181_0
                 clear hi181_0 hl181_0
                 replace p181:=eq_true p181
                 replace q181:=eq_true q181
                 have p185:0≤(x11_1:Int):=zod
                 have q185:x11_1 < (l0.length:Int):=zod
                 obtain ⟨ad185,A185_0,c185_0,e185,hx185_0,hx185_1,hl185_0,hi185_0⟩:=at_T31 HR0.out x11_1 p185 q185
                 have hw185_1:=hx185_1
                 have hw185_0:=hx185_0
                 obtain rfl:ad174=ad185:=(by injection e185)
                 replace hx185_0:=(HB.out.cell (World.block_lt_of_cell? w _ hx185_0)).trans hx185_0
                 replace hx185_1:=(HB.out.cell (World.block_lt_of_cell? w _ hx185_1)).trans hx185_1
                 have HR185_0:=Aside0.mk hi185_0
                 have HC185_0:=Aside0.mk hl185_0
                 clear hi185_0 hl185_0
                 replace p185:=eq_true p185
                 replace q185:=eq_true q185
                 have ea_:=Option.some.inj (hx180_0.symm.trans hx185_0)
                 injection ea_ with ea_ en_ ec_
                 subst ea_
                 subst ec_
                 clear en_
                 have p186:0≤(x12_2:Int):=zod
                 have q186:x12_2 < (l1.length:Int):=zod
                 obtain ⟨ad186,A186_0,c186_0,e186,hx186_0,hx186_1,hl186_0,hi186_0⟩:=at_T31 HR1.out x12_2 p186 q186
                 have hw186_1:=hx186_1
                 have hw186_0:=hx186_0
                 obtain rfl:ad175=ad186:=(by injection e186)
                 replace hx186_0:=(HB.out.cell (World.block_lt_of_cell? w _ hx186_0)).trans hx186_0
                 replace hx186_1:=(HB.out.cell (World.block_lt_of_cell? w _ hx186_1)).trans hx186_1
                 have HR186_0:=Aside0.mk hi186_0
                 have HC186_0:=Aside0.mk hl186_0
                 clear hi186_0 hl186_0
                 replace p186:=eq_true p186
                 replace q186:=eq_true q186
                 have ea_:=Option.some.inj (hx181_0.symm.trans hx186_0)
                 injection ea_ with ea_ en_ ec_
                 subst ea_
                 subst ec_
                 clear en_
                 refine start_ (n:=25) (S:=fun w'=>w'.cell? (ad174.add ((x11_1).toNat * 2))=some (.slice A180_0 ((rd_T31 l0 x11_1).f0).length c180_0)∧w'.cell? ⟨(ad174.add ((x11_1).toNat * 2)).block,(ad174.add ((x11_1).toNat * 2)).off + 1,none⟩=some (.int .i64 ((rd_T31 l0 x11_1).f1))∧w'.cell? (ad175.add ((x12_2).toNat * 2))=some (.slice A181_0 ((rd_T31 l1 x12_2).f0).length c181_0)∧w'.cell? ⟨(ad175.add ((x12_2).toNat * 2)).block,(ad175.add ((x12_2).toNat * 2)).off + 1,none⟩=some (.int .i64 ((rd_T31 l1 x12_2).f1))∧w'.cell? (ad174.add ((x11_1).toNat * 2))=some (.slice A180_0 ((rd_T31 l0 x11_1).f0).length c180_0)∧w'.cell? ⟨(ad174.add ((x11_1).toNat * 2)).block,(ad174.add ((x11_1).toNat * 2)).off + 1,none⟩=some (.int .i64 ((rd_T31 l0 x11_1).f1))∧w'.cell? (ad175.add ((x12_2).toNat * 2))=some (.slice A181_0 ((rd_T31 l1 x12_2).f0).length c181_0)∧w'.cell? ⟨(ad175.add ((x12_2).toNat * 2)).block,(ad175.add ((x12_2).toNat * 2)).off + 1,none⟩=some (.int .i64 ((rd_T31 l1 x12_2).f1))) (ds:=[]) #[X,X,X,X,X,X,X,X,X,X,X,X,X,X,X,X,X,X,X,X,X,X,X,X,X] (by kernel_rfl) rfl rfl ⟨((HB.out.cell (World.block_lt_of_cell? w _ hw180_0)).trans hw180_0),((HB.out.cell (World.block_lt_of_cell? w _ hw180_1)).trans hw180_1),((HB.out.cell (World.block_lt_of_cell? w _ hw181_0)).trans hw181_0),((HB.out.cell (World.block_lt_of_cell? w _ hw181_1)).trans hw181_1),((HB.out.cell (World.block_lt_of_cell? w _ hw185_0)).trans hw185_0),((HB.out.cell (World.block_lt_of_cell? w _ hw185_1)).trans hw185_1),((HB.out.cell (World.block_lt_of_cell? w _ hw186_0)).trans hw186_0),((HB.out.cell (World.block_lt_of_cell? w _ hw186_1)).trans hw186_1)⟩ (fun hHeld=>?_);refine with_tabW spec_l5Join.tab11 spec_l5Join.bits11 (fun HT_ HW_=>?_)
                 generalize w21.drew=w22 at HO_10 HB HR180_0 HR181_0 HR185_0 HR186_0 hx180_0 hx180_1 hx181_0 hx181_1 hx185_0 hx185_1 hx186_0 hx186_1 hHeld ⊢
                 refine pure_ (i:=0) (N:=some 62) (v:=?_) (a':=?_) #[Y,X,X,X,X,X,X,X,X,X,X,X,X,X,X,X,X,X,X,X,X,X,X,X,X] rfl rfl zan (fun _ _ _ h=>h) (Or.inl ⟨by rfl,?_⟩) ?_ ?_
                 rotate_left
                 ·intro w'
                  go_simp
                  with_reducible rfl
                 rotate_left
                 ·simp only [Act.put,zp1,zp2,zp3,i64_w,i32_w]
                  rfl
                 refine pure_ (i:=1) (N:=some 63) (v:=?_) (a':=?_) #[Y,Y,X,X,X,X,X,X,X,X,X,X,X,X,X,X,X,X,X,X,X,X,X,X,X] rfl rfl zan (fun _ _ _ h=>h) (Or.inl ⟨by rfl,?_⟩) ?_ ?_
                 rotate_left
                 ·intro w'
                  go_simp
                  with_reducible rfl
                 rotate_left
                 ·simp only [Act.put,zp1,zp2,zp3,i64_w,i32_w]
                  rfl
                 refine pure_ (i:=2) (N:=some 64) (v:=?_) (a':=?_) #[Y,Y,Y,X,X,X,X,X,X,X,X,X,X,X,X,X,X,X,X,X,X,X,X,X,X] rfl rfl zan (fun _ _ _ h=>h) (Or.inl ⟨by rfl,?_⟩) ?_ ?_
                 rotate_left
                 ·intro w'
                  go_simp
                  with_reducible rfl
                 rotate_left
                 ·simp only [Act.put,zp1,zp2,zp3,i64_w,i32_w]
                  rfl
                 refine pure_ (i:=3) (N:=some 65) (v:=?_) (a':=?_) #[Y,Y,Y,Y,X,X,X,X,X,X,X,X,X,X,X,X,X,X,X,X,X,X,X,X,X] rfl rfl zan (fun _ _ _ h=>h) (Or.inl ⟨by rfl,?_⟩) ?_ ?_
                 rotate_left
                 ·intro w'
                  go_simp
                  with_reducible rfl
                 rotate_left
                 ·simp only [Act.put,zp1,zp2,zp3,i64_w,i32_w]
                  rfl
                 refine pure_ (i:=4) (N:=some 66) (v:=?_) (a':=?_) #[Y,Y,Y,Y,Y,X,X,X,X,X,X,X,X,X,X,X,X,X,X,X,X,X,X,X,X] rfl rfl zan (fun _ _ _ h=>h) (Or.inl ⟨by rfl,?_⟩) ?_ ?_
                 rotate_left
                 ·intro w'
                  go_simp
                  with_reducible rfl
                 rotate_left
                 ·simp only [Act.put,zp1,zp2,zp3,i64_w,i32_w]
                  rfl
                 refine pure_ (i:=6) (N:=some 68) (v:=?_) (a':=?_) #[Y,Y,Y,Y,Y,X,Y,X,X,X,X,X,X,X,X,X,X,X,X,X,X,X,X,X,X] rfl rfl zan (fun _ _ _ h=>h) (Or.inl ⟨by rfl,?_⟩) ?_ ?_
                 rotate_left
                 ·intro w'
                  go_simp
                  with_reducible rfl
                 rotate_left
                 ·simp only [Act.put,zp1,zp2,zp3,i64_w,i32_w]
                  rfl
                 refine pure_ (i:=7) (N:=some 69) (v:=?_) (a':=?_) #[Y,Y,Y,Y,Y,X,Y,Y,X,X,X,X,X,X,X,X,X,X,X,X,X,X,X,X,X] rfl rfl zan (fun _ _ _ h=>h) (Or.inl ⟨by rfl,?_⟩) ?_ ?_
                 rotate_left
                 ·intro w'
                  go_simp
                  with_reducible rfl
                 rotate_left
                 ·simp only [Act.put,zp1,zp2,zp3,i64_w,i32_w]
                  rfl
                 refine pure_ (i:=8) (N:=some 70) (v:=?_) (a':=?_) #[Y,Y,Y,Y,Y,X,Y,Y,Y,X,X,X,X,X,X,X,X,X,X,X,X,X,X,X,X] rfl rfl zan (fun _ _ _ h=>h) (Or.inl ⟨by rfl,?_⟩) ?_ ?_
                 rotate_left
                 ·intro w'
                  go_simp
                  with_reducible rfl
                 rotate_left
                 ·simp only [Act.put,zp1,zp2,zp3,i64_w,i32_w]
                  rfl
                 refine pure_ (i:=9) (N:=some 71) (v:=?_) (a':=?_) #[Y,Y,Y,Y,Y,X,Y,Y,Y,Y,X,X,X,X,X,X,X,X,X,X,X,X,X,X,X] rfl rfl zan (fun _ _ _ h=>h) (Or.inl ⟨by rfl,?_⟩) ?_ ?_
                 rotate_left
                 ·intro w'
                  go_simp
                  with_reducible rfl
                 rotate_left
                 ·simp only [Act.put,zp1,zp2,zp3,i64_w,i32_w]
                  rfl
                 refine pure_ (i:=12) (N:=some 74) (v:=?_) (a':=?_) #[Y,Y,Y,Y,Y,X,Y,Y,Y,Y,X,X,Y,X,X,X,X,X,X,X,X,X,X,X,X] rfl rfl zan (fun _ _ _ h=>h) (Or.inl ⟨by rfl,?_⟩) ?_ ?_
                 rotate_left
                 ·intro w'
                  go_simp
                  with_reducible rfl
                 rotate_left
                 ·simp only [Act.put,zp1,zp2,zp3,i64_w,i32_w]
                  rfl
                 refine pure_ (i:=13) (N:=some 75) (v:=?_) (a':=?_) #[Y,Y,Y,Y,Y,X,Y,Y,Y,Y,X,X,Y,Y,X,X,X,X,X,X,X,X,X,X,X] rfl rfl zan (fun _ _ _ h=>h) (Or.inl ⟨by rfl,?_⟩) ?_ ?_
                 rotate_left
                 ·intro w'
                  go_simp
                  with_reducible rfl
                 rotate_left
                 ·simp only [Act.put,zp1,zp2,zp3,i64_w,i32_w]
                  rfl
                 refine pure_ (i:=14) (N:=some 76) (v:=?_) (a':=?_) #[Y,Y,Y,Y,Y,X,Y,Y,Y,Y,X,X,Y,Y,Y,X,X,X,X,X,X,X,X,X,X] rfl rfl zan (fun _ _ _ h=>h) (Or.inl ⟨by rfl,?_⟩) ?_ ?_
                 rotate_left
                 ·intro w'
                  go_simp
                  with_reducible rfl
                 rotate_left
                 ·simp only [Act.put,zp1,zp2,zp3,i64_w,i32_w]
                  rfl
                 refine pure_ (i:=15) (N:=some 77) (v:=?_) (a':=?_) #[Y,Y,Y,Y,Y,X,Y,Y,Y,Y,X,X,Y,Y,Y,Y,X,X,X,X,X,X,X,X,X] rfl rfl zan (fun _ _ _ h=>h) (Or.inl ⟨by rfl,?_⟩) ?_ ?_
                 rotate_left
                 ·intro w'
                  go_simp
                  with_reducible rfl
                 rotate_left
                 ·simp only [Act.put,zp1,zp2,zp3,i64_w,i32_w]
                  rfl
                 refine pure_ (i:=17) (N:=some 79) (v:=?_) (a':=?_) #[Y,Y,Y,Y,Y,X,Y,Y,Y,Y,X,X,Y,Y,Y,Y,X,Y,X,X,X,X,X,X,X] rfl rfl zan (fun _ _ _ h=>h) (Or.inl ⟨by rfl,?_⟩) ?_ ?_
                 rotate_left
                 ·intro w'
                  go_simp
                  with_reducible rfl
                 rotate_left
                 ·simp only [Act.put,zp1,zp2,zp3,i64_w,i32_w]
                  rfl
                 refine pure_ (i:=18) (N:=some 80) (v:=?_) (a':=?_) #[Y,Y,Y,Y,Y,X,Y,Y,Y,Y,X,X,Y,Y,Y,Y,X,Y,Y,X,X,X,X,X,X] rfl rfl zan (fun _ _ _ h=>h) (Or.inl ⟨by rfl,?_⟩) ?_ ?_
                 rotate_left
                 ·intro w'
                  go_simp
                  with_reducible rfl
                 rotate_left
                 ·simp only [Act.put,zp1,zp2,zp3,i64_w,i32_w]
                  rfl
                 refine pure_ (i:=19) (N:=some 81) (v:=?_) (a':=?_) #[Y,Y,Y,Y,Y,X,Y,Y,Y,Y,X,X,Y,Y,Y,Y,X,Y,Y,Y,X,X,X,X,X] rfl rfl zan (fun _ _ _ h=>h) (Or.inl ⟨by rfl,?_⟩) ?_ ?_
                 rotate_left
                 ·intro w'
                  go_simp
                  with_reducible rfl
                 rotate_left
                 ·simp only [Act.put,zp1,zp2,zp3,i64_w,i32_w]
                  rfl
                 refine pure_ (i:=20) (N:=some 82) (v:=?_) (a':=?_) #[Y,Y,Y,Y,Y,X,Y,Y,Y,Y,X,X,Y,Y,Y,Y,X,Y,Y,Y,Y,X,X,X,X] rfl rfl zan (fun _ _ _ h=>h) (Or.inl ⟨by rfl,?_⟩) ?_ ?_
                 rotate_left
                 ·intro w'
                  go_simp
                  with_reducible rfl
                 rotate_left
                 ·simp only [Act.put,zp1,zp2,zp3,i64_w,i32_w]
                  rfl
                 refine take_ (i:=5) (N:=some 67) (v:=?_) (a':=?_) #[Y,Y,Y,Y,Y,Y,Y,Y,Y,Y,X,X,Y,Y,Y,Y,X,Y,Y,Y,Y,X,X,X,X] rfl rfl ztw (fun _ _ _ h=>h) (Or.inl ⟨by rfl,?_⟩) hHeld ?_ ?_
                 rotate_left
                 ·rintro w' ⟨s0,s1,s2,s3,s4,s5,s6,s7⟩
                  go_simp
                  with_reducible rfl
                 rotate_left
                 ·simp only [Act.put,zp1,zp2,zp3,i64_w,i32_w]
                  rfl
                 refine take_ (i:=10) (N:=some 72) (v:=?_) (a':=?_) #[Y,Y,Y,Y,Y,Y,Y,Y,Y,Y,Y,X,Y,Y,Y,Y,X,Y,Y,Y,Y,X,X,X,X] rfl rfl ztw (fun _ _ _ h=>h) (Or.inl ⟨by rfl,?_⟩) hHeld ?_ ?_
                 rotate_left
                 ·rintro w' ⟨s0,s1,s2,s3,s4,s5,s6,s7⟩
                  go_simp
                  with_reducible rfl
                 rotate_left
                 ·simp only [Act.put,zp1,zp2,zp3,i64_w,i32_w]
                  rfl
                 refine take_ (i:=16) (N:=some 78) (v:=?_) (a':=?_) #[Y,Y,Y,Y,Y,Y,Y,Y,Y,Y,Y,X,Y,Y,Y,Y,Y,Y,Y,Y,Y,X,X,X,X] rfl rfl ztw (fun _ _ _ h=>h) (Or.inl ⟨by rfl,?_⟩) hHeld ?_ ?_
                 rotate_left
                 ·rintro w' ⟨s0,s1,s2,s3,s4,s5,s6,s7⟩
                  go_simp
                  with_reducible rfl
                 rotate_left
                 ·simp only [Act.put,zp1,zp2,zp3,i64_w,i32_w]
                  rfl
                 refine take_ (i:=21) (N:=some 83) (v:=?_) (a':=?_) #[Y,Y,Y,Y,Y,Y,Y,Y,Y,Y,Y,X,Y,Y,Y,Y,Y,Y,Y,Y,Y,Y,X,X,X] rfl rfl ztw (fun _ _ _ h=>h) (Or.inl ⟨by rfl,?_⟩) hHeld ?_ ?_
                 rotate_left
                 ·rintro w' ⟨s0,s1,s2,s3,s4,s5,s6,s7⟩
                  go_simp
                  with_reducible rfl
                 rotate_left
                 ·simp only [Act.put,zp1,zp2,zp3,i64_w,i32_w]
                  rfl
                 refine pure_ (i:=22) (N:=some 84) (v:=?_) (a':=?_) #[Y,Y,Y,Y,Y,Y,Y,Y,Y,Y,Y,X,Y,Y,Y,Y,Y,Y,Y,Y,Y,Y,Y,X,X] rfl rfl zan (fun _ _ _ h=>h) (Or.inl ⟨by rfl,?_⟩) ?_ ?_
                 rotate_left
                 ·intro w'
                  go_simp
                  with_reducible rfl
                 rotate_left
                 ·simp only [Act.put,zp1,zp2,zp3,i64_w,i32_w]
                  rfl
                 refine one_ (i:=11) (N:=some 73) #[Y,Y,Y,Y,Y,Y,Y,Y,Y,Y,Y,Y,Y,Y,Y,Y,Y,Y,Y,Y,Y,Y,Y,X,X] rfl rfl (one_of HT_.out (by kernel_rfl)) (by decide) (fun K hK=>?_)
                 refine goes_ Tryd.func59 (by kernel_rfl) rfl #[.slice A180_0 ((rd_T31 l0 x11_1).f0).length c180_0,.slice A181_0 ((rd_T31 l1 x12_2).f0).length c181_0] (by rfl) rfl rfl zar ?_
                 with_reducible refine (spec_RowJoin.calls _ _ ((rd_T31 l0 x11_1).f0) _ _ ((rd_T31 l1 x12_2).f0) t182 _ ?side1 ?side2 ?side3 ?side4 A19.out).mono ?_
                 (case side1=>exact zC (Kd.C_below HR180_0.out HB.out))
                 (case side2=>exact HC180_0.out)
                 (case side3=>exact zC (Kd.C_below HR181_0.out HB.out))
                 (case side4=>exact HC181_0.out)
                 rintro e w23 ⟨v183,rfl,ho0,hb⟩
                 refine ⟨_,rfl,?_⟩
                 have n0_:=Aside0.mk (Kd.N_elder' (zN HO_10.out) (Kd.R_base ho0) hb)
                 have n1_:=Aside0.mk (Kd.R_lower (Kd.R_newM (M:=fun k_=>(w.heap.size≤k_)) ho0 (below_size zhb) (fun k_ h_=>h_)) (below_size zhb))
                 have n2_:=Aside0.mk (below_step zhb hb)
                 clear HO_10
                 clear HB
                 have HO_10:=n0_
                 have HO184:=n1_
                 have HB:=n2_
                 clear n0_ n1_ n2_
                 (try clear hb)
                 (try clear hb2)
                 (try clear hk)
                 (try clear hi)
                 (try clear ho0)
                 obtain ⟨Ao24,co24,eo24⟩:=Kd.N_slice HO_10.out
                 (first|subst eo24|(injection eo24 with f1_ f2_ f3_;have f4_:=f1_.symm;have f5_:=f3_.symm;clear f1_ f2_ f3_;subst f4_;subst f5_))
                 obtain ⟨Ao25,co25,eo25⟩:=Kd.R_slice HO184.out
                 (first|subst eo25|(injection eo25 with f1_ f2_ f3_;have f4_:=f1_.symm;have f5_:=f3_.symm;clear f1_ f2_ f3_;subst f4_;subst f5_))
                 refine hK.out _ _ ⟨((HB.out.cell (World.block_lt_of_cell? w _ hw180_0)).trans hw180_0),((HB.out.cell (World.block_lt_of_cell? w _ hw180_1)).trans hw180_1),((HB.out.cell (World.block_lt_of_cell? w _ hw181_0)).trans hw181_0),((HB.out.cell (World.block_lt_of_cell? w _ hw181_1)).trans hw181_1),((HB.out.cell (World.block_lt_of_cell? w _ hw185_0)).trans hw185_0),((HB.out.cell (World.block_lt_of_cell? w _ hw185_1)).trans hw185_1),((HB.out.cell (World.block_lt_of_cell? w _ hw186_0)).trans hw186_0),((HB.out.cell (World.block_lt_of_cell? w _ hw186_1)).trans hw186_1)⟩ (fun hHeld=>?_)
                 clear hK K
                 refine norm_ (a':=?_) ?_ ?_
                 rotate_left
                 ·show Act.put _ (some 73) _=_
                  simp only [Act.put,zp1,zp2,zp3,i64_w,i32_w]
                  rfl
                 refine one_ (i:=23) (N:=some 85) #[Y,Y,Y,Y,Y,Y,Y,Y,Y,Y,Y,Y,Y,Y,Y,Y,Y,Y,Y,Y,Y,Y,Y,Y,X] rfl rfl (one_of HT_.out (by kernel_rfl)) (by decide) (fun K hK=>?_)
                 refine goes_ Tryd.func58 (by kernel_rfl) rfl #[.slice Ao24 x10_2.length co24,.slice Ao25 t182.length co25,.int .i64 (wrap64 (((rd_T31 l0 x11_1).f1) * ((rd_T31 l1 x12_2).f1)))] (by rfl) rfl rfl zar ?_
                 refine (spec_l2Put.calls k2 w.heap.size (fun k_=>(w.heap.size≤k_)∧some k_≠(.slice Ao25 t182.length co25:Value).ownBlock) (.slice Ao24 x10_2.length co24) x10_2 _ _ t182 (wrap64 (((rd_T31 l0 x11_1).f1) * ((rd_T31 l1 x12_2).f1))) t187 w _ ?side1 ?side2 ?side3 ?side4 ?side5 ?side6 A20.out).mono ?_
                 (case side1=>exact (below_size zhb))
                 (case side2=>exact zhb)
                 (case side3=>exact (zN HO_10.out))
                 (case side4=>exact (fun k_ hk=>⟨(Nat.le_trans (below_size zhb) hk),Kd.fresh' (Kd.R_lt (by (with_reducible repeat (first|apply Kd.R_alloc|apply Kd.R_drewN|apply Kd.R_drew));exact HO184.out)) k_ hk⟩))
                 (case side5=>repeat (first|exact (Kd.R_reads' HO184.out).2.2|(with_reducible refine Kd.C_alloc ?_ _)|(with_reducible refine Kd.C_drewN ?_ _)|(with_reducible refine Kd.C_drew ?_)))
                 (case side6=>exact (Kd.R_reads' HO184.out).2.1)
                 rintro e w26 ⟨v188,rfl,ho,hb,hg,hat⟩
                 refine ⟨_,rfl,?_⟩
                 have n0_:=Aside0.mk (Kd.R_over' (by (with_reducible repeat (first|apply Kd.R_alloc|apply Kd.R_drewN|apply Kd.R_drew));exact HO184.out) (Kd.N_typed (zN HO_10.out)) (by decide) hg)
                 have n1_:=Aside0.mk (hb)
                 have n2_:=Aside0.mk (ho)
                 clear HO184
                 clear HB
                 clear HO_10
                 have HO184:=n0_
                 have HB:=n1_
                 have HO189:=n2_
                 clear n0_ n1_ n2_
                 clear ho hb hg hat
                 refine hK.out _ _ ⟨((HB.out.cell (World.block_lt_of_cell? w _ hw180_0)).trans hw180_0),((HB.out.cell (World.block_lt_of_cell? w _ hw180_1)).trans hw180_1),((HB.out.cell (World.block_lt_of_cell? w _ hw181_0)).trans hw181_0),((HB.out.cell (World.block_lt_of_cell? w _ hw181_1)).trans hw181_1),((HB.out.cell (World.block_lt_of_cell? w _ hw185_0)).trans hw185_0),((HB.out.cell (World.block_lt_of_cell? w _ hw185_1)).trans hw185_1),((HB.out.cell (World.block_lt_of_cell? w _ hw186_0)).trans hw186_0),((HB.out.cell (World.block_lt_of_cell? w _ hw186_1)).trans hw186_1)⟩ (fun hHeld=>?_)
                 clear hK K
                 refine norm_ (a':=?_) ?_ ?_
                 rotate_left
                 ·show Act.put _ (some 85) _=_
                  simp only [Act.put,zp1,zp2,zp3,i64_w,i32_w]
                  rfl
                 refine pure_ (i:=24) (N:=some 10) (v:=?_) (a':=?_) #[Y,Y,Y,Y,Y,Y,Y,Y,Y,Y,Y,Y,Y,Y,Y,Y,Y,Y,Y,Y,Y,Y,Y,Y,Y] rfl rfl zan (fun _ _ _ h=>h) (Or.inl ⟨by rfl,?_⟩) ?_ ?_
                 rotate_left
                 ·intro w'
                  go_simp
                  with_reducible rfl
                 rotate_left
                 ·simp only [Act.put,zp1,zp2,zp3,i64_w,i32_w]
                  rfl
                 refine done_ (done_of HT_.out (by kernel_rfl)) ?_
                 try go_wp2
                 go_roundg k2
                 case measure=>have:=HK1.out;have:=HK2.out;omega
                 case rel=>exact ⟨(t187),(wrap64 (x12_2 + 1)),(by first|rfl|(simp;done)|(simp [*];done)),H',⟨by have:=HK1.out;have:=HK2.out;omega⟩,⟨by (with_reducible repeat (first|apply Kd.N_alloc|apply Kd.N_drewN|apply Kd.N_drew));exact Kd.N_mono HO189.out (fun _ hk=>hk.1)⟩,⟨zhb⟩⟩
                ·rw [if_neg c18] at H
                 have c18b0:((rd ((rd_T31 l0 x11_1).f0) a2) == (rd ((rd_T31 l1 x12_2).f0) a3))=false:=beq_eq_false_iff_ne.mpr c18
                 have c18b1:((rd ((rd_T31 l0 x11_1).f0) a2) != (rd ((rd_T31 l1 x12_2).f0) a3))=true:=bne_iff_ne.mpr c18
                 have H':=Aside0.mk H
                 clear H
                 have p174:0≤(x11_1:Int):=zod
                 have q174:x11_1 < (l0.length:Int):=zod
                 obtain ⟨ad174,A174_0,c174_0,e174,hx174_0,hx174_1,hl174_0,hi174_0⟩:=at_T31 HR0.out x11_1 p174 q174
                 cases e174
                 replace hx174_0:=(HB.out.cell (World.block_lt_of_cell? w _ hx174_0)).trans hx174_0
                 replace hx174_1:=(HB.out.cell (World.block_lt_of_cell? w _ hx174_1)).trans hx174_1
                 have HR174_0:=Aside0.mk hi174_0
                 have HC174_0:=Aside0.mk hl174_0
                 clear hi174_0 hl174_0
                 replace p174:=eq_true p174
                 replace q174:=eq_true q174
                 have p175:0≤(x12_2:Int):=zod
                 have q175:x12_2 < (l1.length:Int):=zod
                 obtain ⟨ad175,A175_0,c175_0,e175,hx175_0,hx175_1,hl175_0,hi175_0⟩:=at_T31 HR1.out x12_2 p175 q175
                 cases e175
                 replace hx175_0:=(HB.out.cell (World.block_lt_of_cell? w _ hx175_0)).trans hx175_0
                 replace hx175_1:=(HB.out.cell (World.block_lt_of_cell? w _ hx175_1)).trans hx175_1
                 have HR175_0:=Aside0.mk hi175_0
                 have HC175_0:=Aside0.mk hl175_0
                 clear hi175_0 hl175_0
                 replace p175:=eq_true p175
                 replace q175:=eq_true q175
                 try go_wp2
                 have n0_:=Aside0.mk (Kd.N_drew HO_10.out)
                 have n1_:=Aside0.mk (below_drew1 HB.out)
                 clear HO_10
                 clear HB
                 have HO_10:=n0_
                 have HB:=n1_
                 clear n0_ n1_
                 have p176:0≤(x11_1:Int):=zod
                 have q176:x11_1 < (l0.length:Int):=zod
                 obtain ⟨ad176,A176_0,c176_0,e176,hx176_0,hx176_1,hl176_0,hi176_0⟩:=at_T31 HR0.out x11_1 p176 q176
                 have hw176_1:=hx176_1
                 have hw176_0:=hx176_0
                 obtain rfl:ad174=ad176:=(by injection e176)
                 replace hx176_0:=(HB.out.cell (World.block_lt_of_cell? w _ hx176_0)).trans hx176_0
                 replace hx176_1:=(HB.out.cell (World.block_lt_of_cell? w _ hx176_1)).trans hx176_1
                 have HR176_0:=Aside0.mk hi176_0
                 have HC176_0:=Aside0.mk hl176_0
                 clear hi176_0 hl176_0
                 replace p176:=eq_true p176
                 replace q176:=eq_true q176
                 have p177:0≤(a2:Int):=zod
                 have q177:a2 < (((rd_T31 l0 x11_1).f0).length:Int):=zod
                 obtain ⟨ad177,e177,hx177_0⟩:=Kd.at_int HR176_0.out a2 p177 q177
                 have hw177_0:=hx177_0
                 cases e177
                 replace hx177_0:=(HB.out.cell (World.block_lt_of_cell? w _ hx177_0)).trans hx177_0
                 replace p177:=eq_true p177
                 replace q177:=eq_true q177
                 have p178:0≤(x12_2:Int):=zod
                 have q178:x12_2 < (l1.length:Int):=zod
                 obtain ⟨ad178,A178_0,c178_0,e178,hx178_0,hx178_1,hl178_0,hi178_0⟩:=at_T31 HR1.out x12_2 p178 q178
                 have hw178_1:=hx178_1
                 have hw178_0:=hx178_0
                 obtain rfl:ad175=ad178:=(by injection e178)
                 replace hx178_0:=(HB.out.cell (World.block_lt_of_cell? w _ hx178_0)).trans hx178_0
                 replace hx178_1:=(HB.out.cell (World.block_lt_of_cell? w _ hx178_1)).trans hx178_1
                 have HR178_0:=Aside0.mk hi178_0
                 have HC178_0:=Aside0.mk hl178_0
                 clear hi178_0 hl178_0
                 replace p178:=eq_true p178
                 replace q178:=eq_true q178
                 have p179:0≤(a3:Int):=zod
                 have q179:a3 < (((rd_T31 l1 x12_2).f0).length:Int):=zod
                 obtain ⟨ad179,e179,hx179_0⟩:=Kd.at_int HR178_0.out a3 p179 q179
                 have hw179_0:=hx179_0
                 cases e179
                 replace hx179_0:=(HB.out.cell (World.block_lt_of_cell? w _ hx179_0)).trans hx179_0
                 replace p179:=eq_true p179
                 replace q179:=eq_true q179
                 refine start_ (n:=17) (S:=fun w'=>w'.cell? (ad174.add ((x11_1).toNat * 2))=some (.slice (some ad177) ((rd_T31 l0 x11_1).f0).length c176_0)∧w'.cell? ⟨(ad174.add ((x11_1).toNat * 2)).block,(ad174.add ((x11_1).toNat * 2)).off + 1,none⟩=some (.int .i64 ((rd_T31 l0 x11_1).f1))∧w'.cell? (ad177.add (a2).toNat)=some (.int .i64 (rd ((rd_T31 l0 x11_1).f0) a2))∧w'.cell? (ad175.add ((x12_2).toNat * 2))=some (.slice (some ad179) ((rd_T31 l1 x12_2).f0).length c178_0)∧w'.cell? ⟨(ad175.add ((x12_2).toNat * 2)).block,(ad175.add ((x12_2).toNat * 2)).off + 1,none⟩=some (.int .i64 ((rd_T31 l1 x12_2).f1))∧w'.cell? (ad179.add (a3).toNat)=some (.int .i64 (rd ((rd_T31 l1 x12_2).f0) a3))) (ds:=[]) #[X,X,X,X,X,X,X,X,X,X,X,X,X,X,X,X,X] (by kernel_rfl) rfl rfl ⟨((HB.out.cell (World.block_lt_of_cell? w _ hw176_0)).trans hw176_0),((HB.out.cell (World.block_lt_of_cell? w _ hw176_1)).trans hw176_1),((HB.out.cell (World.block_lt_of_cell? w _ hw177_0)).trans hw177_0),((HB.out.cell (World.block_lt_of_cell? w _ hw178_0)).trans hw178_0),((HB.out.cell (World.block_lt_of_cell? w _ hw178_1)).trans hw178_1),((HB.out.cell (World.block_lt_of_cell? w _ hw179_0)).trans hw179_0)⟩ (fun hHeld=>?_);refine with_tabW spec_l5Join.tab10 spec_l5Join.bits10 (fun HT_ HW_=>?_)
                 generalize wr.drew=w27 at HO_10 HB HR176_0 HR178_0 hx176_0 hx176_1 hx177_0 hx178_0 hx178_1 hx179_0 hHeld ⊢
                 refine pure_ (i:=0) (N:=some 45) (v:=?_) (a':=?_) #[Y,X,X,X,X,X,X,X,X,X,X,X,X,X,X,X,X] rfl rfl zan (fun _ _ _ h=>h) (Or.inl ⟨by rfl,?_⟩) ?_ ?_
                 rotate_left
                 ·intro w'
                  go_simp
                  with_reducible rfl
                 rotate_left
                 ·simp only [Act.put,zp1,zp2,zp3,i64_w,i32_w]
                  rfl
                 refine pure_ (i:=1) (N:=some 46) (v:=?_) (a':=?_) #[Y,Y,X,X,X,X,X,X,X,X,X,X,X,X,X,X,X] rfl rfl zan (fun _ _ _ h=>h) (Or.inl ⟨by rfl,?_⟩) ?_ ?_
                 rotate_left
                 ·intro w'
                  go_simp
                  with_reducible rfl
                 rotate_left
                 ·simp only [Act.put,zp1,zp2,zp3,i64_w,i32_w]
                  rfl
                 refine pure_ (i:=2) (N:=some 47) (v:=?_) (a':=?_) #[Y,Y,Y,X,X,X,X,X,X,X,X,X,X,X,X,X,X] rfl rfl zan (fun _ _ _ h=>h) (Or.inl ⟨by rfl,?_⟩) ?_ ?_
                 rotate_left
                 ·intro w'
                  go_simp
                  with_reducible rfl
                 rotate_left
                 ·simp only [Act.put,zp1,zp2,zp3,i64_w,i32_w]
                  rfl
                 refine pure_ (i:=3) (N:=some 48) (v:=?_) (a':=?_) #[Y,Y,Y,Y,X,X,X,X,X,X,X,X,X,X,X,X,X] rfl rfl zan (fun _ _ _ h=>h) (Or.inl ⟨by rfl,?_⟩) ?_ ?_
                 rotate_left
                 ·intro w'
                  go_simp
                  with_reducible rfl
                 rotate_left
                 ·simp only [Act.put,zp1,zp2,zp3,i64_w,i32_w]
                  rfl
                 refine pure_ (i:=5) (N:=some 50) (v:=?_) (a':=?_) #[Y,Y,Y,Y,X,Y,X,X,X,X,X,X,X,X,X,X,X] rfl rfl zan (fun _ _ _ h=>h) (Or.inl ⟨by rfl,?_⟩) ?_ ?_
                 rotate_left
                 ·intro w'
                  go_simp
                  with_reducible rfl
                 rotate_left
                 ·simp only [Act.put,zp1,zp2,zp3,i64_w,i32_w]
                  rfl
                 refine pure_ (i:=8) (N:=some 53) (v:=?_) (a':=?_) #[Y,Y,Y,Y,X,Y,X,X,Y,X,X,X,X,X,X,X,X] rfl rfl zan (fun _ _ _ h=>h) (Or.inl ⟨by rfl,?_⟩) ?_ ?_
                 rotate_left
                 ·intro w'
                  go_simp
                  with_reducible rfl
                 rotate_left
                 ·simp only [Act.put,zp1,zp2,zp3,i64_w,i32_w]
                  rfl
                 refine pure_ (i:=9) (N:=some 54) (v:=?_) (a':=?_) #[Y,Y,Y,Y,X,Y,X,X,Y,Y,X,X,X,X,X,X,X] rfl rfl zan (fun _ _ _ h=>h) (Or.inl ⟨by rfl,?_⟩) ?_ ?_
                 rotate_left
                 ·intro w'
                  go_simp
                  with_reducible rfl
                 rotate_left
                 ·simp only [Act.put,zp1,zp2,zp3,i64_w,i32_w]
                  rfl
                 refine pure_ (i:=10) (N:=some 55) (v:=?_) (a':=?_) #[Y,Y,Y,Y,X,Y,X,X,Y,Y,Y,X,X,X,X,X,X] rfl rfl zan (fun _ _ _ h=>h) (Or.inl ⟨by rfl,?_⟩) ?_ ?_
                 rotate_left
                 ·intro w'
                  go_simp
                  with_reducible rfl
                 rotate_left
                 ·simp only [Act.put,zp1,zp2,zp3,i64_w,i32_w]
                  rfl
                 refine pure_ (i:=11) (N:=some 56) (v:=?_) (a':=?_) #[Y,Y,Y,Y,X,Y,X,X,Y,Y,Y,Y,X,X,X,X,X] rfl rfl zan (fun _ _ _ h=>h) (Or.inl ⟨by rfl,?_⟩) ?_ ?_
                 rotate_left
                 ·intro w'
                  go_simp
                  with_reducible rfl
                 rotate_left
                 ·simp only [Act.put,zp1,zp2,zp3,i64_w,i32_w]
                  rfl
                 refine pure_ (i:=13) (N:=some 58) (v:=?_) (a':=?_) #[Y,Y,Y,Y,X,Y,X,X,Y,Y,Y,Y,X,Y,X,X,X] rfl rfl zan (fun _ _ _ h=>h) (Or.inl ⟨by rfl,?_⟩) ?_ ?_
                 rotate_left
                 ·intro w'
                  go_simp
                  with_reducible rfl
                 rotate_left
                 ·simp only [Act.put,zp1,zp2,zp3,i64_w,i32_w]
                  rfl
                 refine take_ (i:=4) (N:=some 49) (v:=?_) (a':=?_) #[Y,Y,Y,Y,Y,Y,X,X,Y,Y,Y,Y,X,Y,X,X,X] rfl rfl ztw (fun _ _ _ h=>h) (Or.inl ⟨by rfl,?_⟩) hHeld ?_ ?_
                 rotate_left
                 ·rintro w' ⟨s0,s1,s2,s3,s4,s5⟩
                  go_simp
                  with_reducible rfl
                 rotate_left
                 ·simp only [Act.put,zp1,zp2,zp3,i64_w,i32_w]
                  rfl
                 refine pure_ (i:=6) (N:=some 51) (v:=?_) (a':=?_) #[Y,Y,Y,Y,Y,Y,Y,X,Y,Y,Y,Y,X,Y,X,X,X] rfl rfl zan (fun _ _ _ h=>h) (Or.inl ⟨by rfl,?_⟩) ?_ ?_
                 rotate_left
                 ·intro w'
                  go_simp
                  with_reducible rfl
                 rotate_left
                 ·simp only [Act.put,zp1,zp2,zp3,i64_w,i32_w]
                  rfl
                 refine take_ (i:=7) (N:=some 52) (v:=?_) (a':=?_) #[Y,Y,Y,Y,Y,Y,Y,Y,Y,Y,Y,Y,X,Y,X,X,X] rfl rfl ztw (fun _ _ _ h=>h) (Or.inl ⟨by rfl,?_⟩) hHeld ?_ ?_
                 rotate_left
                 ·rintro w' ⟨s0,s1,s2,s3,s4,s5⟩
                  go_simp
                  with_reducible rfl
                 rotate_left
                 ·simp only [Act.put,zp1,zp2,zp3,i64_w,i32_w]
                  rfl
                 refine take_ (i:=12) (N:=some 57) (v:=?_) (a':=?_) #[Y,Y,Y,Y,Y,Y,Y,Y,Y,Y,Y,Y,Y,Y,X,X,X] rfl rfl ztw (fun _ _ _ h=>h) (Or.inl ⟨by rfl,?_⟩) hHeld ?_ ?_
                 rotate_left
                 ·rintro w' ⟨s0,s1,s2,s3,s4,s5⟩
                  go_simp
                  with_reducible rfl
                 rotate_left
                 ·simp only [Act.put,zp1,zp2,zp3,i64_w,i32_w]
                  rfl
                 refine pure_ (i:=14) (N:=some 59) (v:=?_) (a':=?_) #[Y,Y,Y,Y,Y,Y,Y,Y,Y,Y,Y,Y,Y,Y,Y,X,X] rfl rfl zan (fun _ _ _ h=>h) (Or.inl ⟨by rfl,?_⟩) ?_ ?_
                 rotate_left
                 ·intro w'
                  go_simp
                  with_reducible rfl
                 rotate_left
                 ·simp only [Act.put,zp1,zp2,zp3,i64_w,i32_w]
                  rfl
                 refine take_ (i:=15) (N:=some 60) (v:=?_) (a':=?_) #[Y,Y,Y,Y,Y,Y,Y,Y,Y,Y,Y,Y,Y,Y,Y,Y,X] rfl rfl ztw (fun _ _ _ h=>h) (Or.inl ⟨by rfl,?_⟩) hHeld ?_ ?_
                 rotate_left
                 ·rintro w' ⟨s0,s1,s2,s3,s4,s5⟩
                  go_simp
                  with_reducible rfl
                 rotate_left
                 ·simp only [Act.put,zp1,zp2,zp3,i64_w,i32_w]
                  rfl
                 refine pure_ (i:=16) (N:=some 61) (v:=?_) (a':=?_) #[Y,Y,Y,Y,Y,Y,Y,Y,Y,Y,Y,Y,Y,Y,Y,Y,Y] rfl rfl zan (fun _ _ _ h=>h) (Or.inl ⟨by rfl,?_⟩) ?_ ?_
                 rotate_left
                 ·intro w'
                  go_simp
                  with_reducible rfl
                 rotate_left
                 ·simp only [Act.put,zp1,zp2,zp3,i64_w,i32_w]
                  rfl
                 refine done_ (done_of HT_.out (by kernel_rfl)) ?_
                 try go_wp2
                 go_roundg k2
                 case measure=>have:=HK1.out;have:=HK2.out;omega
                 case rel=>exact ⟨(x10_2),(wrap64 (x12_2 + 1)),(by first|rfl|(simp;done)|(simp [*];done)),H',⟨by have:=HK1.out;have:=HK2.out;omega⟩,⟨by (with_reducible repeat (first|apply Kd.N_alloc|apply Kd.N_drewN|apply Kd.N_drew));exact HO_10.out⟩,⟨zhb⟩⟩
               ·rw [if_neg c17] at H
                exact absurd H (by simp)
              ·rw [if_neg c16] at H
               exact absurd H (by simp)
             ·rw [if_neg c15] at H
              exact absurd H (by simp)
            ·rw [if_neg c14] at H
             exact absurd H (by simp)
          ·rw [if_neg c12] at H
           exact absurd H (by simp)
        ·rw [if_neg c10] at H
         exact absurd H (by simp)
       ·rw [if_neg c9] at H
        exact absurd H (by simp)
      ·rw [if_neg c8] at H
       have c8b0:decide (x12_2 < (l1.length:Int))=false:=decide_eq_false c8
       clear c8
       have H':=Aside0.mk H
       clear H
       go_wp2
       go_roundg k2
       case measure=>have:=HK1.out;have:=HK2.out;omega
       case rel=>exact ⟨(x10_2),(wrap64 (x11_1 + 1)),(by first|rfl|(simp;done)|(simp [*];done)),H',⟨by have:=HK1.out;have:=HK2.out;omega⟩,⟨by (with_reducible repeat (first|apply Kd.N_alloc|apply Kd.N_drewN|apply Kd.N_drew));exact HO_10.out⟩,⟨zhb⟩⟩
   ·rw [if_neg c7] at H
    have c7b0:decide (x11_1 < (l0.length:Int))=false:=decide_eq_false c7
    clear c7
    simp only [Option.some.injEq,Prod.mk.injEq] at H
    obtain ⟨rfl,rfl⟩:=H
    go_wp2
    go_ret2
    exact ⟨_,by first|rfl|(simp [errW_none,errW_some] <;> rfl)|(simp [*,errW_none,errW_some] <;> rfl),by (with_reducible repeat (first|apply Kd.N_alloc|apply Kd.N_drewN|apply Kd.N_drew));exact HO_10.out,zhb⟩

end Go.Proofs.YtlknceioincaeaaDoor.PFnExactJoinOf
