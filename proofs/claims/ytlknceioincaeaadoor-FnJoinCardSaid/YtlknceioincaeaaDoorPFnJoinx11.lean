-- Written by wip/tools/pp.py, a program of this session over the kit's printer: not the kit's own print
import Derived.Test.YtlknceioincaeaaDoorPFnJoinx0
import Derived.Test.YtlknceioincaeaaDoorPFnJoinx2
import Derived.Test.YtlknceioincaeaaDoorPFnJoinx10
namespace Go.Proofs.YtlknceioincaeaaDoor.PFnJoin
open Go.RowKit Go.Proofs.YtlknceioincaeaaDoorW.PrintWords Go.Proofs.YtlknceioincaeaaDoorW.PrintLast Go.Proofs.YtlknceioincaeaaDoorW.PrintMore
attribute [local go_sem] max2_int min2_int max_two min_two max_three min_three max_four min_four   -- for this text's walks alone
set_option linter.unusedVariables false
set_option linter.unusedSimpArgs false

/-! ### spec_l5Join: function 30 -/
mutual
def spec_l5Join.l0:Nat→List (S31)→List (S31)→Int→Int→List (S31)→Int→Option ((List (S31)) × Bool)
 | 0,_,_,_,_,_,_=>none
 | k + 1,x0,x1,x2,x3,x10,x11=>if x11 < (x0.length:Int) then (spec_l5Join.l1 k x0 x1 x2 x3 x10 x11 0) else (some (x10,true))
def spec_l5Join.l1:Nat→List (S31)→List (S31)→Int→Int→List (S31)→Int→Int→Option ((List (S31)) × Bool)
 | 0,_,_,_,_,_,_,_=>none
 | k + 1,x0,x1,x2,x3,x10,x11,x12=>if x12 < (x1.length:Int) then (if 0≤x11 then (if x11 < (x0.length:Int) then (if x2 ≥ (((rd_T31 x0 x11).f0).length:Int) then (some (x10,false)) else (if 0≤x12 then (if x3 ≥ (((rd_T31 x1 x12).f0).length:Int) then (some (x10,false)) else (if 0≤x2 then (if x2 < (((rd_T31 x0 x11).f0).length:Int) then (if 0≤x3 then (if x3 < (((rd_T31 x1 x12).f0).length:Int) then (if (rd ((rd_T31 x0 x11).f0) x2)=(rd ((rd_T31 x1 x12).f0) x3) then ((spec_RowJoin.f ((rd_T31 x0 x11).f0) ((rd_T31 x1 x12).f0)).bind fun t282=>((spec_l2Put.f k x10 t282 (wrap64 (((rd_T31 x0 x11).f1) * ((rd_T31 x1 x12).f1)))).bind fun t287=>(spec_l5Join.l1 k x0 x1 x2 x3 t287 x11 (wrap64 (x12 + 1))))) else (spec_l5Join.l1 k x0 x1 x2 x3 x10 x11 (wrap64 (x12 + 1)))) else (none)) else (none)) else (none)) else (none))) else (none))) else (none)) else (none)) else (spec_l5Join.l0 k x0 x1 x2 x3 x10 (wrap64 (x11 + 1)))
end
def spec_l5Join.f (k:Nat) (l0:List (S31)) (l1:List (S31)) (a2:Int) (a3:Int):Option ((List (S31)) × Bool):=spec_l5Join.l0 k l0 l1 a2 a3 (([]:List (S31))) 0
theorem spec_l5Join.mono_l : ∀ k,(∀ y0 y1 y2 y3 y4 y5,LeO (spec_l5Join.l0 k y0 y1 y2 y3 y4 y5) (spec_l5Join.l0 (k + 1) y0 y1 y2 y3 y4 y5))∧(∀ y0 y1 y2 y3 y4 y5 y6,LeO (spec_l5Join.l1 k y0 y1 y2 y3 y4 y5 y6) (spec_l5Join.l1 (k + 1) y0 y1 y2 y3 y4 y5 y6))
 | 0=>⟨fun _ _ _ _ _ _ r h=>by simp [spec_l5Join.l0] at h,fun _ _ _ _ _ _ _ r h=>by simp [spec_l5Join.l1] at h⟩
 | k + 1=>by
  obtain ⟨ih0,ih1⟩:=spec_l5Join.mono_l k
  refine ⟨?_,?_⟩
  ·intro y0 y1 y2 y3 y4 y5
   unfold spec_l5Join.l0
   repeat' first
   | (with_reducible exact ih0 _ _ _ _ _ _)
   | (with_reducible exact ih1 _ _ _ _ _ _ _)
   | (with_reducible exact spec_l2Put.mono _ _ _ _)
   | (with_reducible exact LeO.refl _)
   | (with_reducible exact LeO.none _)
   | (with_reducible refine LeO.ite ?_ ?_)
   | (with_reducible refine LeO.bind ?_ (fun _=>?_))
   | exact LeO.none _
   | refine LeO.ite ?_ ?_
   | refine LeO.bind ?_ (fun _=>?_)
  ·intro y0 y1 y2 y3 y4 y5 y6
   unfold spec_l5Join.l1
   repeat' first
   | (with_reducible exact ih0 _ _ _ _ _ _)
   | (with_reducible exact ih1 _ _ _ _ _ _ _)
   | (with_reducible exact spec_l2Put.mono _ _ _ _)
   | (with_reducible exact LeO.refl _)
   | (with_reducible exact LeO.none _)
   | (with_reducible refine LeO.ite ?_ ?_)
   | (with_reducible refine LeO.bind ?_ (fun _=>?_))
   | exact LeO.none _
   | refine LeO.ite ?_ ?_
   | refine LeO.bind ?_ (fun _=>?_)
theorem spec_l5Join.mono : ∀ a0 a1 a2 a3 k,LeO (spec_l5Join.f k a0 a1 a2 a3) (spec_l5Join.f (k + 1) a0 a1 a2 a3):=by
 intro a0 a1 a2 a3 k
 obtain ⟨ih0,ih1⟩:=spec_l5Join.mono_l k
 unfold spec_l5Join.f
 repeat' first
   | (with_reducible exact ih0 _ _ _ _ _ _)
   | (with_reducible exact ih1 _ _ _ _ _ _ _)
   | (with_reducible exact spec_l2Put.mono _ _ _ _)
   | (with_reducible exact LeO.refl _)
   | (with_reducible exact LeO.none _)
   | (with_reducible refine LeO.ite ?_ ?_)
   | (with_reducible refine LeO.bind ?_ (fun _=>?_))
   | exact LeO.none _
   | refine LeO.ite ?_ ?_
   | refine LeO.bind ?_ (fun _=>?_)
def spec_l5Join.T10:Bool × List (List Nat × List Nat):=(true,[([],[]),([],[]),([0,1],[0,1]),([2],[2]),([3],[3]),([],[]),([4,5],[4,5]),([6],[6]),([],[]),([],[]),([8,9],[8,9]),([10],[10]),([11],[11]),([],[]),([12,13],[12,13]),([14],[14]),([7,15],[7,15])])
def spec_l5Join.B10:List Nat:=[0,0,3,7,15,0,63,127,0,0,768,1792,3840,0,16128,32512,65535]
theorem spec_l5Join.tab10:rtab .any (opsOf Tryd.f30 10)=spec_l5Join.T10:=by kernel_rfl
theorem spec_l5Join.bits10:waitsOk spec_l5Join.T10.2 spec_l5Join.B10=true:=by kernel_rfl
def spec_l5Join.T11:Bool × List (List Nat × List Nat):=(true,[([],[]),([],[]),([],[]),([1,2],[1,2]),([3],[3]),([4],[4]),([],[]),([],[]),([6,7],[6,7]),([8],[8]),([9],[9]),([5,10],[5,10]),([],[]),([],[]),([12,13],[12,13]),([14],[14]),([15],[15]),([],[]),([],[]),([17,18],[17,18]),([19],[19]),([20],[20]),([16,21],[16,21]),([0,11,22,11],[0,11,22]),([23,23,0,1,2,3,4,5,6,7,8,9,10,11,12,13,14,15,16,17,18,19,20,21,22,23],[0,23])])
def spec_l5Join.B11:List Nat:=[0,0,0,6,14,30,0,0,192,448,960,2046,0,0,12288,28672,61440,0,0,393216,917504,1966080,4190208,8388607,16777215]
theorem spec_l5Join.tab11:rtab .any (opsOf Tryd.f30 11)=spec_l5Join.T11:=by kernel_rfl
theorem spec_l5Join.bits11:waitsOk spec_l5Join.T11.2 spec_l5Join.B11=true:=by kernel_rfl
set_option maxHeartbeats 8000000 in
set_option maxRecDepth 100000 in
theorem spec_l5Join.calls (k:Nat) (A0:Option Addr) (c0:Nat) (l0:List (S31)) (A1:Option Addr) (c1:Nat) (l1:List (S31)) (a2:Int) (a3:Int) (r1:List (S31)) (r2:Bool) (w:World) (hr0:Kd.C k31 w A0 l0.length l0) (hc0:l0.length≤c0) (hr1:Kd.C k31 w A1 l1.length l1) (hc1:l1.length≤c1) (h:spec_l5Join.f k l0 l1 a2 a3=some (r1,r2)) :
  Calls Tryd.prog 30 #[.slice A0 l0.length c0,.slice A1 l1.length c1,.int .i64 a2,.int .i64 a3] w fun e w'=>∃ v0_:Value,e=.returned (.tuple #[v0_,.bool r2])∧Kd.N k31 31 w' w.heap.size (fun k_=>(w.heap.size≤k_)) v0_ r1∧Below w.heap.size w w':=by
 have HR0:=Aside0.mk hr0
 have HC0:=Aside0.mk hc0
 clear hr0 hc0
 have HR1:=Aside0.mk hr1
 have HC1:=Aside0.mk hc1
 clear hr1 hc1
 have HB:=Aside0.mk (Below.refl w.heap.size w)
 have H:(spec_l5Join.l0 k l0 l1 a2 a3 (([]:List (S31))) 0)=some (r1,r2):=h
 clear h
 obtain ⟨y271,hy271⟩ : ∃ y_:List (S31),y_=(([]:List (S31))):=⟨_,rfl⟩
 replace H:(spec_l5Join.l0 k l0 l1 a2 a3 y271 0)=some (r1,r2):=by first|(rw [hy271];with_reducible exact H)|(have H2_:=(Option.bind_some _ _).symm.trans H;rw [hy271];with_reducible exact H2_)|(have H2_:=(Option.bind_some _ _).symm.trans H;with_reducible exact H2_)|with_reducible exact H|(rw [hy271];exact H)|exact H
 have Ny271:=Aside0.mk hy271
 clear hy271
 have H':=Aside0.mk H
 clear H
 go_enter Tryd.func30,Tryd.ntmps30
 go_wp2_with (first|((with_reducible refine gate_dst (N:=13) rfl ?_);(try (refine gate_guard (by rfl) ?_;dsimp only));refine Kd.N_lit k31 _ 31 ?hg (N':=13) ?hd (xs:=([]:List (S31))) (inner:=[]) (ok:=(fun k_=>(w.heap.size≤k_))) (okp:=(fun k_=>(w.heap.size≤k_))) ?hr ?hp (fun _ hk=>hk) ((show ∀ k_,w.heap.size≤k_→(fun k_=>(w.heap.size≤k_)) k_ from fun k_ hk=>(Nat.le_trans (below_size zhb) hk)) _ (Nat.le_refl _)) (Below.refl _ _) (Nat.le_refl _) (by simp) ?_;(case hd=>rfl);(case hg=>rfl);(case hr=>first|(go_simp;done)|(go_simp;rfl));(case hp=>exact (Reps.none _ _));intro v272 w5 ho6 hb hg_ hnew_;clear hg_ hnew_;(first|rw [← Ny271.out] at ho6|(simp only [Int.reduceToNat] at ho6;rw [← Ny271.out] at ho6));have n0_:=Aside0.mk (Kd.N_lower ho6 (below_size zhb));have n1_:=Aside0.mk (below_step zhb hb);clear HB;have HO273:=n0_;have HB:=n1_;clear n0_ n1_;clear hb ho6))
 go_loopg [10,11] k (fun kq v10 v11 w'=>∃ (x10_1:List (S31)) (x11_1:Int),v11=.int .i64 x11_1∧Aside0 (spec_l5Join.l0 kq l0 l1 a2 a3 x10_1 x11_1=some (r1,r2))∧Aside0 (kq≤k)∧Aside0 (Kd.N k31 31 w' w.heap.size (fun k_=>(w.heap.size≤k_)) v10 x10_1)∧Aside0 (Below w.heap.size w w'))
 case atStart=>exact ⟨(y271),(0),(by first|rfl|(simp;done)|(simp [*];done)),H',⟨Nat.le_refl _⟩,⟨by (with_reducible repeat (first|apply Kd.N_alloc|apply Kd.N_drewN|apply Kd.N_drew));exact HO273.out⟩,⟨zhb⟩⟩
 case round =>
  clear H'
  try clear c1
  try clear p2
  try clear c3
  obtain ⟨x10_1,x11_1,rfl,HA,HK1,HO_10,HB⟩:=hrel
  cases gk with
  | zero=>exact absurd HA.out (by simp [spec_l5Join.l0])
  | succ k1 =>
   have H:=HA.out
   clear HA
   simp only [spec_l5Join.l0] at H
   by_cases c7:x11_1 < (l0.length:Int)
   rotate_left
   ·rw [if_neg c7] at H
    have c7b0:decide (x11_1 < (l0.length:Int))=false:=decide_eq_false c7
    clear c7
    simp only [Option.some.injEq,Prod.mk.injEq] at H
    obtain ⟨rfl,rfl⟩:=H
    go_wp2
    go_ret2
    exact ⟨_,by first|rfl|(simp [errW_none,errW_some] <;> rfl)|(simp [*,errW_none,errW_some] <;> rfl),by (with_reducible repeat (first|apply Kd.N_alloc|apply Kd.N_drewN|apply Kd.N_drew));exact HO_10.out,zhb⟩

   rw [if_pos c7] at H
   have c7b0:decide (x11_1 < (l0.length:Int))=true:=decide_eq_true c7
   clear c7
   have H':=Aside0.mk H
   clear H
   go_wp2
   go_loopg [10,12] k1 (fun kq v10 v12 w'=>∃ (x10_2:List (S31)) (x12_2:Int),v12=.int .i64 x12_2∧Aside0 (spec_l5Join.l1 kq l0 l1 a2 a3 x10_2 x11_1 x12_2=some (r1,r2))∧Aside0 (kq≤k1)∧Aside0 (Kd.N k31 31 w' w.heap.size (fun k_=>(w.heap.size≤k_)) v10 x10_2)∧Aside0 (Below w.heap.size w w'))
   case atStart=>exact ⟨(x10_1),(0),(by first|rfl|(simp;done)|(simp [*];done)),H',⟨Nat.le_refl _⟩,⟨by (with_reducible repeat (first|apply Kd.N_alloc|apply Kd.N_drewN|apply Kd.N_drew));exact HO_10.out⟩,⟨zhb⟩⟩
   case round =>
    clear H'
    try clear c1
    try clear p2
    try clear c3
    try clear c7
    try clear c7b0
    try clear p2
    obtain ⟨x10_2,x12_2,rfl,HA,HK2,HO_10,HB⟩:=hrel
    cases gk with
    | zero=>exact absurd HA.out (by simp [spec_l5Join.l1])
    | succ k2 =>
     have H:=HA.out
     clear HA
     simp only [spec_l5Join.l1] at H
     by_cases c8:x12_2 < (l1.length:Int)
     rotate_left
     ·rw [if_neg c8] at H
      have c8b0:decide (x12_2 < (l1.length:Int))=false:=decide_eq_false c8
      clear c8
      have H':=Aside0.mk H
      clear H
      go_wp2
      go_roundg k2
      case measure=>have:=HK1.out;have:=HK2.out;omega
      case rel=>exact ⟨(x10_2),(wrap64 (x11_1 + 1)),(by first|rfl|(simp;done)|(simp [*];done)),H',⟨by have:=HK1.out;have:=HK2.out;omega⟩,⟨by (with_reducible repeat (first|apply Kd.N_alloc|apply Kd.N_drewN|apply Kd.N_drew));exact HO_10.out⟩,⟨zhb⟩⟩
     rw [if_pos c8] at H
     have c8b0:decide (x12_2 < (l1.length:Int))=true:=decide_eq_true c8
     clear c8
     by_cases c9:0≤x11_1
     rotate_left
     ·rw [if_neg c9] at H
      exact absurd H (by simp)
     rw [if_pos c9] at H
     have c9b0:decide (0≤x11_1)=true:=decide_eq_true c9
     clear c9
     by_cases c10:x11_1 < (l0.length:Int)
     rotate_left
     ·rw [if_neg c10] at H
      exact absurd H (by simp)
     rw [if_pos c10] at H
     have c10b0:decide (x11_1 < (l0.length:Int))=true:=decide_eq_true c10
     clear c10
     by_cases c11:a2 ≥ (((rd_T31 l0 x11_1).f0).length:Int)
     ·rw [if_pos c11] at H
      have c11b0:decide ((((rd_T31 l0 x11_1).f0).length:Int)≤a2)=true:=decide_eq_true c11
      clear c11
      simp only [Option.some.injEq,Prod.mk.injEq] at H
      obtain ⟨rfl,rfl⟩:=H
      have p274:0≤(x11_1:Int):=zod
      have q274:x11_1 < (l0.length:Int):=zod
      obtain ⟨ad274,A274_0,c274_0,e274,hx274_0,hx274_1,hl274_0,hi274_0⟩:=at_T31 HR0.out x11_1 p274 q274
      cases e274
      replace hx274_0:=(HB.out.cell (World.block_lt_of_cell? w _ hx274_0)).trans hx274_0
      replace hx274_1:=(HB.out.cell (World.block_lt_of_cell? w _ hx274_1)).trans hx274_1
      have HR274_0:=Aside0.mk hi274_0
      have HC274_0:=Aside0.mk hl274_0
      clear hi274_0 hl274_0
      replace p274:=eq_true p274
      replace q274:=eq_true q274
      go_wp2
      go_ret2
      exact ⟨_,by first|rfl|(simp [errW_none,errW_some] <;> rfl)|(simp [*,errW_none,errW_some] <;> rfl),by (with_reducible repeat (first|apply Kd.N_alloc|apply Kd.N_drewN|apply Kd.N_drew));exact HO_10.out,zhb⟩
     rw [if_neg c11] at H
     have c11b0:decide ((((rd_T31 l0 x11_1).f0).length:Int)≤a2)=false:=decide_eq_false c11
     clear c11
     by_cases c12:0≤x12_2
     rotate_left
     ·rw [if_neg c12] at H
      exact absurd H (by simp)
     rw [if_pos c12] at H
     have c12b0:decide (0≤x12_2)=true:=decide_eq_true c12
     clear c12
     by_cases c13:a3 ≥ (((rd_T31 l1 x12_2).f0).length:Int)
     ·rw [if_pos c13] at H
      have c13b0:decide ((((rd_T31 l1 x12_2).f0).length:Int)≤a3)=true:=decide_eq_true c13
      clear c13
      simp only [Option.some.injEq,Prod.mk.injEq] at H
      obtain ⟨rfl,rfl⟩:=H
      have p274:0≤(x11_1:Int):=zod
      have q274:x11_1 < (l0.length:Int):=zod
      obtain ⟨ad274,A274_0,c274_0,e274,hx274_0,hx274_1,hl274_0,hi274_0⟩:=at_T31 HR0.out x11_1 p274 q274
      cases e274
      replace hx274_0:=(HB.out.cell (World.block_lt_of_cell? w _ hx274_0)).trans hx274_0
      replace hx274_1:=(HB.out.cell (World.block_lt_of_cell? w _ hx274_1)).trans hx274_1
      have HR274_0:=Aside0.mk hi274_0
      have HC274_0:=Aside0.mk hl274_0
      clear hi274_0 hl274_0
      replace p274:=eq_true p274
      replace q274:=eq_true q274
      have p275:0≤(x12_2:Int):=zod
      have q275:x12_2 < (l1.length:Int):=zod
      obtain ⟨ad275,A275_0,c275_0,e275,hx275_0,hx275_1,hl275_0,hi275_0⟩:=at_T31 HR1.out x12_2 p275 q275
      cases e275
      replace hx275_0:=(HB.out.cell (World.block_lt_of_cell? w _ hx275_0)).trans hx275_0
      replace hx275_1:=(HB.out.cell (World.block_lt_of_cell? w _ hx275_1)).trans hx275_1
      have HR275_0:=Aside0.mk hi275_0
      have HC275_0:=Aside0.mk hl275_0
      clear hi275_0 hl275_0
      replace p275:=eq_true p275
      replace q275:=eq_true q275
      go_wp2
      go_ret2
      exact ⟨_,by first|rfl|(simp [errW_none,errW_some] <;> rfl)|(simp [*,errW_none,errW_some] <;> rfl),by (with_reducible repeat (first|apply Kd.N_alloc|apply Kd.N_drewN|apply Kd.N_drew));exact HO_10.out,zhb⟩
     rw [if_neg c13] at H
     have c13b0:decide ((((rd_T31 l1 x12_2).f0).length:Int)≤a3)=false:=decide_eq_false c13
     clear c13
     by_cases c14:0≤a2
     rotate_left
     ·rw [if_neg c14] at H
      exact absurd H (by simp)
     rw [if_pos c14] at H
     have c14b0:decide (0≤a2)=true:=decide_eq_true c14
     clear c14
     by_cases c15:a2 < (((rd_T31 l0 x11_1).f0).length:Int)
     rotate_left
     ·rw [if_neg c15] at H
      exact absurd H (by simp)
     rw [if_pos c15] at H
     have c15b0:decide (a2 < (((rd_T31 l0 x11_1).f0).length:Int))=true:=decide_eq_true c15
     clear c15
     by_cases c16:0≤a3
     rotate_left
     ·rw [if_neg c16] at H
      exact absurd H (by simp)
     rw [if_pos c16] at H
     have c16b0:decide (0≤a3)=true:=decide_eq_true c16
     clear c16
     by_cases c17:a3 < (((rd_T31 l1 x12_2).f0).length:Int)
     rotate_left
     ·rw [if_neg c17] at H
      exact absurd H (by simp)
     rw [if_pos c17] at H
     have c17b0:decide (a3 < (((rd_T31 l1 x12_2).f0).length:Int))=true:=decide_eq_true c17
     clear c17
     by_cases c18:(rd ((rd_T31 l0 x11_1).f0) a2)=(rd ((rd_T31 l1 x12_2).f0) a3)
     rotate_left
     ·rw [if_neg c18] at H
      have c18b0:((rd ((rd_T31 l0 x11_1).f0) a2) == (rd ((rd_T31 l1 x12_2).f0) a3))=false:=beq_eq_false_iff_ne.mpr c18
      have c18b1:((rd ((rd_T31 l0 x11_1).f0) a2) != (rd ((rd_T31 l1 x12_2).f0) a3))=true:=bne_iff_ne.mpr c18
      have H':=Aside0.mk H
      clear H
      have p274:0≤(x11_1:Int):=zod
      have q274:x11_1 < (l0.length:Int):=zod
      obtain ⟨ad274,A274_0,c274_0,e274,hx274_0,hx274_1,hl274_0,hi274_0⟩:=at_T31 HR0.out x11_1 p274 q274
      cases e274
      replace hx274_0:=(HB.out.cell (World.block_lt_of_cell? w _ hx274_0)).trans hx274_0
      replace hx274_1:=(HB.out.cell (World.block_lt_of_cell? w _ hx274_1)).trans hx274_1
      have HR274_0:=Aside0.mk hi274_0
      have HC274_0:=Aside0.mk hl274_0
      clear hi274_0 hl274_0
      replace p274:=eq_true p274
      replace q274:=eq_true q274
      have p275:0≤(x12_2:Int):=zod
      have q275:x12_2 < (l1.length:Int):=zod
      obtain ⟨ad275,A275_0,c275_0,e275,hx275_0,hx275_1,hl275_0,hi275_0⟩:=at_T31 HR1.out x12_2 p275 q275
      cases e275
      replace hx275_0:=(HB.out.cell (World.block_lt_of_cell? w _ hx275_0)).trans hx275_0
      replace hx275_1:=(HB.out.cell (World.block_lt_of_cell? w _ hx275_1)).trans hx275_1
      have HR275_0:=Aside0.mk hi275_0
      have HC275_0:=Aside0.mk hl275_0
      clear hi275_0 hl275_0
      replace p275:=eq_true p275
      replace q275:=eq_true q275
      try go_wp2
      have n0_:=Aside0.mk (Kd.N_drew HO_10.out)
      have n1_:=Aside0.mk (below_drew1 HB.out)
      clear HO_10
      clear HB
      have HO_10:=n0_
      have HB:=n1_
      clear n0_ n1_
      have p276:0≤(x11_1:Int):=zod
      have q276:x11_1 < (l0.length:Int):=zod
      obtain ⟨ad276,A276_0,c276_0,e276,hx276_0,hx276_1,hl276_0,hi276_0⟩:=at_T31 HR0.out x11_1 p276 q276
      have hw276_1:=hx276_1
      have hw276_0:=hx276_0
      obtain rfl:ad274=ad276:=(by injection e276)
      replace hx276_0:=(HB.out.cell (World.block_lt_of_cell? w _ hx276_0)).trans hx276_0
      replace hx276_1:=(HB.out.cell (World.block_lt_of_cell? w _ hx276_1)).trans hx276_1
      have HR276_0:=Aside0.mk hi276_0
      have HC276_0:=Aside0.mk hl276_0
      clear hi276_0 hl276_0
      replace p276:=eq_true p276
      replace q276:=eq_true q276
      have p277:0≤(a2:Int):=zod
      have q277:a2 < (((rd_T31 l0 x11_1).f0).length:Int):=zod
      obtain ⟨ad277,e277,hx277_0⟩:=Kd.at_int HR276_0.out a2 p277 q277
      have hw277_0:=hx277_0
      cases e277
      replace hx277_0:=(HB.out.cell (World.block_lt_of_cell? w _ hx277_0)).trans hx277_0
      replace p277:=eq_true p277
      replace q277:=eq_true q277
      have p278:0≤(x12_2:Int):=zod
      have q278:x12_2 < (l1.length:Int):=zod
      obtain ⟨ad278,A278_0,c278_0,e278,hx278_0,hx278_1,hl278_0,hi278_0⟩:=at_T31 HR1.out x12_2 p278 q278
      have hw278_1:=hx278_1
      have hw278_0:=hx278_0
      obtain rfl:ad275=ad278:=(by injection e278)
      replace hx278_0:=(HB.out.cell (World.block_lt_of_cell? w _ hx278_0)).trans hx278_0
      replace hx278_1:=(HB.out.cell (World.block_lt_of_cell? w _ hx278_1)).trans hx278_1
      have HR278_0:=Aside0.mk hi278_0
      have HC278_0:=Aside0.mk hl278_0
      clear hi278_0 hl278_0
      replace p278:=eq_true p278
      replace q278:=eq_true q278
      have p279:0≤(a3:Int):=zod
      have q279:a3 < (((rd_T31 l1 x12_2).f0).length:Int):=zod
      obtain ⟨ad279,e279,hx279_0⟩:=Kd.at_int HR278_0.out a3 p279 q279
      have hw279_0:=hx279_0
      cases e279
      replace hx279_0:=(HB.out.cell (World.block_lt_of_cell? w _ hx279_0)).trans hx279_0
      replace p279:=eq_true p279
      replace q279:=eq_true q279
      refine start_ (n:=17) (S:=fun w'=>w'.cell? (ad274.add ((x11_1).toNat * 2))=some (.slice (some ad277) ((rd_T31 l0 x11_1).f0).length c276_0)∧w'.cell? ⟨(ad274.add ((x11_1).toNat * 2)).block,(ad274.add ((x11_1).toNat * 2)).off + 1,none⟩=some (.int .i64 ((rd_T31 l0 x11_1).f1))∧w'.cell? (ad277.add (a2).toNat)=some (.int .i64 (rd ((rd_T31 l0 x11_1).f0) a2))∧w'.cell? (ad275.add ((x12_2).toNat * 2))=some (.slice (some ad279) ((rd_T31 l1 x12_2).f0).length c278_0)∧w'.cell? ⟨(ad275.add ((x12_2).toNat * 2)).block,(ad275.add ((x12_2).toNat * 2)).off + 1,none⟩=some (.int .i64 ((rd_T31 l1 x12_2).f1))∧w'.cell? (ad279.add (a3).toNat)=some (.int .i64 (rd ((rd_T31 l1 x12_2).f0) a3))) (ds:=[]) (zm 17 0) (by kernel_rfl) rfl rfl ⟨((HB.out.cell (World.block_lt_of_cell? w _ hw276_0)).trans hw276_0),((HB.out.cell (World.block_lt_of_cell? w _ hw276_1)).trans hw276_1),((HB.out.cell (World.block_lt_of_cell? w _ hw277_0)).trans hw277_0),((HB.out.cell (World.block_lt_of_cell? w _ hw278_0)).trans hw278_0),((HB.out.cell (World.block_lt_of_cell? w _ hw278_1)).trans hw278_1),((HB.out.cell (World.block_lt_of_cell? w _ hw279_0)).trans hw279_0)⟩ (fun hHeld=>?_);refine with_tabW spec_l5Join.tab10 spec_l5Join.bits10 (fun HT_ HW_=>?_)
      generalize wr.drew=w27 at HO_10 HB HR276_0 HR278_0 hx276_0 hx276_1 hx277_0 hx278_0 hx278_1 hx279_0 hHeld ⊢
      refine zpu 0 45 17 1 ?_
      refine zpu 1 46 17 3 ?_
      refine zpu 2 47 17 7 ?_
      refine zpu 3 48 17 15 ?_
      refine zpu 5 50 17 47 ?_
      refine zpu 8 53 17 303 ?_
      refine zpu 9 54 17 815 ?_
      refine zpu 10 55 17 1839 ?_
      refine zpu 11 56 17 3887 ?_
      refine zpu 13 58 17 12079 ?_
      refine zta 4 49 17 12095 ?_
      refine zpu 6 51 17 12159 ?_
      refine zta 7 52 17 12287 ?_
      refine zta 12 57 17 16383 ?_
      refine zpu 14 59 17 32767 ?_
      refine zta 15 60 17 65535 ?_
      refine zpu 16 61 17 131071 ?_
      refine done_ (done_of HT_.out (by kernel_rfl)) ?_
      try go_wp2
      go_roundg k2
      case measure=>have:=HK1.out;have:=HK2.out;omega
      case rel=>exact ⟨(x10_2),(wrap64 (x12_2 + 1)),(by first|rfl|(simp;done)|(simp [*];done)),H',⟨by have:=HK1.out;have:=HK2.out;omega⟩,⟨by (with_reducible repeat (first|apply Kd.N_alloc|apply Kd.N_drewN|apply Kd.N_drew));exact HO_10.out⟩,⟨zhb⟩⟩
     rw [if_pos c18] at H
     have c18b0:((rd ((rd_T31 l0 x11_1).f0) a2) == (rd ((rd_T31 l1 x12_2).f0) a3))=true:=beq_iff_eq.mpr c18
     have c18b1:((rd ((rd_T31 l0 x11_1).f0) a2) != (rd ((rd_T31 l1 x12_2).f0) a3))=false:=bne_eq_false_iff_eq.mpr c18
     clear c18
     replace H:=Option.bind_eq_some_iff.mp H
     obtain ⟨t282,A190,H⟩:=H
     (try dsimp only at H)
     have A19:=Aside0.mk A190
     clear A190
     replace H:=Option.bind_eq_some_iff.mp H
     obtain ⟨t287,A200,H⟩:=H
     (try dsimp only at H)
     have A20:=Aside0.mk A200
     clear A200
     have H':=Aside0.mk H
     clear H
     have p274:0≤(x11_1:Int):=zod
     have q274:x11_1 < (l0.length:Int):=zod
     obtain ⟨ad274,A274_0,c274_0,e274,hx274_0,hx274_1,hl274_0,hi274_0⟩:=at_T31 HR0.out x11_1 p274 q274
     cases e274
     replace hx274_0:=(HB.out.cell (World.block_lt_of_cell? w _ hx274_0)).trans hx274_0
     replace hx274_1:=(HB.out.cell (World.block_lt_of_cell? w _ hx274_1)).trans hx274_1
     have HR274_0:=Aside0.mk hi274_0
     have HC274_0:=Aside0.mk hl274_0
     clear hi274_0 hl274_0
     replace p274:=eq_true p274
     replace q274:=eq_true q274
     have p275:0≤(x12_2:Int):=zod
     have q275:x12_2 < (l1.length:Int):=zod
     obtain ⟨ad275,A275_0,c275_0,e275,hx275_0,hx275_1,hl275_0,hi275_0⟩:=at_T31 HR1.out x12_2 p275 q275
     cases e275
     replace hx275_0:=(HB.out.cell (World.block_lt_of_cell? w _ hx275_0)).trans hx275_0
     replace hx275_1:=(HB.out.cell (World.block_lt_of_cell? w _ hx275_1)).trans hx275_1
     have HR275_0:=Aside0.mk hi275_0
     have HC275_0:=Aside0.mk hl275_0
     clear hi275_0 hl275_0
     replace p275:=eq_true p275
     replace q275:=eq_true q275
     try go_wp2
     have n0_:=Aside0.mk (Kd.N_drew HO_10.out)
     have n1_:=Aside0.mk (below_drew1 HB.out)
     clear HO_10
     clear HB
     have HO_10:=n0_
     have HB:=n1_
     clear n0_ n1_
     have p276:0≤(x11_1:Int):=zod
     have q276:x11_1 < (l0.length:Int):=zod
     obtain ⟨ad276,A276_0,c276_0,e276,hx276_0,hx276_1,hl276_0,hi276_0⟩:=at_T31 HR0.out x11_1 p276 q276
     have hw276_1:=hx276_1
     have hw276_0:=hx276_0
     obtain rfl:ad274=ad276:=(by injection e276)
     replace hx276_0:=(HB.out.cell (World.block_lt_of_cell? w _ hx276_0)).trans hx276_0
     replace hx276_1:=(HB.out.cell (World.block_lt_of_cell? w _ hx276_1)).trans hx276_1
     have HR276_0:=Aside0.mk hi276_0
     have HC276_0:=Aside0.mk hl276_0
     clear hi276_0 hl276_0
     replace p276:=eq_true p276
     replace q276:=eq_true q276
     have p277:0≤(a2:Int):=zod
     have q277:a2 < (((rd_T31 l0 x11_1).f0).length:Int):=zod
     obtain ⟨ad277,e277,hx277_0⟩:=Kd.at_int HR276_0.out a2 p277 q277
     have hw277_0:=hx277_0
     cases e277
     replace hx277_0:=(HB.out.cell (World.block_lt_of_cell? w _ hx277_0)).trans hx277_0
     replace p277:=eq_true p277
     replace q277:=eq_true q277
     have p278:0≤(x12_2:Int):=zod
     have q278:x12_2 < (l1.length:Int):=zod
     obtain ⟨ad278,A278_0,c278_0,e278,hx278_0,hx278_1,hl278_0,hi278_0⟩:=at_T31 HR1.out x12_2 p278 q278
     have hw278_1:=hx278_1
     have hw278_0:=hx278_0
     obtain rfl:ad275=ad278:=(by injection e278)
     replace hx278_0:=(HB.out.cell (World.block_lt_of_cell? w _ hx278_0)).trans hx278_0
     replace hx278_1:=(HB.out.cell (World.block_lt_of_cell? w _ hx278_1)).trans hx278_1
     have HR278_0:=Aside0.mk hi278_0
     have HC278_0:=Aside0.mk hl278_0
     clear hi278_0 hl278_0
     replace p278:=eq_true p278
     replace q278:=eq_true q278
     have p279:0≤(a3:Int):=zod
     have q279:a3 < (((rd_T31 l1 x12_2).f0).length:Int):=zod
     obtain ⟨ad279,e279,hx279_0⟩:=Kd.at_int HR278_0.out a3 p279 q279
     have hw279_0:=hx279_0
     cases e279
     replace hx279_0:=(HB.out.cell (World.block_lt_of_cell? w _ hx279_0)).trans hx279_0
     replace p279:=eq_true p279
     replace q279:=eq_true q279
     refine start_ (n:=17) (S:=fun w'=>w'.cell? (ad274.add ((x11_1).toNat * 2))=some (.slice (some ad277) ((rd_T31 l0 x11_1).f0).length c276_0)∧w'.cell? ⟨(ad274.add ((x11_1).toNat * 2)).block,(ad274.add ((x11_1).toNat * 2)).off + 1,none⟩=some (.int .i64 ((rd_T31 l0 x11_1).f1))∧w'.cell? (ad277.add (a2).toNat)=some (.int .i64 (rd ((rd_T31 l0 x11_1).f0) a2))∧w'.cell? (ad275.add ((x12_2).toNat * 2))=some (.slice (some ad279) ((rd_T31 l1 x12_2).f0).length c278_0)∧w'.cell? ⟨(ad275.add ((x12_2).toNat * 2)).block,(ad275.add ((x12_2).toNat * 2)).off + 1,none⟩=some (.int .i64 ((rd_T31 l1 x12_2).f1))∧w'.cell? (ad279.add (a3).toNat)=some (.int .i64 (rd ((rd_T31 l1 x12_2).f0) a3))) (ds:=[]) (zm 17 0) (by kernel_rfl) rfl rfl ⟨((HB.out.cell (World.block_lt_of_cell? w _ hw276_0)).trans hw276_0),((HB.out.cell (World.block_lt_of_cell? w _ hw276_1)).trans hw276_1),((HB.out.cell (World.block_lt_of_cell? w _ hw277_0)).trans hw277_0),((HB.out.cell (World.block_lt_of_cell? w _ hw278_0)).trans hw278_0),((HB.out.cell (World.block_lt_of_cell? w _ hw278_1)).trans hw278_1),((HB.out.cell (World.block_lt_of_cell? w _ hw279_0)).trans hw279_0)⟩ (fun hHeld=>?_);refine with_tabW spec_l5Join.tab10 spec_l5Join.bits10 (fun HT_ HW_=>?_)
     generalize wr.drew=w21 at HO_10 HB HR276_0 HR278_0 hx276_0 hx276_1 hx277_0 hx278_0 hx278_1 hx279_0 hHeld ⊢
     refine zpu 0 45 17 1 ?_
     refine zpu 1 46 17 3 ?_
     refine zpu 2 47 17 7 ?_
     refine zpu 3 48 17 15 ?_
     refine zpu 5 50 17 47 ?_
     refine zpu 8 53 17 303 ?_
     refine zpu 9 54 17 815 ?_
     refine zpu 10 55 17 1839 ?_
     refine zpu 11 56 17 3887 ?_
     refine zpu 13 58 17 12079 ?_
     refine zta 4 49 17 12095 ?_
     refine zpu 6 51 17 12159 ?_
     refine zta 7 52 17 12287 ?_
     refine zta 12 57 17 16383 ?_
     refine zpu 14 59 17 32767 ?_
     refine zta 15 60 17 65535 ?_
     refine zpu 16 61 17 131071 ?_
     refine done_ (done_of HT_.out (by kernel_rfl)) ?_
     try go_wp2
     have n0_:=Aside0.mk (Kd.N_drew HO_10.out)
     have n1_:=Aside0.mk (below_drew1 HB.out)
     clear HO_10
     clear HB
     have HO_10:=n0_
     have HB:=n1_
     clear n0_ n1_
     have p280:0≤(x11_1:Int):=zod
     have q280:x11_1 < (l0.length:Int):=zod
     obtain ⟨ad280,A280_0,c280_0,e280,hx280_0,hx280_1,hl280_0,hi280_0⟩:=at_T31 HR0.out x11_1 p280 q280
     have hw280_1:=hx280_1
     have hw280_0:=hx280_0
     obtain rfl:ad274=ad280:=(by injection e280)
     replace hx280_0:=(HB.out.cell (World.block_lt_of_cell? w _ hx280_0)).trans hx280_0
     replace hx280_1:=(HB.out.cell (World.block_lt_of_cell? w _ hx280_1)).trans hx280_1
     have HR280_0:=Aside0.mk hi280_0
     have HC280_0:=Aside0.mk hl280_0
     clear hi280_0 hl280_0
     replace p280:=eq_true p280
     replace q280:=eq_true q280
     have p281:0≤(x12_2:Int):=zod
     have q281:x12_2 < (l1.length:Int):=zod
     obtain ⟨ad281,A281_0,c281_0,e281,hx281_0,hx281_1,hl281_0,hi281_0⟩:=at_T31 HR1.out x12_2 p281 q281
     have hw281_1:=hx281_1
     have hw281_0:=hx281_0
     obtain rfl:ad275=ad281:=(by injection e281)
     replace hx281_0:=(HB.out.cell (World.block_lt_of_cell? w _ hx281_0)).trans hx281_0
     replace hx281_1:=(HB.out.cell (World.block_lt_of_cell? w _ hx281_1)).trans hx281_1
     have HR281_0:=Aside0.mk hi281_0
     have HC281_0:=Aside0.mk hl281_0
     clear hi281_0 hl281_0
     replace p281:=eq_true p281
     replace q281:=eq_true q281
     have p285:0≤(x11_1:Int):=zod
     have q285:x11_1 < (l0.length:Int):=zod
     obtain ⟨ad285,A285_0,c285_0,e285,hx285_0,hx285_1,hl285_0,hi285_0⟩:=at_T31 HR0.out x11_1 p285 q285
     have hw285_1:=hx285_1
     have hw285_0:=hx285_0
     obtain rfl:ad274=ad285:=(by injection e285)
     replace hx285_0:=(HB.out.cell (World.block_lt_of_cell? w _ hx285_0)).trans hx285_0
     replace hx285_1:=(HB.out.cell (World.block_lt_of_cell? w _ hx285_1)).trans hx285_1
     have HR285_0:=Aside0.mk hi285_0
     have HC285_0:=Aside0.mk hl285_0
     clear hi285_0 hl285_0
     replace p285:=eq_true p285
     replace q285:=eq_true q285
     have ea_:=Option.some.inj (hx280_0.symm.trans hx285_0)
     injection ea_ with ea_ en_ ec_
     subst ea_
     subst ec_
     clear en_
     have p286:0≤(x12_2:Int):=zod
     have q286:x12_2 < (l1.length:Int):=zod
     obtain ⟨ad286,A286_0,c286_0,e286,hx286_0,hx286_1,hl286_0,hi286_0⟩:=at_T31 HR1.out x12_2 p286 q286
     have hw286_1:=hx286_1
     have hw286_0:=hx286_0
     obtain rfl:ad275=ad286:=(by injection e286)
     replace hx286_0:=(HB.out.cell (World.block_lt_of_cell? w _ hx286_0)).trans hx286_0
     replace hx286_1:=(HB.out.cell (World.block_lt_of_cell? w _ hx286_1)).trans hx286_1
     have HR286_0:=Aside0.mk hi286_0
     have HC286_0:=Aside0.mk hl286_0
     clear hi286_0 hl286_0
     replace p286:=eq_true p286
     replace q286:=eq_true q286
     have ea_:=Option.some.inj (hx281_0.symm.trans hx286_0)
     injection ea_ with ea_ en_ ec_
     subst ea_
     subst ec_
     clear en_
     refine start_ (n:=25) (S:=fun w'=>w'.cell? (ad274.add ((x11_1).toNat * 2))=some (.slice A280_0 ((rd_T31 l0 x11_1).f0).length c280_0)∧w'.cell? ⟨(ad274.add ((x11_1).toNat * 2)).block,(ad274.add ((x11_1).toNat * 2)).off + 1,none⟩=some (.int .i64 ((rd_T31 l0 x11_1).f1))∧w'.cell? (ad275.add ((x12_2).toNat * 2))=some (.slice A281_0 ((rd_T31 l1 x12_2).f0).length c281_0)∧w'.cell? ⟨(ad275.add ((x12_2).toNat * 2)).block,(ad275.add ((x12_2).toNat * 2)).off + 1,none⟩=some (.int .i64 ((rd_T31 l1 x12_2).f1))∧w'.cell? (ad274.add ((x11_1).toNat * 2))=some (.slice A280_0 ((rd_T31 l0 x11_1).f0).length c280_0)∧w'.cell? ⟨(ad274.add ((x11_1).toNat * 2)).block,(ad274.add ((x11_1).toNat * 2)).off + 1,none⟩=some (.int .i64 ((rd_T31 l0 x11_1).f1))∧w'.cell? (ad275.add ((x12_2).toNat * 2))=some (.slice A281_0 ((rd_T31 l1 x12_2).f0).length c281_0)∧w'.cell? ⟨(ad275.add ((x12_2).toNat * 2)).block,(ad275.add ((x12_2).toNat * 2)).off + 1,none⟩=some (.int .i64 ((rd_T31 l1 x12_2).f1))) (ds:=[]) (zm 25 0) (by kernel_rfl) rfl rfl ⟨((HB.out.cell (World.block_lt_of_cell? w _ hw280_0)).trans hw280_0),((HB.out.cell (World.block_lt_of_cell? w _ hw280_1)).trans hw280_1),((HB.out.cell (World.block_lt_of_cell? w _ hw281_0)).trans hw281_0),((HB.out.cell (World.block_lt_of_cell? w _ hw281_1)).trans hw281_1),((HB.out.cell (World.block_lt_of_cell? w _ hw285_0)).trans hw285_0),((HB.out.cell (World.block_lt_of_cell? w _ hw285_1)).trans hw285_1),((HB.out.cell (World.block_lt_of_cell? w _ hw286_0)).trans hw286_0),((HB.out.cell (World.block_lt_of_cell? w _ hw286_1)).trans hw286_1)⟩ (fun hHeld=>?_);refine with_tabW spec_l5Join.tab11 spec_l5Join.bits11 (fun HT_ HW_=>?_)
     generalize w21.drew=w22 at HO_10 HB HR280_0 HR281_0 HR285_0 HR286_0 hx280_0 hx280_1 hx281_0 hx281_1 hx285_0 hx285_1 hx286_0 hx286_1 hHeld ⊢
     refine zpu 0 62 25 1 ?_
     refine zpu 1 63 25 3 ?_
     refine zpu 2 64 25 7 ?_
     refine zpu 3 65 25 15 ?_
     refine zpu 4 66 25 31 ?_
     refine zpu 6 68 25 95 ?_
     refine zpu 7 69 25 223 ?_
     refine zpu 8 70 25 479 ?_
     refine zpu 9 71 25 991 ?_
     refine zpu 12 74 25 5087 ?_
     refine zpu 13 75 25 13279 ?_
     refine zpu 14 76 25 29663 ?_
     refine zpu 15 77 25 62431 ?_
     refine zpu 17 79 25 193503 ?_
     refine zpu 18 80 25 455647 ?_
     refine zpu 19 81 25 979935 ?_
     refine zpu 20 82 25 2028511 ?_
     refine zta 5 67 25 2028543 ?_
     refine zta 10 72 25 2029567 ?_
     refine zta 16 78 25 2095103 ?_
     refine zta 21 83 25 4192255 ?_
     refine zpu 22 84 25 8386559 ?_
     refine one_ (i:=11) (N:=some 73) (zm 25 8388607) rfl rfl (one_of HT_.out (by kernel_rfl)) (by decide) (fun K hK=>?_)
     refine goes_ Tryd.func59 (by kernel_rfl) rfl #[.slice A280_0 ((rd_T31 l0 x11_1).f0).length c280_0,.slice A281_0 ((rd_T31 l1 x12_2).f0).length c281_0] (by rfl) rfl rfl zar ?_
     with_reducible refine (spec_RowJoin.calls _ _ ((rd_T31 l0 x11_1).f0) _ _ ((rd_T31 l1 x12_2).f0) t282 _ ?side1 ?side2 ?side3 ?side4 A19.out).mono ?_
     (case side1=>exact zC (Kd.C_below HR280_0.out HB.out))
     (case side2=>exact HC280_0.out)
     (case side3=>exact zC (Kd.C_below HR281_0.out HB.out))
     (case side4=>exact HC281_0.out)
     rintro e w23 ⟨v283,rfl,ho0,hb⟩
     refine ⟨_,rfl,?_⟩
     have n0_:=Aside0.mk (Kd.N_elder' (zN HO_10.out) (Kd.R_base ho0) hb)
     have n1_:=Aside0.mk (Kd.R_lower (Kd.R_newM (M:=fun k_=>(w.heap.size≤k_)) ho0 (below_size zhb) (fun k_ h_=>h_)) (below_size zhb))
     have n2_:=Aside0.mk (below_step zhb hb)
     clear HO_10
     clear HB
     have HO_10:=n0_
     have HO284:=n1_
     have HB:=n2_
     clear n0_ n1_ n2_
     (try clear hb)
     (try clear hb2)
     (try clear hk)
     (try clear hi)
     (try clear ho0)
     obtain ⟨Ao24,co24,eo24⟩:=Kd.N_slice HO_10.out
     (first|subst eo24|(injection eo24 with f1_ f2_ f3_;have f4_:=f1_.symm;have f5_:=f3_.symm;clear f1_ f2_ f3_;subst f4_;subst f5_))
     obtain ⟨Ao25,co25,eo25⟩:=Kd.R_slice HO284.out
     (first|subst eo25|(injection eo25 with f1_ f2_ f3_;have f4_:=f1_.symm;have f5_:=f3_.symm;clear f1_ f2_ f3_;subst f4_;subst f5_))
     refine hK.out _ _ ⟨((HB.out.cell (World.block_lt_of_cell? w _ hw280_0)).trans hw280_0),((HB.out.cell (World.block_lt_of_cell? w _ hw280_1)).trans hw280_1),((HB.out.cell (World.block_lt_of_cell? w _ hw281_0)).trans hw281_0),((HB.out.cell (World.block_lt_of_cell? w _ hw281_1)).trans hw281_1),((HB.out.cell (World.block_lt_of_cell? w _ hw285_0)).trans hw285_0),((HB.out.cell (World.block_lt_of_cell? w _ hw285_1)).trans hw285_1),((HB.out.cell (World.block_lt_of_cell? w _ hw286_0)).trans hw286_0),((HB.out.cell (World.block_lt_of_cell? w _ hw286_1)).trans hw286_1)⟩ (fun hHeld=>?_)
     clear hK K
     refine norm_ (a':=?_) ?_ ?_
     rotate_left
     ·show Act.put _ (some 73) _=_
      simp only [Act.put,zp1,zp2,zp3,i64_w,i32_w]
      rfl
     refine one_ (i:=23) (N:=some 85) (zm 25 16777215) rfl rfl (one_of HT_.out (by kernel_rfl)) (by decide) (fun K hK=>?_)
     refine goes_ Tryd.func58 (by kernel_rfl) rfl #[.slice Ao24 x10_2.length co24,.slice Ao25 t282.length co25,.int .i64 (wrap64 (((rd_T31 l0 x11_1).f1) * ((rd_T31 l1 x12_2).f1)))] (by rfl) rfl rfl zar ?_
     refine (spec_l2Put.calls k2 w.heap.size (fun k_=>(w.heap.size≤k_)∧some k_≠(.slice Ao25 t282.length co25:Value).ownBlock) (.slice Ao24 x10_2.length co24) x10_2 _ _ t282 (wrap64 (((rd_T31 l0 x11_1).f1) * ((rd_T31 l1 x12_2).f1))) t287 w _ ?side1 ?side2 ?side3 ?side4 ?side5 ?side6 A20.out).mono ?_
     (case side1=>exact (below_size zhb))
     (case side2=>exact zhb)
     (case side3=>exact (zN HO_10.out))
     (case side4=>exact (fun k_ hk=>⟨(Nat.le_trans (below_size zhb) hk),Kd.fresh' (Kd.R_lt (by (with_reducible repeat (first|apply Kd.R_alloc|apply Kd.R_drewN|apply Kd.R_drew));exact HO284.out)) k_ hk⟩))
     (case side5=>repeat (first|exact (Kd.R_reads' HO284.out).2.2|(with_reducible refine Kd.C_alloc ?_ _)|(with_reducible refine Kd.C_drewN ?_ _)|(with_reducible refine Kd.C_drew ?_)))
     (case side6=>exact (Kd.R_reads' HO284.out).2.1)
     rintro e w26 ⟨v288,rfl,ho,hb,hg,hat⟩
     refine ⟨_,rfl,?_⟩
     have n0_:=Aside0.mk (Kd.R_over' (by (with_reducible repeat (first|apply Kd.R_alloc|apply Kd.R_drewN|apply Kd.R_drew));exact HO284.out) (Kd.N_typed (zN HO_10.out)) (by decide) hg)
     have n1_:=Aside0.mk (hb)
     have n2_:=Aside0.mk (ho)
     clear HO284
     clear HB
     clear HO_10
     have HO284:=n0_
     have HB:=n1_
     have HO289:=n2_
     clear n0_ n1_ n2_
     clear ho hb hg hat
     refine hK.out _ _ ⟨((HB.out.cell (World.block_lt_of_cell? w _ hw280_0)).trans hw280_0),((HB.out.cell (World.block_lt_of_cell? w _ hw280_1)).trans hw280_1),((HB.out.cell (World.block_lt_of_cell? w _ hw281_0)).trans hw281_0),((HB.out.cell (World.block_lt_of_cell? w _ hw281_1)).trans hw281_1),((HB.out.cell (World.block_lt_of_cell? w _ hw285_0)).trans hw285_0),((HB.out.cell (World.block_lt_of_cell? w _ hw285_1)).trans hw285_1),((HB.out.cell (World.block_lt_of_cell? w _ hw286_0)).trans hw286_0),((HB.out.cell (World.block_lt_of_cell? w _ hw286_1)).trans hw286_1)⟩ (fun hHeld=>?_)
     clear hK K
     refine norm_ (a':=?_) ?_ ?_
     rotate_left
     ·show Act.put _ (some 85) _=_
      simp only [Act.put,zp1,zp2,zp3,i64_w,i32_w]
      rfl
     refine zpu 24 10 25 33554431 ?_
     refine done_ (done_of HT_.out (by kernel_rfl)) ?_
     try go_wp2
     go_roundg k2
     case measure=>have:=HK1.out;have:=HK2.out;omega
     case rel=>exact ⟨(t287),(wrap64 (x12_2 + 1)),(by first|rfl|(simp;done)|(simp [*];done)),H',⟨by have:=HK1.out;have:=HK2.out;omega⟩,⟨by (with_reducible repeat (first|apply Kd.N_alloc|apply Kd.N_drewN|apply Kd.N_drew));exact Kd.N_mono HO289.out (fun _ hk=>hk.1)⟩,⟨zhb⟩⟩
end Go.Proofs.YtlknceioincaeaaDoor.PFnJoin
