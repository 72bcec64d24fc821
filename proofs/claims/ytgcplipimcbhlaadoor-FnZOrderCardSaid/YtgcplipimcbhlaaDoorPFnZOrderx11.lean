-- Written by wip/tools/pp.py, a program of this session over the kit's printer: not the kit's own print
import Derived.Test.YtgcplipimcbhlaaDoorPFnZOrderx0
import Derived.Test.YtgcplipimcbhlaaDoorPFnZOrderx10
namespace Go.Proofs.YtgcplipimcbhlaaDoor.PFnZOrder
open Go.RowKit Go.Proofs.YtgcplipimcbhlaaDoorW.PrintWords Go.Proofs.YtgcplipimcbhlaaDoorW.PrintLast Go.Proofs.YtgcplipimcbhlaaDoorW.PrintMore
attribute [local go_sem] max2_int min2_int max_two min_two max_three min_three max_four min_four   -- for this text's walks alone
set_option linter.unusedVariables false
set_option linter.unusedSimpArgs false

/-! ### impl_merged_impl_Item__impl_cmpItem_impl_together_1: function 83 -/
def impl_merged_impl_Item__impl_cmpItem_impl_together_1.l0:Nat→List (S53)→List (S53)→List (S53)→Option ((List (S53)))
 | 0,_,_,_=>none
 | k + 1,x0,x1,x9=>if (x0.length:Int) > 0 then (if (x1.length:Int) > 0 then (if 0 < (x0.length:Int) then (if 0 < (x1.length:Int) then ((impl_cmpItem.f k ((rd_T53 x0 0).f0) ((rd_T53 x0 0).f1) ((rd_T53 x1 0).f0) ((rd_T53 x1 0).f1)).bind fun t283=>(if t283 < 0 then (if x9.length < 4398046511104 then (if 1≤(x0.length:Int) then (impl_merged_impl_Item__impl_cmpItem_impl_together_1.l0 k (x0.drop 1) x1 (x9 ++ [(⟨(rd_T53 x0 0).f0,(rd_T53 x0 0).f1⟩:S53)])) else (none)) else (none)) else (if t283 > 0 then (if x9.length < 4398046511104 then (if 1≤(x1.length:Int) then (impl_merged_impl_Item__impl_cmpItem_impl_together_1.l0 k x0 (x1.drop 1) (x9 ++ [(⟨(rd_T53 x1 0).f0,(rd_T53 x1 0).f1⟩:S53)])) else (none)) else (none)) else ((impl_together_1.f ((rd_T53 x0 0).f0) ((rd_T53 x0 0).f1) ((rd_T53 x1 0).f0) ((rd_T53 x1 0).f1)).bind fun bt304=>(if bt304.2.2=true then (if x9.length < 4398046511104 then (if 1≤(x0.length:Int) then (if 1≤(x1.length:Int) then (impl_merged_impl_Item__impl_cmpItem_impl_together_1.l0 k (x0.drop 1) (x1.drop 1) (x9 ++ [(⟨bt304.1,bt304.2.1⟩:S53)])) else (none)) else (none)) else (none)) else (if 1≤(x0.length:Int) then (if 1≤(x1.length:Int) then (impl_merged_impl_Item__impl_cmpItem_impl_together_1.l0 k (x0.drop 1) (x1.drop 1) x9) else (none)) else (none))))))) else (none)) else (none)) else (if x9.length + x0.length < 4398046511104 then ((some (x9 ++ x0:List (S53))).bind fun y333=>(if y333.length + x1.length < 4398046511104 then (some (y333 ++ x1)) else (none))) else (none))) else (if x9.length + x0.length < 4398046511104 then ((some (x9 ++ x0:List (S53))).bind fun y339=>(if y339.length + x1.length < 4398046511104 then (some (y339 ++ x1)) else (none))) else (none))
def impl_merged_impl_Item__impl_cmpItem_impl_together_1.f (k:Nat) (l0:List (S53)) (l1:List (S53))  :Option ((List (S53))):=impl_merged_impl_Item__impl_cmpItem_impl_together_1.l0 k l0 l1 ([]:List (S53))
theorem impl_merged_impl_Item__impl_cmpItem_impl_together_1.mono_l : ∀ k,(∀ y0 y1 y2,LeO (impl_merged_impl_Item__impl_cmpItem_impl_together_1.l0 k y0 y1 y2) (impl_merged_impl_Item__impl_cmpItem_impl_together_1.l0 (k + 1) y0 y1 y2))
 | 0=>fun _ _ _ r h=>by simp [impl_merged_impl_Item__impl_cmpItem_impl_together_1.l0] at h
 | k + 1=>by
  have ih0:=impl_merged_impl_Item__impl_cmpItem_impl_together_1.mono_l k
  ·intro y0 y1 y2
   unfold impl_merged_impl_Item__impl_cmpItem_impl_together_1.l0
   repeat' first
   | (with_reducible exact ih0 _ _ _)
   | (with_reducible exact impl_cmpItem.mono _ _ _ _ _)
   | (with_reducible exact LeO.refl _)
   | (with_reducible exact LeO.none _)
   | (with_reducible refine LeO.ite ?_ ?_)
   | (with_reducible refine LeO.bind ?_ (fun _=>?_))
   | exact LeO.none _
   | refine LeO.ite ?_ ?_
   | refine LeO.bind ?_ (fun _=>?_)
theorem impl_merged_impl_Item__impl_cmpItem_impl_together_1.mono : ∀ a0 a1 k,LeO (impl_merged_impl_Item__impl_cmpItem_impl_together_1.f k a0 a1) (impl_merged_impl_Item__impl_cmpItem_impl_together_1.f (k + 1) a0 a1):=by
 intro a0 a1 k
 have ih0:=impl_merged_impl_Item__impl_cmpItem_impl_together_1.mono_l k
 unfold impl_merged_impl_Item__impl_cmpItem_impl_together_1.f
 repeat' first
   | (with_reducible exact ih0 _ _ _)
   | (with_reducible exact impl_cmpItem.mono _ _ _ _ _)
   | (with_reducible exact LeO.refl _)
   | (with_reducible exact LeO.none _)
   | (with_reducible refine LeO.ite ?_ ?_)
   | (with_reducible refine LeO.bind ?_ (fun _=>?_))
   | exact LeO.none _
   | refine LeO.ite ?_ ?_
   | refine LeO.bind ?_ (fun _=>?_)
def impl_merged_impl_Item__impl_cmpItem_impl_together_1.T3:Bool × List (List Nat × List Nat):=(true,[([],[]),([],[]),([1],[1]),([2],[2]),([],[]),([4],[4]),([5],[5]),([0,3,6],[0,3,6]),([7,7,0,1,2,3,4,5,6,7],[7])])
def impl_merged_impl_Item__impl_cmpItem_impl_together_1.B3:List Nat:=[0,0,2,6,0,16,48,127,255]
theorem impl_merged_impl_Item__impl_cmpItem_impl_together_1.tab3:rtab .any (opsOf Tryd.f83 3)=impl_merged_impl_Item__impl_cmpItem_impl_together_1.T3:=by kernel_rfl
theorem impl_merged_impl_Item__impl_cmpItem_impl_together_1.bits3:waitsOk impl_merged_impl_Item__impl_cmpItem_impl_together_1.T3.2 impl_merged_impl_Item__impl_cmpItem_impl_together_1.B3=true:=by kernel_rfl
def impl_merged_impl_Item__impl_cmpItem_impl_together_1.T4:Bool × List (List Nat × List Nat):=(true,[([],[]),([],[]),([1],[1]),([2],[2]),([],[]),([4],[4]),([5],[5]),([0,3,6],[0,3,6]),([7],[7]),([8],[8]),([8],[8]),([],[]),([11,9,7,0,1,2,3,4,5,6,7,8,9,11],[9,11]),([10,12,0,1,2,3,4,5,6,7,8,9,10,11,12],[10])])
def impl_merged_impl_Item__impl_cmpItem_impl_together_1.B4:List Nat:=[0,0,2,6,0,16,48,127,255,511,511,0,3071,8191]
theorem impl_merged_impl_Item__impl_cmpItem_impl_together_1.tab4:rtab .any (opsOf Tryd.f83 4)=impl_merged_impl_Item__impl_cmpItem_impl_together_1.T4:=by kernel_rfl
theorem impl_merged_impl_Item__impl_cmpItem_impl_together_1.bits4:waitsOk impl_merged_impl_Item__impl_cmpItem_impl_together_1.T4.2 impl_merged_impl_Item__impl_cmpItem_impl_together_1.B4=true:=by kernel_rfl
def impl_merged_impl_Item__impl_cmpItem_impl_together_1.T9:Bool × List (List Nat × List Nat):=(true,[([],[]),([],[]),([1],[1]),([2],[2]),([3],[3]),([0,4],[0,4]),([],[]),([6],[6]),([5,5,0,1,2,3,4,5],[0,5]),([7,8,0,1,2,3,4,5,6,7,8],[1,6,7])])
def impl_merged_impl_Item__impl_cmpItem_impl_together_1.B9:List Nat:=[0,0,2,6,14,31,0,64,63,511]
theorem impl_merged_impl_Item__impl_cmpItem_impl_together_1.tab9:rtab .any (opsOf Tryd.f83 9)=impl_merged_impl_Item__impl_cmpItem_impl_together_1.T9:=by kernel_rfl
theorem impl_merged_impl_Item__impl_cmpItem_impl_together_1.bits9:waitsOk impl_merged_impl_Item__impl_cmpItem_impl_together_1.T9.2 impl_merged_impl_Item__impl_cmpItem_impl_together_1.B9=true:=by kernel_rfl
def impl_merged_impl_Item__impl_cmpItem_impl_together_1.T11:Bool × List (List Nat × List Nat):=(true,[([],[]),([],[]),([1],[1]),([2],[2]),([3],[3]),([0,4],[0,4]),([],[]),([6],[6]),([5,5,0,1,2,3,4,5],[0,5]),([7,8,0,1,2,3,4,5,6,7,8],[1,6,7])])
def impl_merged_impl_Item__impl_cmpItem_impl_together_1.B11:List Nat:=[0,0,2,6,14,31,0,64,63,511]
theorem impl_merged_impl_Item__impl_cmpItem_impl_together_1.tab11:rtab .any (opsOf Tryd.f83 11)=impl_merged_impl_Item__impl_cmpItem_impl_together_1.T11:=by kernel_rfl
theorem impl_merged_impl_Item__impl_cmpItem_impl_together_1.bits11:waitsOk impl_merged_impl_Item__impl_cmpItem_impl_together_1.T11.2 impl_merged_impl_Item__impl_cmpItem_impl_together_1.B11=true:=by kernel_rfl
set_option maxHeartbeats 8000000 in
set_option maxRecDepth 100000 in
theorem impl_merged_impl_Item__impl_cmpItem_impl_together_1.calls (k:Nat) (P0_:Nat→Prop) (A0:Option Addr) (c0:Nat) (l0:List (S53)) (P1_:Nat→Prop) (A1:Option Addr) (c1:Nat) (l1:List (S53))   (r:List (S53)) (w:World) (hs0:Kd.V k53 53 w w.heap.size (fun k_=>P0_ k_) (.slice A0 l0.length c0) l0) (hs1:Kd.V k53 53 w w.heap.size (fun k_=>P1_ k_) (.slice A1 l1.length c1) l1) (h:impl_merged_impl_Item__impl_cmpItem_impl_together_1.f k l0 l1=some r) :
  Calls Tryd.prog 83 #[.slice A0 l0.length c0,.slice A1 l1.length c1,.func (.func 84) #[] #[],.func (.func 85) #[] #[]] w fun e w'=>∃ v0_:Value,e=.returned (v0_)∧Kd.N k53 53 w' w.heap.size (fun k_=>((P0_ k_∨P1_ k_)∨w.heap.size≤k_)) v0_ r∧Below w.heap.size w w':=by
 have hu53:=Tryd.underlying53
 have HO0:=Aside0.mk (show Kd.V k53 53 w w.heap.size (fun k_=>((P0_ k_∨P1_ k_)∨w.heap.size≤k_)) (.slice A0 l0.length c0) l0 from Kd.V_mono hs0 (fun k_ hk=>.inl (.inl hk)))
 have HO1:=Aside0.mk (show Kd.V k53 53 w w.heap.size (fun k_=>((P0_ k_∨P1_ k_)∨w.heap.size≤k_)) (.slice A1 l1.length c1) l1 from Kd.V_mono hs1 (fun k_ hk=>.inl (.inr hk)))
 have HB:=Aside0.mk (Below.refl w.heap.size w)
 have H:(impl_merged_impl_Item__impl_cmpItem_impl_together_1.l0 k l0 l1 ([]:List (S53)))=some r:=h
 clear h
 have H':=Aside0.mk H
 clear H
 go_enter Tryd.func83,Tryd.ntmps83
 go_wp2
 go_loopg [0,1,9] k (fun kq v0 v1 v9 w'=>∃ (x0_1:List (S53)) (x1_1:List (S53)) (x9_1:List (S53)),Aside0 (impl_merged_impl_Item__impl_cmpItem_impl_together_1.l0 kq x0_1 x1_1 x9_1=some r)∧Aside0 (kq≤k)∧Aside0 (Kd.V k53 53 w' w.heap.size (fun k_=>((P0_ k_∨P1_ k_)∨w.heap.size≤k_)∧some k_≠(v9:Value).ownBlock) v0 x0_1)∧Aside0 (Kd.V k53 53 w' w.heap.size (fun k_=>((P0_ k_∨P1_ k_)∨w.heap.size≤k_)∧some k_≠(v9:Value).ownBlock) v1 x1_1)∧Aside0 (Kd.N k53 53 w' w.heap.size (fun k_=>((P0_ k_∨P1_ k_)∨w.heap.size≤k_)) v9 x9_1)∧Aside0 (Below w.heap.size w w'))
 case atStart=>exact ⟨(l0),(l1),(([]:List (S53))),H',⟨Nat.le_refl _⟩,⟨by (with_reducible repeat (first|apply Kd.V_alloc|apply Kd.V_drewN|apply Kd.V_drew));exact Kd.V_mono HO0.out (fun _ hk=>⟨hk,(by simp [Value.ownBlock])⟩)⟩,⟨by (with_reducible repeat (first|apply Kd.V_alloc|apply Kd.V_drewN|apply Kd.V_drew));exact Kd.V_mono HO1.out (fun _ hk=>⟨hk,(by simp [Value.ownBlock])⟩)⟩,⟨by first|exact Kd.S_nil _ _ _ _ _|exact Kd.N_nil _ _ _ _ _|exact Kd.V_nil _ _ _ _ _|exact Kd.Q_nil _ _ _ _ _|exact Kd.R_nil _ _ _ _ _⟩,⟨zhb⟩⟩
 case round =>
  clear H'
  try clear c1
  try clear p2
  obtain ⟨x0_1,x1_1,x9_1,HA,HK1,HO_0,HO_1,HO_9,HB⟩:=hrel
  cases gk with
  | zero=>exact absurd HA.out (by simp [impl_merged_impl_Item__impl_cmpItem_impl_together_1.l0])
  | succ k1 =>
   have H:=HA.out
   clear HA
   simp only [impl_merged_impl_Item__impl_cmpItem_impl_together_1.l0] at H
   by_cases c5:(x0_1.length:Int) > 0
   ·rw [if_pos c5] at H
    have c5b0:decide (0 < (x0_1.length:Int))=true:=decide_eq_true c5
    have c5b1:decide (0 < x0_1.length)=true:=decide_eq_true (by omega)
    clear c5
    by_cases c6:(x1_1.length:Int) > 0
    ·rw [if_pos c6] at H
     have c6b0:decide (0 < (x1_1.length:Int))=true:=decide_eq_true c6
     have c6b1:decide (0 < x1_1.length)=true:=decide_eq_true (by omega)
     clear c6
     by_cases c7:0 < (x0_1.length:Int)
     ·rw [if_pos c7] at H
      have c7b0:decide (0 < (x0_1.length:Int))=true:=decide_eq_true c7
      have c7b1:decide (0 < x0_1.length)=true:=decide_eq_true (by omega)
      clear c7
      by_cases c8:0 < (x1_1.length:Int)
      ·rw [if_pos c8] at H
       have c8b0:decide (0 < (x1_1.length:Int))=true:=decide_eq_true c8
       have c8b1:decide (0 < x1_1.length)=true:=decide_eq_true (by omega)
       clear c8
       replace H:=Option.bind_eq_some_iff.mp H
       obtain ⟨t283,A90,H⟩:=H
       (try dsimp only at H)
       have A9:=Aside0.mk A90
       clear A90
       by_cases c10:t283 < 0
       ·rw [if_pos c10] at H
        have c10b0:decide (t283 < 0)=true:=decide_eq_true c10
        clear c10
        by_cases c11:x9_1.length < 4398046511104
        ·rw [if_pos c11] at H
         have LMc11:=Aside0.mk c11
         clear c11
         obtain ⟨y285,hy285⟩ : ∃ y_:List (S53),y_=(x9_1 ++ [(⟨(rd_T53 x0_1 0).f0,(rd_T53 x0_1 0).f1⟩:S53)]):=⟨_,rfl⟩
         replace H:(if 1≤(x0_1.length:Int) then (impl_merged_impl_Item__impl_cmpItem_impl_together_1.l0 k1 (x0_1.drop 1) x1_1 y285) else (none))=some r:=by first|(rw [hy285];with_reducible exact H)|(have H2_:=(Option.bind_some _ _).symm.trans H;rw [hy285];with_reducible exact H2_)|(have H2_:=(Option.bind_some _ _).symm.trans H;with_reducible exact H2_)|with_reducible exact H|(rw [hy285];exact H)|exact H
         have Ny285:=Aside0.mk hy285
         clear hy285
         by_cases c12:1≤(x0_1.length:Int)
         ·rw [if_pos c12] at H
          have c12b0:=eq_true c12
          have c12b1:decide (1≤(x0_1.length:Int))=true:=decide_eq_true c12
          clear c12
          obtain ⟨y288,hy288⟩ : ∃ y_:List (S53),y_=(x0_1.drop 1):=⟨_,rfl⟩
          replace H:(impl_merged_impl_Item__impl_cmpItem_impl_together_1.l0 k1 y288 x1_1 y285)=some r:=by first|(rw [hy288];with_reducible exact H)|(have H2_:=(Option.bind_some _ _).symm.trans H;rw [hy288];with_reducible exact H2_)|(have H2_:=(Option.bind_some _ _).symm.trans H;with_reducible exact H2_)|with_reducible exact H|(rw [hy288];exact H)|exact H
          have Ny288:=Aside0.mk hy288
          clear hy288
          have H':=Aside0.mk H
          clear H
          obtain ⟨Ao13,co13,eo13⟩:=Kd.V_slice HO_0.out
          subst eo13
          obtain ⟨Ao14,co14,eo14⟩:=Kd.V_slice HO_1.out
          subst eo14
          try go_wp2
          have n0_:=Aside0.mk (Kd.V_drew HO_0.out)
          have n1_:=Aside0.mk (Kd.V_drew HO_1.out)
          have n2_:=Aside0.mk (Kd.N_drew HO_9.out)
          have n3_:=Aside0.mk (below_drew1 HB.out)
          clear HO_0
          clear HO_1
          clear HO_9
          clear HB
          have HO_0:=n0_
          have HO_1:=n1_
          have HO_9:=n2_
          have HB:=n3_
          clear n0_ n1_ n2_ n3_
          have p281:0≤(0:Int):=(by omega)
          have q281:0 < (x0_1.length:Int):=zod
          obtain ⟨ad281,A281_0,c281_0,e281,hx281_0,hx281_1,hl281_0,hi281_0⟩:=at_T53 (Kd.V_reads' HO_0.out).2.2 0 p281 q281
          cases e281
          obtain ⟨ce281,hce281,hMe281,hcc281⟩:=Kd.V_get HO_0.out z53 0 p281 (by first|exact q281|exact zod|(have e_:=(Kd.V_reads' HO_0.out).1;omega))
          obtain ⟨ua281_0,uc281_0,rfl,ul281_0,ge281_0⟩:=k53_openF hMe281
          have hv281_0:=hcc281 0 _ rfl
          rw [Nat.add_zero] at hv281_0
          replace hv281_0:=Option.some.inj (hv281_0.symm.trans hx281_0)
          injection hv281_0 with hva_ hvn_ hvc_
          rw [hva_] at ge281_0
          rw [hvc_] at ul281_0
          have HL281_0:=Aside0.mk (show Kd.V (Kd.int .i64) 3 _ w.heap.size _ _ ((rd_T53 x0_1 0).f0) from Kd.V_mk ul281_0 ge281_0)
          clear hva_ hvn_ hvc_ ge281_0 ul281_0
          clear hcc281 hce281
          have qi281:(0 < x0_1.length)=True:=eq_true (by omega)
          (try rw [show ((0:Int)).toNat=0 from rfl] at hx281_0)
          (try rw [show 0 * 2=0 from rfl] at hx281_0)
          (try rw [Addr.add_zero'] at hx281_0)
          (try rw [show ((0:Int)).toNat=0 from rfl] at hx281_1)
          (try rw [show 0 * 2=0 from rfl] at hx281_1)
          (try rw [Addr.add_zero'] at hx281_1)
          have HR281_0:=Aside0.mk hi281_0
          have HC281_0:=Aside0.mk hl281_0
          clear hi281_0 hl281_0
          replace p281:=eq_true p281
          replace q281:=eq_true q281
          have p282:0≤(0:Int):=(by omega)
          have q282:0 < (x1_1.length:Int):=zod
          obtain ⟨ad282,A282_0,c282_0,e282,hx282_0,hx282_1,hl282_0,hi282_0⟩:=at_T53 (Kd.V_reads' HO_1.out).2.2 0 p282 q282
          cases e282
          obtain ⟨ce282,hce282,hMe282,hcc282⟩:=Kd.V_get HO_1.out z53 0 p282 (by first|exact q282|exact zod|(have e_:=(Kd.V_reads' HO_1.out).1;omega))
          obtain ⟨ua282_0,uc282_0,rfl,ul282_0,ge282_0⟩:=k53_openF hMe282
          have hv282_0:=hcc282 0 _ rfl
          rw [Nat.add_zero] at hv282_0
          replace hv282_0:=Option.some.inj (hv282_0.symm.trans hx282_0)
          injection hv282_0 with hva_ hvn_ hvc_
          rw [hva_] at ge282_0
          rw [hvc_] at ul282_0
          have HL282_0:=Aside0.mk (show Kd.V (Kd.int .i64) 3 _ w.heap.size _ _ ((rd_T53 x1_1 0).f0) from Kd.V_mk ul282_0 ge282_0)
          clear hva_ hvn_ hvc_ ge282_0 ul282_0
          clear hcc282 hce282
          have qi282:(0 < x1_1.length)=True:=eq_true (by omega)
          (try rw [show ((0:Int)).toNat=0 from rfl] at hx282_0)
          (try rw [show 0 * 2=0 from rfl] at hx282_0)
          (try rw [Addr.add_zero'] at hx282_0)
          (try rw [show ((0:Int)).toNat=0 from rfl] at hx282_1)
          (try rw [show 0 * 2=0 from rfl] at hx282_1)
          (try rw [Addr.add_zero'] at hx282_1)
          have HR282_0:=Aside0.mk hi282_0
          have HC282_0:=Aside0.mk hl282_0
          clear hi282_0 hl282_0
          replace p282:=eq_true p282
          replace q282:=eq_true q282
          refine start_ (n:=9) (S:=fun w'=>w'.cell? ad281=some (.slice A281_0 ((rd_T53 x0_1 0).f0).length c281_0)∧w'.cell? ⟨ad281.block,ad281.off + 1,none⟩=some (.int .i64 ((rd_T53 x0_1 0).f1))∧w'.cell? ad282=some (.slice A282_0 ((rd_T53 x1_1 0).f0).length c282_0)∧w'.cell? ⟨ad282.block,ad282.off + 1,none⟩=some (.int .i64 ((rd_T53 x1_1 0).f1))) (ds:=[]) #[X,X,X,X,X,X,X,X,X] (by kernel_rfl) rfl rfl ⟨hx281_0,hx281_1,hx282_0,hx282_1⟩ (fun hHeld=>?_);refine with_tabW impl_merged_impl_Item__impl_cmpItem_impl_together_1.tab3 impl_merged_impl_Item__impl_cmpItem_impl_together_1.bits3 (fun HT_ HW_=>?_)
          generalize wr.drew=w15 at HO_0 HO_1 HO_9 HB HL281_0 HL282_0 HR281_0 HR282_0 hx281_0 hx281_1 hx282_0 hx282_1 hHeld ⊢
          refine pure_ (i:=0) (N:=some 21) (v:=?_) (a':=?_) #[Y,X,X,X,X,X,X,X,X] rfl rfl zan (fun _ _ _ h=>h) (Or.inl ⟨by rfl,?_⟩) ?_ ?_
          rotate_left
          ·intro w'
           go_simp
           with_reducible rfl
          rotate_left
          ·simp only [Act.put,zp1,zp2,zp3,i64_w,i32_w]
           rfl
          refine pure_ (i:=1) (N:=some 22) (v:=?_) (a':=?_) #[Y,Y,X,X,X,X,X,X,X] rfl rfl zan (fun _ _ _ h=>h) (Or.inl ⟨by rfl,?_⟩) ?_ ?_
          rotate_left
          ·intro w'
           go_simp
           with_reducible rfl
          rotate_left
          ·simp only [Act.put,zp1,zp2,zp3,i64_w,i32_w]
           rfl
          refine pure_ (i:=2) (N:=some 23) (v:=?_) (a':=?_) #[Y,Y,Y,X,X,X,X,X,X] rfl rfl zan (fun _ _ _ h=>h) (Or.inl ⟨by rfl,?_⟩) ?_ ?_
          rotate_left
          ·intro w'
           go_simp
           with_reducible rfl
          rotate_left
          ·simp only [Act.put,zp1,zp2,zp3,i64_w,i32_w]
           rfl
          refine pure_ (i:=4) (N:=some 25) (v:=?_) (a':=?_) #[Y,Y,Y,X,Y,X,X,X,X] rfl rfl zan (fun _ _ _ h=>h) (Or.inl ⟨by rfl,?_⟩) ?_ ?_
          rotate_left
          ·intro w'
           go_simp
           with_reducible rfl
          rotate_left
          ·simp only [Act.put,zp1,zp2,zp3,i64_w,i32_w]
           rfl
          refine pure_ (i:=5) (N:=some 26) (v:=?_) (a':=?_) #[Y,Y,Y,X,Y,Y,X,X,X] rfl rfl zan (fun _ _ _ h=>h) (Or.inl ⟨by rfl,?_⟩) ?_ ?_
          rotate_left
          ·intro w'
           go_simp
           with_reducible rfl
          rotate_left
          ·simp only [Act.put,zp1,zp2,zp3,i64_w,i32_w]
           rfl
          refine take_ (i:=3) (N:=some 24) (v:=?_) (a':=?_) #[Y,Y,Y,Y,Y,Y,X,X,X] rfl rfl ztw (fun _ _ _ h=>h) (Or.inl ⟨by rfl,?_⟩) hHeld ?_ ?_
          rotate_left
          ·rintro w' ⟨s0,s1,s2,s3⟩
           go_simp
           with_reducible rfl
          rotate_left
          ·simp only [Act.put,zp1,zp2,zp3,i64_w,i32_w]
           rfl
          refine take_ (i:=6) (N:=some 27) (v:=?_) (a':=?_) #[Y,Y,Y,Y,Y,Y,Y,X,X] rfl rfl ztw (fun _ _ _ h=>h) (Or.inl ⟨by rfl,?_⟩) hHeld ?_ ?_
          rotate_left
          ·rintro w' ⟨s0,s1,s2,s3⟩
           go_simp
           with_reducible rfl
          rotate_left
          ·simp only [Act.put,zp1,zp2,zp3,i64_w,i32_w]
           rfl
          refine one_ (i:=7) (N:=some 28) #[Y,Y,Y,Y,Y,Y,Y,Y,X] rfl rfl (one_of HT_.out (by kernel_rfl)) (by decide) (fun K hK=>?_)
          refine goes_f (.tmp 21) Tryd.func84 (by kernel_rfl) rfl #[.agg #[.slice A281_0 ((rd_T53 x0_1 0).f0).length c281_0,.int .i64 ((rd_T53 x0_1 0).f1)],.agg #[.slice A282_0 ((rd_T53 x1_1 0).f0).length c282_0,.int .i64 ((rd_T53 x1_1 0).f1)]] (by rfl) rfl rfl rfl zar ?_
          with_reducible refine (impl_cmpItem.calls k1 _ _ ((rd_T53 x0_1 0).f0) ((rd_T53 x0_1 0).f1) _ _ ((rd_T53 x1_1 0).f0) ((rd_T53 x1_1 0).f1) t283 _ ?side1 ?side2 ?side3 ?side4 A9.out).mono ?_
          (case side1=>exact zC (zC HR281_0.out))
          (case side2=>exact HC281_0.out)
          (case side3=>exact zC (zC HR282_0.out))
          (case side4=>exact HC282_0.out)
          rintro e w16 ⟨rfl,hb⟩
          have HS0_:=zhs hb hHeld.1
          have HS1_:=zhs hb hHeld.2.1
          have HS2_:=zhs hb hHeld.2.2.1
          have HS3_:=zhs hb hHeld.2.2.2
          refine ⟨_,rfl,?_⟩
          have n0_:=Aside0.mk (Kd.V_below (zV HO_0.out) hb)
          have n1_:=Aside0.mk (Kd.V_below (zV HO_1.out) hb)
          have n2_:=Aside0.mk (Kd.N_below (zN HO_9.out) hb)
          have n3_:=Aside0.mk (Kd.V_below (zV HL281_0.out) hb)
          have n4_:=Aside0.mk (Kd.V_below (zV HL282_0.out) hb)
          have n5_:=Aside0.mk (Kd.C_below (zC HR281_0.out) hb)
          have n6_:=Aside0.mk (Kd.C_below (zC HR282_0.out) hb)
          have n7_:=Aside0.mk (below_step zhb hb)
          clear HO_0
          clear HO_1
          clear HO_9
          clear HL281_0
          clear HL282_0
          clear HR281_0
          clear HR282_0
          clear HB
          have HO_0:=n0_
          have HO_1:=n1_
          have HO_9:=n2_
          have HL281_0:=n3_
          have HL282_0:=n4_
          have HR281_0:=n5_
          have HR282_0:=n6_
          have HB:=n7_
          clear n0_ n1_ n2_ n3_ n4_ n5_ n6_ n7_
          (try clear hb)
          (try clear hb2)
          (try clear hk)
          (try clear hi)
          refine hK.out _ _ ⟨HS0_,HS1_,HS2_,HS3_⟩ (fun hHeld=>?_)
          clear hK K
          refine norm_ (a':=?_) ?_ ?_
          rotate_left
          ·show Act.put _ (some 28) _=_
           simp only [Act.put,zp1,zp2,zp3,i64_w,i32_w]
           rfl
          refine pure_ (i:=8) (N:=some 10) (v:=?_) (a':=?_) #[Y,Y,Y,Y,Y,Y,Y,Y,Y] rfl rfl zan (fun _ _ _ h=>h) (Or.inl ⟨by rfl,?_⟩) ?_ ?_
          rotate_left
          ·intro w'
           go_simp
           with_reducible rfl
          rotate_left
          ·simp only [Act.put,zp1,zp2,zp3,i64_w,i32_w]
           rfl
          refine done_ (done_of HT_.out (by kernel_rfl)) ?_
          try go_wp2
          have n0_:=Aside0.mk (Kd.V_drew HO_0.out)
          have n1_:=Aside0.mk (Kd.V_drew HO_1.out)
          have n2_:=Aside0.mk (Kd.N_drew HO_9.out)
          have n3_:=Aside0.mk (Kd.V_drew HL281_0.out)
          have n4_:=Aside0.mk (Kd.V_drew HL282_0.out)
          have n5_:=Aside0.mk (Kd.C_drew HR281_0.out)
          have n6_:=Aside0.mk (Kd.C_drew HR282_0.out)
          have n7_:=Aside0.mk (below_drew1 HB.out)
          clear HO_0
          clear HO_1
          clear HO_9
          clear HL281_0
          clear HL282_0
          clear HR281_0
          clear HR282_0
          clear HB
          have HO_0:=n0_
          have HO_1:=n1_
          have HO_9:=n2_
          have HL281_0:=n3_
          have HL282_0:=n4_
          have HR281_0:=n5_
          have HR282_0:=n6_
          have HB:=n7_
          clear n0_ n1_ n2_ n3_ n4_ n5_ n6_ n7_
          have p284:0≤(0:Int):=(by omega)
          have q284:0 < (x0_1.length:Int):=zod
          obtain ⟨ad284,A284_0,c284_0,e284,hx284_0,hx284_1,hl284_0,hi284_0⟩:=at_T53 (Kd.V_reads' HO_0.out).2.2 0 p284 q284
          obtain rfl:ad281=ad284:=(by injection e284)
          obtain ⟨ce284,hce284,hMe284,hcc284⟩:=Kd.V_get HO_0.out z53 0 p284 (by first|exact q284|exact zod|(have e_:=(Kd.V_reads' HO_0.out).1;omega))
          obtain ⟨ua284_0,uc284_0,rfl,ul284_0,ge284_0⟩:=k53_openF hMe284
          have hv284_0:=hcc284 0 _ rfl
          rw [Nat.add_zero] at hv284_0
          replace hv284_0:=Option.some.inj (hv284_0.symm.trans hx284_0)
          injection hv284_0 with hva_ hvn_ hvc_
          rw [hva_] at ge284_0
          rw [hvc_] at ul284_0
          have HL284_0:=Aside0.mk (show Kd.V (Kd.int .i64) 3 _ w.heap.size _ _ ((rd_T53 x0_1 0).f0) from Kd.V_mk ul284_0 ge284_0)
          clear hva_ hvn_ hvc_ ge284_0 ul284_0
          clear hcc284 hce284
          have qi284:(0 < x0_1.length)=True:=eq_true (by omega)
          (try rw [show ((0:Int)).toNat=0 from rfl] at hx284_0)
          (try rw [show 0 * 2=0 from rfl] at hx284_0)
          (try rw [Addr.add_zero'] at hx284_0)
          (try rw [show ((0:Int)).toNat=0 from rfl] at hx284_1)
          (try rw [show 0 * 2=0 from rfl] at hx284_1)
          (try rw [Addr.add_zero'] at hx284_1)
          have HR284_0:=Aside0.mk hi284_0
          have HC284_0:=Aside0.mk hl284_0
          clear hi284_0 hl284_0
          replace p284:=eq_true p284
          replace q284:=eq_true q284
          have q18:(1:Int)≤((x0_1.length:Int):Int):=zod
          obtain ⟨i018,hi018,_,hsz18,_⟩:=info_parts info53
          have hroom18:x0_1.length≤co13:=(Kd.V_reads' HO_0.out).2.1
          have hC18:Kd.F k53 _ _ (some ad281) x0_1.length x0_1:=(Kd.V_at (base:=w.heap.size) HO_0.out).2.2
          have hcut18:=cut_from (P:=Tryd.prog) 22 53 .i64 Tryd.underlying22 hi018 2 hsz18 (some ad281) x0_1.length co13 1 (by omega) q18
          have hr18:=Kd.F_cut (m:=(1:Int).toNat) (c:=co13) hC18 (by omega) hroom18
          obtain ⟨A18,hA18⟩ : ∃ A1,A1=(if co13=(1:Int).toNat then (some ad281) else ((some ad281):Option Addr).map (·.add ((1:Int).toNat * 2))):=⟨_,rfl⟩
          obtain ⟨c18,hc18⟩ : ∃ c1,c1=co13 - (1:Int).toNat:=⟨_,rfl⟩
          have hy18:y288.length=x0_1.length - (1:Int).toNat:=(by rw [Ny288.out,List.length_drop] <;> omega)
          rw [show (x0_1).drop (1:Int).toNat=y288 from Ny288.out.symm] at hr18
          replace hr18:Kd.F k53 _ _ A18 y288.length y288:=(by rw [hA18];exact hr18)
          rw [← hy18,← hA18,← hc18] at hcut18
          have HO292:=Aside0.mk (show Kd.V k53 53 _ w.heap.size _ (.slice A18 y288.length c18) y288 from Kd.V_mk (by rw [hy18,hc18];exact Nat.sub_le_sub_right hroom18 _) hr18)
          have HC292:=Aside0.mk (show y288.length≤c18 from by rw [hy18,hc18];exact Nat.sub_le_sub_right hroom18 _)
          clear hr18 hC18 hroom18 hi018 hsz18 hc18
          have KY18:=Aside0.mk hy18
          have KA18:=Aside0.mk hA18
          clear hy18 hA18
          replace q18:=eq_true q18
          refine start_ (n:=10) (S:=fun w'=>w'.cell? ad281=some (.slice A284_0 ((rd_T53 x0_1 0).f0).length c284_0)∧w'.cell? ⟨ad281.block,ad281.off + 1,none⟩=some (.int .i64 ((rd_T53 x0_1 0).f1))) (ds:=[4,5]) #[X,X,X,X,X,X,X,X,X,X] (by kernel_rfl) rfl rfl ⟨hx284_0,hx284_1⟩ (fun hHeld=>?_);refine with_tabW impl_merged_impl_Item__impl_cmpItem_impl_together_1.tab9 impl_merged_impl_Item__impl_cmpItem_impl_together_1.bits9 (fun HT_ HW_=>?_)
          generalize w16.drew=w17 at HO_0 HO_1 HO_9 HL281_0 HL282_0 HR281_0 HR282_0 HB HL284_0 HO292 HR284_0 hx284_0 hx284_1 hHeld ⊢
          refine pure_ (i:=0) (N:=some 52) (v:=?_) (a':=?_) #[Y,X,X,X,X,X,X,X,X,X] rfl rfl zan (fun _ _ _ h=>h) (Or.inl ⟨by rfl,?_⟩) ?_ ?_
          rotate_left
          ·intro w'
           go_simp
           with_reducible rfl
          rotate_left
          ·simp only [Act.put,zp1,zp2,zp3,i64_w,i32_w]
           rfl
          refine pure_ (i:=1) (N:=some 53) (v:=?_) (a':=?_) #[Y,Y,X,X,X,X,X,X,X,X] rfl rfl zan (fun _ _ _ h=>h) (Or.inl ⟨by rfl,?_⟩) ?_ ?_
          rotate_left
          ·intro w'
           go_simp
           with_reducible rfl
          rotate_left
          ·simp only [Act.put,zp1,zp2,zp3,i64_w,i32_w]
           rfl
          refine pure_ (i:=2) (N:=some 54) (v:=?_) (a':=?_) #[Y,Y,Y,X,X,X,X,X,X,X] rfl rfl zan (fun _ _ _ h=>h) (Or.inl ⟨by rfl,?_⟩) ?_ ?_
          rotate_left
          ·intro w'
           go_simp
           with_reducible rfl
          rotate_left
          ·simp only [Act.put,zp1,zp2,zp3,i64_w,i32_w]
           rfl
          refine pure_ (i:=6) (N:=some 58) (v:=?_) (a':=?_) #[Y,Y,Y,X,X,X,Y,X,X,X] rfl rfl zan (fun _ _ _ h=>h) (Or.inl ⟨by rfl,?_⟩) ?_ ?_
          rotate_left
          ·intro w'
           go_simp
           with_reducible rfl
          rotate_left
          ·simp only [Act.put,zp1,zp2,zp3,i64_w,i32_w]
           rfl
          refine pure_ (i:=7) (N:=some 59) (v:=?_) (a':=?_) #[Y,Y,Y,X,X,X,Y,Y,X,X] rfl rfl zan (fun _ _ _ h=>h) (Or.inl ⟨by rfl,?_⟩) ?_ ?_
          rotate_left
          ·intro w'
           go_simp
           with_reducible rfl
          rotate_left
          ·simp only [Act.put,zp1,zp2,zp3,i64_w,i32_w]
           rfl
          refine take_ (i:=3) (N:=some 55) (v:=?_) (a':=?_) #[Y,Y,Y,Y,X,X,Y,Y,X,X] rfl rfl ztw (fun _ _ _ h=>h) (Or.inl ⟨by rfl,?_⟩) hHeld ?_ ?_
          rotate_left
          ·rintro w' ⟨s0,s1⟩
           go_simp
           with_reducible rfl
          rotate_left
          ·simp only [Act.put,zp1,zp2,zp3,i64_w,i32_w]
           rfl
          refine last_ (i:=4) (N:=some 56) #[Y,Y,Y,Y,Y,X,Y,Y,X,X] rfl rfl (one_of HT_.out (by kernel_rfl)) (by decide) (fun K hK=>?_)
          refine value_ (w1:=?_) (v:=?_) (by rfl) rfl ?_ ?_
          rotate_left 2
          ·go_simp
           constructor
           ·rfl
           ·rfl
          refine hK.out _ _ ?_
          clear hK K
          refine norm_ (a':=?_) ?_ ?_
          rotate_left
          ·show Act.put _ (some 56) _=_
           simp only [Act.put,zp1,zp2,zp3,i64_w,i32_w]
           rfl
          refine last_ (i:=5) (N:=some 57) #[Y,Y,Y,Y,Y,Y,Y,Y,X,X] rfl rfl (one_of HT_.out (by kernel_rfl)) (by decide) (fun K hK=>?_)
          refine Kd.N_append_step k53 (w0:=w) w.heap.size (by rfl) (.tmp 52) (.tmp 56) 22 53 (.agg #[(.slice none 0 0),(.int .i64 0)]) 32 rfl Tryd.underlying22 info53 rfl (by decide) (by omega) u9 x9_1 (⟨(rd_T53 x0_1 0).f0,(rd_T53 x0_1 0).f1⟩:S53) [.slice A284_0 ((rd_T53 x0_1 0).f0).length c284_0,.int .i64 ((rd_T53 x0_1 0).f1)] (fun k_=>((P0_ k_∨P1_ k_)∨w.heap.size≤k_)) (fun k_=>((fun k_=>((P0_ k_∨P1_ k_)∨w.heap.size≤k_))) k_∧some k_≠(u9:Value).ownBlock) rfl rfl ?aP (fun _ hk=>hk) ?aF ?aO ?aB ?aS ?aL ?_
          (case aP=>exact (k53_mkF _ _ (⟨(rd_T53 x0_1 0).f0,(rd_T53 x0_1 0).f1⟩:S53) (Kd.V_reads' (Kd.V_mono (ok':=(fun k_=>((fun k_=>((P0_ k_∨P1_ k_)∨w.heap.size≤k_))) k_∧some k_≠(u9:Value).ownBlock)) (HL284_0.out) (fun k_ hk=>⟨hk.1,hk.2⟩))).2.1 (Kd.V_F (Kd.V_mono (ok':=(fun k_=>((fun k_=>((P0_ k_∨P1_ k_)∨w.heap.size≤k_))) k_∧some k_≠(u9:Value).ownBlock)) (HL284_0.out) (fun k_ hk=>⟨hk.1,hk.2⟩)))))
          (case aB=>exact zhb)
          (case aF=>exact (fun k_ hk=>(.inr (Nat.le_trans (below_size zhb) hk))))
          (case aO=>exact (zN HO_9.out))
          (case aS=>exact (below_size zhb))
          (case aL=>have:=LMc11.out;omega)
          intro v286 w19 ho hb hg hat
          rw [← Ny285.out] at ho
          have n0_:=Aside0.mk (Kd.V_afterv (ok:=(fun k_=>((P0_ k_∨P1_ k_)∨w.heap.size≤k_))) (zV HO_0.out) hg hat)
          have n1_:=Aside0.mk (Kd.V_afterv (ok:=(fun k_=>((P0_ k_∨P1_ k_)∨w.heap.size≤k_))) (zV HO_1.out) hg hat)
          have n2_:=Aside0.mk (Kd.V_afterv (ok:=(fun k_=>((P0_ k_∨P1_ k_)∨w.heap.size≤k_))) (zV HL281_0.out) hg hat)
          have n3_:=Aside0.mk (Kd.V_afterv (ok:=(fun k_=>((P0_ k_∨P1_ k_)∨w.heap.size≤k_))) (zV HL282_0.out) hg hat)
          have n4_:=Aside0.mk (Kd.V_afterv (ok:=(fun k_=>((P0_ k_∨P1_ k_)∨w.heap.size≤k_))) (zV HL284_0.out) hg hat)
          have n5_:=Aside0.mk (Kd.V_afterv (ok:=(fun k_=>((P0_ k_∨P1_ k_)∨w.heap.size≤k_))) (zV HO292.out) hg hat)
          have n6_:=Aside0.mk (hb)
          have n7_:=Aside0.mk (ho)
          clear HO_0
          clear HO_1
          clear HL281_0
          clear HL282_0
          clear HL284_0
          clear HO292
          clear HB
          clear HO_9
          have HO_0:=n0_
          have HO_1:=n1_
          have HL281_0:=n2_
          have HL282_0:=n3_
          have HL284_0:=n4_
          have HO292:=n5_
          have HB:=n6_
          have HO287:=n7_
          clear n0_ n1_ n2_ n3_ n4_ n5_ n6_ n7_
          clear ho hb hg hat
          refine hK.out _ _ ?_
          clear hK K
          refine norm_ (a':=?_) ?_ ?_
          rotate_left
          ·show Act.put _ (some 57) _=_
           simp only [Act.put,zp1,zp2,zp3,i64_w,i32_w]
           rfl
          refine pure_ (i:=8) (N:=some 9) (v:=?_) (a':=?_) #[Y,Y,Y,Y,Y,Y,Y,Y,Y,X] rfl rfl zan (fun _ _ _ h=>h) (Or.inl ⟨by rfl,?_⟩) ?_ ?_
          rotate_left
          ·intro w'
           go_simp
           with_reducible rfl
          rotate_left
          ·simp only [Act.put,zp1,zp2,zp3,i64_w,i32_w]
           rfl
          refine pure_ (i:=9) (N:=some 0) (v:=?_) (a':=?_) #[Y,Y,Y,Y,Y,Y,Y,Y,Y,Y] rfl rfl zan (fun _ _ _ h=>h) (Or.inl ⟨by rfl,?_⟩) ?_ ?_
          rotate_left
          ·intro w'
           go_simp
           with_reducible rfl
          rotate_left
          ·simp only [Act.put,zp1,zp2,zp3,i64_w,i32_w]
           rfl
          refine done_ (done_of HT_.out (by kernel_rfl)) ?_
          try go_wp2
          go_roundg k1
          case measure=>have:=HK1.out;omega
          case rel=>exact ⟨(y288),(x1_1),(y285),H',⟨by have:=HK1.out;omega⟩,⟨by (with_reducible repeat (first|apply Kd.V_alloc|apply Kd.V_drewN|apply Kd.V_drew));exact HO292.out⟩,⟨by (with_reducible repeat (first|apply Kd.V_alloc|apply Kd.V_drewN|apply Kd.V_drew));exact HO_1.out⟩,⟨by (with_reducible repeat (first|apply Kd.N_alloc|apply Kd.N_drewN|apply Kd.N_drew));exact HO287.out⟩,⟨zhb⟩⟩
         ·rw [if_neg c12] at H
          exact absurd H (by simp)
        ·rw [if_neg c11] at H
         exact absurd H (by simp)
       ·rw [if_neg c10] at H
        have c10b0:decide (t283 < 0)=false:=decide_eq_false c10
        clear c10
        by_cases c20:t283 > 0
        ·rw [if_pos c20] at H
         have c20b0:decide (0 < t283)=true:=decide_eq_true c20
         clear c20
         by_cases c21:x9_1.length < 4398046511104
         ·rw [if_pos c21] at H
          have LMc21:=Aside0.mk c21
          clear c21
          obtain ⟨y294,hy294⟩ : ∃ y_:List (S53),y_=(x9_1 ++ [(⟨(rd_T53 x1_1 0).f0,(rd_T53 x1_1 0).f1⟩:S53)]):=⟨_,rfl⟩
          replace H:(if 1≤(x1_1.length:Int) then (impl_merged_impl_Item__impl_cmpItem_impl_together_1.l0 k1 x0_1 (x1_1.drop 1) y294) else (none))=some r:=by first|(rw [hy294];with_reducible exact H)|(have H2_:=(Option.bind_some _ _).symm.trans H;rw [hy294];with_reducible exact H2_)|(have H2_:=(Option.bind_some _ _).symm.trans H;with_reducible exact H2_)|with_reducible exact H|(rw [hy294];exact H)|exact H
          have Ny294:=Aside0.mk hy294
          clear hy294
          by_cases c22:1≤(x1_1.length:Int)
          ·rw [if_pos c22] at H
           have c22b0:=eq_true c22
           have c22b1:decide (1≤(x1_1.length:Int))=true:=decide_eq_true c22
           clear c22
           obtain ⟨y297,hy297⟩ : ∃ y_:List (S53),y_=(x1_1.drop 1):=⟨_,rfl⟩
           replace H:(impl_merged_impl_Item__impl_cmpItem_impl_together_1.l0 k1 x0_1 y297 y294)=some r:=by first|(rw [hy297];with_reducible exact H)|(have H2_:=(Option.bind_some _ _).symm.trans H;rw [hy297];with_reducible exact H2_)|(have H2_:=(Option.bind_some _ _).symm.trans H;with_reducible exact H2_)|with_reducible exact H|(rw [hy297];exact H)|exact H
           have Ny297:=Aside0.mk hy297
           clear hy297
           have H':=Aside0.mk H
           clear H
           obtain ⟨Ao23,co23,eo23⟩:=Kd.V_slice HO_0.out
           subst eo23
           obtain ⟨Ao24,co24,eo24⟩:=Kd.V_slice HO_1.out
           subst eo24
           try go_wp2
           have n0_:=Aside0.mk (Kd.V_drew HO_0.out)
           have n1_:=Aside0.mk (Kd.V_drew HO_1.out)
           have n2_:=Aside0.mk (Kd.N_drew HO_9.out)
           have n3_:=Aside0.mk (below_drew1 HB.out)
           clear HO_0
           clear HO_1
           clear HO_9
           clear HB
           have HO_0:=n0_
           have HO_1:=n1_
           have HO_9:=n2_
           have HB:=n3_
           clear n0_ n1_ n2_ n3_
           have p281:0≤(0:Int):=(by omega)
           have q281:0 < (x0_1.length:Int):=zod
           obtain ⟨ad281,A281_0,c281_0,e281,hx281_0,hx281_1,hl281_0,hi281_0⟩:=at_T53 (Kd.V_reads' HO_0.out).2.2 0 p281 q281
           cases e281
           obtain ⟨ce281,hce281,hMe281,hcc281⟩:=Kd.V_get HO_0.out z53 0 p281 (by first|exact q281|exact zod|(have e_:=(Kd.V_reads' HO_0.out).1;omega))
           obtain ⟨ua281_0,uc281_0,rfl,ul281_0,ge281_0⟩:=k53_openF hMe281
           have hv281_0:=hcc281 0 _ rfl
           rw [Nat.add_zero] at hv281_0
           replace hv281_0:=Option.some.inj (hv281_0.symm.trans hx281_0)
           injection hv281_0 with hva_ hvn_ hvc_
           rw [hva_] at ge281_0
           rw [hvc_] at ul281_0
           have HL281_0:=Aside0.mk (show Kd.V (Kd.int .i64) 3 _ w.heap.size _ _ ((rd_T53 x0_1 0).f0) from Kd.V_mk ul281_0 ge281_0)
           clear hva_ hvn_ hvc_ ge281_0 ul281_0
           clear hcc281 hce281
           have qi281:(0 < x0_1.length)=True:=eq_true (by omega)
           (try rw [show ((0:Int)).toNat=0 from rfl] at hx281_0)
           (try rw [show 0 * 2=0 from rfl] at hx281_0)
           (try rw [Addr.add_zero'] at hx281_0)
           (try rw [show ((0:Int)).toNat=0 from rfl] at hx281_1)
           (try rw [show 0 * 2=0 from rfl] at hx281_1)
           (try rw [Addr.add_zero'] at hx281_1)
           have HR281_0:=Aside0.mk hi281_0
           have HC281_0:=Aside0.mk hl281_0
           clear hi281_0 hl281_0
           replace p281:=eq_true p281
           replace q281:=eq_true q281
           have p282:0≤(0:Int):=(by omega)
           have q282:0 < (x1_1.length:Int):=zod
           obtain ⟨ad282,A282_0,c282_0,e282,hx282_0,hx282_1,hl282_0,hi282_0⟩:=at_T53 (Kd.V_reads' HO_1.out).2.2 0 p282 q282
           cases e282
           obtain ⟨ce282,hce282,hMe282,hcc282⟩:=Kd.V_get HO_1.out z53 0 p282 (by first|exact q282|exact zod|(have e_:=(Kd.V_reads' HO_1.out).1;omega))
           obtain ⟨ua282_0,uc282_0,rfl,ul282_0,ge282_0⟩:=k53_openF hMe282
           have hv282_0:=hcc282 0 _ rfl
           rw [Nat.add_zero] at hv282_0
           replace hv282_0:=Option.some.inj (hv282_0.symm.trans hx282_0)
           injection hv282_0 with hva_ hvn_ hvc_
           rw [hva_] at ge282_0
           rw [hvc_] at ul282_0
           have HL282_0:=Aside0.mk (show Kd.V (Kd.int .i64) 3 _ w.heap.size _ _ ((rd_T53 x1_1 0).f0) from Kd.V_mk ul282_0 ge282_0)
           clear hva_ hvn_ hvc_ ge282_0 ul282_0
           clear hcc282 hce282
           have qi282:(0 < x1_1.length)=True:=eq_true (by omega)
           (try rw [show ((0:Int)).toNat=0 from rfl] at hx282_0)
           (try rw [show 0 * 2=0 from rfl] at hx282_0)
           (try rw [Addr.add_zero'] at hx282_0)
           (try rw [show ((0:Int)).toNat=0 from rfl] at hx282_1)
           (try rw [show 0 * 2=0 from rfl] at hx282_1)
           (try rw [Addr.add_zero'] at hx282_1)
           have HR282_0:=Aside0.mk hi282_0
           have HC282_0:=Aside0.mk hl282_0
           clear hi282_0 hl282_0
           replace p282:=eq_true p282
           replace q282:=eq_true q282
           refine start_ (n:=9) (S:=fun w'=>w'.cell? ad281=some (.slice A281_0 ((rd_T53 x0_1 0).f0).length c281_0)∧w'.cell? ⟨ad281.block,ad281.off + 1,none⟩=some (.int .i64 ((rd_T53 x0_1 0).f1))∧w'.cell? ad282=some (.slice A282_0 ((rd_T53 x1_1 0).f0).length c282_0)∧w'.cell? ⟨ad282.block,ad282.off + 1,none⟩=some (.int .i64 ((rd_T53 x1_1 0).f1))) (ds:=[]) #[X,X,X,X,X,X,X,X,X] (by kernel_rfl) rfl rfl ⟨hx281_0,hx281_1,hx282_0,hx282_1⟩ (fun hHeld=>?_);refine with_tabW impl_merged_impl_Item__impl_cmpItem_impl_together_1.tab3 impl_merged_impl_Item__impl_cmpItem_impl_together_1.bits3 (fun HT_ HW_=>?_)
           generalize wr.drew=w25 at HO_0 HO_1 HO_9 HB HL281_0 HL282_0 HR281_0 HR282_0 hx281_0 hx281_1 hx282_0 hx282_1 hHeld ⊢
           refine pure_ (i:=0) (N:=some 21) (v:=?_) (a':=?_) #[Y,X,X,X,X,X,X,X,X] rfl rfl zan (fun _ _ _ h=>h) (Or.inl ⟨by rfl,?_⟩) ?_ ?_
           rotate_left
           ·intro w'
            go_simp
            with_reducible rfl
           rotate_left
           ·simp only [Act.put,zp1,zp2,zp3,i64_w,i32_w]
            rfl
           refine pure_ (i:=1) (N:=some 22) (v:=?_) (a':=?_) #[Y,Y,X,X,X,X,X,X,X] rfl rfl zan (fun _ _ _ h=>h) (Or.inl ⟨by rfl,?_⟩) ?_ ?_
           rotate_left
           ·intro w'
            go_simp
            with_reducible rfl
           rotate_left
           ·simp only [Act.put,zp1,zp2,zp3,i64_w,i32_w]
            rfl
           refine pure_ (i:=2) (N:=some 23) (v:=?_) (a':=?_) #[Y,Y,Y,X,X,X,X,X,X] rfl rfl zan (fun _ _ _ h=>h) (Or.inl ⟨by rfl,?_⟩) ?_ ?_
           rotate_left
           ·intro w'
            go_simp
            with_reducible rfl
           rotate_left
           ·simp only [Act.put,zp1,zp2,zp3,i64_w,i32_w]
            rfl
           refine pure_ (i:=4) (N:=some 25) (v:=?_) (a':=?_) #[Y,Y,Y,X,Y,X,X,X,X] rfl rfl zan (fun _ _ _ h=>h) (Or.inl ⟨by rfl,?_⟩) ?_ ?_
           rotate_left
           ·intro w'
            go_simp
            with_reducible rfl
           rotate_left
           ·simp only [Act.put,zp1,zp2,zp3,i64_w,i32_w]
            rfl
           refine pure_ (i:=5) (N:=some 26) (v:=?_) (a':=?_) #[Y,Y,Y,X,Y,Y,X,X,X] rfl rfl zan (fun _ _ _ h=>h) (Or.inl ⟨by rfl,?_⟩) ?_ ?_
           rotate_left
           ·intro w'
            go_simp
            with_reducible rfl
           rotate_left
           ·simp only [Act.put,zp1,zp2,zp3,i64_w,i32_w]
            rfl
           refine take_ (i:=3) (N:=some 24) (v:=?_) (a':=?_) #[Y,Y,Y,Y,Y,Y,X,X,X] rfl rfl ztw (fun _ _ _ h=>h) (Or.inl ⟨by rfl,?_⟩) hHeld ?_ ?_
           rotate_left
           ·rintro w' ⟨s0,s1,s2,s3⟩
            go_simp
            with_reducible rfl
           rotate_left
           ·simp only [Act.put,zp1,zp2,zp3,i64_w,i32_w]
            rfl
           refine take_ (i:=6) (N:=some 27) (v:=?_) (a':=?_) #[Y,Y,Y,Y,Y,Y,Y,X,X] rfl rfl ztw (fun _ _ _ h=>h) (Or.inl ⟨by rfl,?_⟩) hHeld ?_ ?_
           rotate_left
           ·rintro w' ⟨s0,s1,s2,s3⟩
            go_simp
            with_reducible rfl
           rotate_left
           ·simp only [Act.put,zp1,zp2,zp3,i64_w,i32_w]
            rfl
           refine one_ (i:=7) (N:=some 28) #[Y,Y,Y,Y,Y,Y,Y,Y,X] rfl rfl (one_of HT_.out (by kernel_rfl)) (by decide) (fun K hK=>?_)
           refine goes_f (.tmp 21) Tryd.func84 (by kernel_rfl) rfl #[.agg #[.slice A281_0 ((rd_T53 x0_1 0).f0).length c281_0,.int .i64 ((rd_T53 x0_1 0).f1)],.agg #[.slice A282_0 ((rd_T53 x1_1 0).f0).length c282_0,.int .i64 ((rd_T53 x1_1 0).f1)]] (by rfl) rfl rfl rfl zar ?_
           with_reducible refine (impl_cmpItem.calls k1 _ _ ((rd_T53 x0_1 0).f0) ((rd_T53 x0_1 0).f1) _ _ ((rd_T53 x1_1 0).f0) ((rd_T53 x1_1 0).f1) t283 _ ?side1 ?side2 ?side3 ?side4 A9.out).mono ?_
           (case side1=>exact zC (zC HR281_0.out))
           (case side2=>exact HC281_0.out)
           (case side3=>exact zC (zC HR282_0.out))
           (case side4=>exact HC282_0.out)
           rintro e w26 ⟨rfl,hb⟩
           have HS0_:=zhs hb hHeld.1
           have HS1_:=zhs hb hHeld.2.1
           have HS2_:=zhs hb hHeld.2.2.1
           have HS3_:=zhs hb hHeld.2.2.2
           refine ⟨_,rfl,?_⟩
           have n0_:=Aside0.mk (Kd.V_below (zV HO_0.out) hb)
           have n1_:=Aside0.mk (Kd.V_below (zV HO_1.out) hb)
           have n2_:=Aside0.mk (Kd.N_below (zN HO_9.out) hb)
           have n3_:=Aside0.mk (Kd.V_below (zV HL281_0.out) hb)
           have n4_:=Aside0.mk (Kd.V_below (zV HL282_0.out) hb)
           have n5_:=Aside0.mk (Kd.C_below (zC HR281_0.out) hb)
           have n6_:=Aside0.mk (Kd.C_below (zC HR282_0.out) hb)
           have n7_:=Aside0.mk (below_step zhb hb)
           clear HO_0
           clear HO_1
           clear HO_9
           clear HL281_0
           clear HL282_0
           clear HR281_0
           clear HR282_0
           clear HB
           have HO_0:=n0_
           have HO_1:=n1_
           have HO_9:=n2_
           have HL281_0:=n3_
           have HL282_0:=n4_
           have HR281_0:=n5_
           have HR282_0:=n6_
           have HB:=n7_
           clear n0_ n1_ n2_ n3_ n4_ n5_ n6_ n7_
           (try clear hb)
           (try clear hb2)
           (try clear hk)
           (try clear hi)
           refine hK.out _ _ ⟨HS0_,HS1_,HS2_,HS3_⟩ (fun hHeld=>?_)
           clear hK K
           refine norm_ (a':=?_) ?_ ?_
           rotate_left
           ·show Act.put _ (some 28) _=_
            simp only [Act.put,zp1,zp2,zp3,i64_w,i32_w]
            rfl
           refine pure_ (i:=8) (N:=some 10) (v:=?_) (a':=?_) #[Y,Y,Y,Y,Y,Y,Y,Y,Y] rfl rfl zan (fun _ _ _ h=>h) (Or.inl ⟨by rfl,?_⟩) ?_ ?_
           rotate_left
           ·intro w'
            go_simp
            with_reducible rfl
           rotate_left
           ·simp only [Act.put,zp1,zp2,zp3,i64_w,i32_w]
            rfl
           refine done_ (done_of HT_.out (by kernel_rfl)) ?_
           try go_wp2
           have n0_:=Aside0.mk (Kd.V_drew HO_0.out)
           have n1_:=Aside0.mk (Kd.V_drew HO_1.out)
           have n2_:=Aside0.mk (Kd.N_drew HO_9.out)
           have n3_:=Aside0.mk (Kd.V_drew HL281_0.out)
           have n4_:=Aside0.mk (Kd.V_drew HL282_0.out)
           have n5_:=Aside0.mk (Kd.C_drew HR281_0.out)
           have n6_:=Aside0.mk (Kd.C_drew HR282_0.out)
           have n7_:=Aside0.mk (below_drew1 HB.out)
           clear HO_0
           clear HO_1
           clear HO_9
           clear HL281_0
           clear HL282_0
           clear HR281_0
           clear HR282_0
           clear HB
           have HO_0:=n0_
           have HO_1:=n1_
           have HO_9:=n2_
           have HL281_0:=n3_
           have HL282_0:=n4_
           have HR281_0:=n5_
           have HR282_0:=n6_
           have HB:=n7_
           clear n0_ n1_ n2_ n3_ n4_ n5_ n6_ n7_
           have p293:0≤(0:Int):=(by omega)
           have q293:0 < (x1_1.length:Int):=zod
           obtain ⟨ad293,A293_0,c293_0,e293,hx293_0,hx293_1,hl293_0,hi293_0⟩:=at_T53 (Kd.V_reads' HO_1.out).2.2 0 p293 q293
           obtain rfl:ad282=ad293:=(by injection e293)
           obtain ⟨ce293,hce293,hMe293,hcc293⟩:=Kd.V_get HO_1.out z53 0 p293 (by first|exact q293|exact zod|(have e_:=(Kd.V_reads' HO_1.out).1;omega))
           obtain ⟨ua293_0,uc293_0,rfl,ul293_0,ge293_0⟩:=k53_openF hMe293
           have hv293_0:=hcc293 0 _ rfl
           rw [Nat.add_zero] at hv293_0
           replace hv293_0:=Option.some.inj (hv293_0.symm.trans hx293_0)
           injection hv293_0 with hva_ hvn_ hvc_
           rw [hva_] at ge293_0
           rw [hvc_] at ul293_0
           have HL293_0:=Aside0.mk (show Kd.V (Kd.int .i64) 3 _ w.heap.size _ _ ((rd_T53 x1_1 0).f0) from Kd.V_mk ul293_0 ge293_0)
           clear hva_ hvn_ hvc_ ge293_0 ul293_0
           clear hcc293 hce293
           have qi293:(0 < x1_1.length)=True:=eq_true (by omega)
           (try rw [show ((0:Int)).toNat=0 from rfl] at hx293_0)
           (try rw [show 0 * 2=0 from rfl] at hx293_0)
           (try rw [Addr.add_zero'] at hx293_0)
           (try rw [show ((0:Int)).toNat=0 from rfl] at hx293_1)
           (try rw [show 0 * 2=0 from rfl] at hx293_1)
           (try rw [Addr.add_zero'] at hx293_1)
           have HR293_0:=Aside0.mk hi293_0
           have HC293_0:=Aside0.mk hl293_0
           clear hi293_0 hl293_0
           replace p293:=eq_true p293
           replace q293:=eq_true q293
           have q28:(1:Int)≤((x1_1.length:Int):Int):=zod
           obtain ⟨i028,hi028,_,hsz28,_⟩:=info_parts info53
           have hroom28:x1_1.length≤co24:=(Kd.V_reads' HO_1.out).2.1
           have hC28:Kd.F k53 _ _ (some ad282) x1_1.length x1_1:=(Kd.V_at (base:=w.heap.size) HO_1.out).2.2
           have hcut28:=cut_from (P:=Tryd.prog) 22 53 .i64 Tryd.underlying22 hi028 2 hsz28 (some ad282) x1_1.length co24 1 (by omega) q28
           have hr28:=Kd.F_cut (m:=(1:Int).toNat) (c:=co24) hC28 (by omega) hroom28
           obtain ⟨A28,hA28⟩ : ∃ A1,A1=(if co24=(1:Int).toNat then (some ad282) else ((some ad282):Option Addr).map (·.add ((1:Int).toNat * 2))):=⟨_,rfl⟩
           obtain ⟨c28,hc28⟩ : ∃ c1,c1=co24 - (1:Int).toNat:=⟨_,rfl⟩
           have hy28:y297.length=x1_1.length - (1:Int).toNat:=(by rw [Ny297.out,List.length_drop] <;> omega)
           rw [show (x1_1).drop (1:Int).toNat=y297 from Ny297.out.symm] at hr28
           replace hr28:Kd.F k53 _ _ A28 y297.length y297:=(by rw [hA28];exact hr28)
           rw [← hy28,← hA28,← hc28] at hcut28
           have HO301:=Aside0.mk (show Kd.V k53 53 _ w.heap.size _ (.slice A28 y297.length c28) y297 from Kd.V_mk (by rw [hy28,hc28];exact Nat.sub_le_sub_right hroom28 _) hr28)
           have HC301:=Aside0.mk (show y297.length≤c28 from by rw [hy28,hc28];exact Nat.sub_le_sub_right hroom28 _)
           clear hr28 hC28 hroom28 hi028 hsz28 hc28
           have KY28:=Aside0.mk hy28
           have KA28:=Aside0.mk hA28
           clear hy28 hA28
           replace q28:=eq_true q28
           refine start_ (n:=10) (S:=fun w'=>w'.cell? ad282=some (.slice A293_0 ((rd_T53 x1_1 0).f0).length c293_0)∧w'.cell? ⟨ad282.block,ad282.off + 1,none⟩=some (.int .i64 ((rd_T53 x1_1 0).f1))) (ds:=[4,5]) #[X,X,X,X,X,X,X,X,X,X] (by kernel_rfl) rfl rfl ⟨hx293_0,hx293_1⟩ (fun hHeld=>?_);refine with_tabW impl_merged_impl_Item__impl_cmpItem_impl_together_1.tab11 impl_merged_impl_Item__impl_cmpItem_impl_together_1.bits11 (fun HT_ HW_=>?_)
           generalize w26.drew=w27 at HO_0 HO_1 HO_9 HL281_0 HL282_0 HR281_0 HR282_0 HB HL293_0 HO301 HR293_0 hx293_0 hx293_1 hHeld ⊢
           refine pure_ (i:=0) (N:=some 63) (v:=?_) (a':=?_) #[Y,X,X,X,X,X,X,X,X,X] rfl rfl zan (fun _ _ _ h=>h) (Or.inl ⟨by rfl,?_⟩) ?_ ?_
           rotate_left
           ·intro w'
            go_simp
            with_reducible rfl
           rotate_left
           ·simp only [Act.put,zp1,zp2,zp3,i64_w,i32_w]
            rfl
           refine pure_ (i:=1) (N:=some 64) (v:=?_) (a':=?_) #[Y,Y,X,X,X,X,X,X,X,X] rfl rfl zan (fun _ _ _ h=>h) (Or.inl ⟨by rfl,?_⟩) ?_ ?_
           rotate_left
           ·intro w'
            go_simp
            with_reducible rfl
           rotate_left
           ·simp only [Act.put,zp1,zp2,zp3,i64_w,i32_w]
            rfl
           refine pure_ (i:=2) (N:=some 65) (v:=?_) (a':=?_) #[Y,Y,Y,X,X,X,X,X,X,X] rfl rfl zan (fun _ _ _ h=>h) (Or.inl ⟨by rfl,?_⟩) ?_ ?_
           rotate_left
           ·intro w'
            go_simp
            with_reducible rfl
           rotate_left
           ·simp only [Act.put,zp1,zp2,zp3,i64_w,i32_w]
            rfl
           refine pure_ (i:=6) (N:=some 69) (v:=?_) (a':=?_) #[Y,Y,Y,X,X,X,Y,X,X,X] rfl rfl zan (fun _ _ _ h=>h) (Or.inl ⟨by rfl,?_⟩) ?_ ?_
           rotate_left
           ·intro w'
            go_simp
            with_reducible rfl
           rotate_left
           ·simp only [Act.put,zp1,zp2,zp3,i64_w,i32_w]
            rfl
           refine pure_ (i:=7) (N:=some 70) (v:=?_) (a':=?_) #[Y,Y,Y,X,X,X,Y,Y,X,X] rfl rfl zan (fun _ _ _ h=>h) (Or.inl ⟨by rfl,?_⟩) ?_ ?_
           rotate_left
           ·intro w'
            go_simp
            with_reducible rfl
           rotate_left
           ·simp only [Act.put,zp1,zp2,zp3,i64_w,i32_w]
            rfl
           refine take_ (i:=3) (N:=some 66) (v:=?_) (a':=?_) #[Y,Y,Y,Y,X,X,Y,Y,X,X] rfl rfl ztw (fun _ _ _ h=>h) (Or.inl ⟨by rfl,?_⟩) hHeld ?_ ?_
           rotate_left
           ·rintro w' ⟨s0,s1⟩
            go_simp
            with_reducible rfl
           rotate_left
           ·simp only [Act.put,zp1,zp2,zp3,i64_w,i32_w]
            rfl
           refine last_ (i:=4) (N:=some 67) #[Y,Y,Y,Y,Y,X,Y,Y,X,X] rfl rfl (one_of HT_.out (by kernel_rfl)) (by decide) (fun K hK=>?_)
           refine value_ (w1:=?_) (v:=?_) (by rfl) rfl ?_ ?_
           rotate_left 2
           ·go_simp
            constructor
            ·rfl
            ·rfl
           refine hK.out _ _ ?_
           clear hK K
           refine norm_ (a':=?_) ?_ ?_
           rotate_left
           ·show Act.put _ (some 67) _=_
            simp only [Act.put,zp1,zp2,zp3,i64_w,i32_w]
            rfl
           refine last_ (i:=5) (N:=some 68) #[Y,Y,Y,Y,Y,Y,Y,Y,X,X] rfl rfl (one_of HT_.out (by kernel_rfl)) (by decide) (fun K hK=>?_)
           refine Kd.N_append_step k53 (w0:=w) w.heap.size (by rfl) (.tmp 63) (.tmp 67) 22 53 (.agg #[(.slice none 0 0),(.int .i64 0)]) 32 rfl Tryd.underlying22 info53 rfl (by decide) (by omega) u9 x9_1 (⟨(rd_T53 x1_1 0).f0,(rd_T53 x1_1 0).f1⟩:S53) [.slice A293_0 ((rd_T53 x1_1 0).f0).length c293_0,.int .i64 ((rd_T53 x1_1 0).f1)] (fun k_=>((P0_ k_∨P1_ k_)∨w.heap.size≤k_)) (fun k_=>((fun k_=>((P0_ k_∨P1_ k_)∨w.heap.size≤k_))) k_∧some k_≠(u9:Value).ownBlock) rfl rfl ?aP (fun _ hk=>hk) ?aF ?aO ?aB ?aS ?aL ?_
           (case aP=>exact (k53_mkF _ _ (⟨(rd_T53 x1_1 0).f0,(rd_T53 x1_1 0).f1⟩:S53) (Kd.V_reads' (Kd.V_mono (ok':=(fun k_=>((fun k_=>((P0_ k_∨P1_ k_)∨w.heap.size≤k_))) k_∧some k_≠(u9:Value).ownBlock)) (HL293_0.out) (fun k_ hk=>⟨hk.1,hk.2⟩))).2.1 (Kd.V_F (Kd.V_mono (ok':=(fun k_=>((fun k_=>((P0_ k_∨P1_ k_)∨w.heap.size≤k_))) k_∧some k_≠(u9:Value).ownBlock)) (HL293_0.out) (fun k_ hk=>⟨hk.1,hk.2⟩)))))
           (case aB=>exact zhb)
           (case aF=>exact (fun k_ hk=>(.inr (Nat.le_trans (below_size zhb) hk))))
           (case aO=>exact (zN HO_9.out))
           (case aS=>exact (below_size zhb))
           (case aL=>have:=LMc21.out;omega)
           intro v295 w29 ho hb hg hat
           rw [← Ny294.out] at ho
           have n0_:=Aside0.mk (Kd.V_afterv (ok:=(fun k_=>((P0_ k_∨P1_ k_)∨w.heap.size≤k_))) (zV HO_0.out) hg hat)
           have n1_:=Aside0.mk (Kd.V_afterv (ok:=(fun k_=>((P0_ k_∨P1_ k_)∨w.heap.size≤k_))) (zV HO_1.out) hg hat)
           have n2_:=Aside0.mk (Kd.V_afterv (ok:=(fun k_=>((P0_ k_∨P1_ k_)∨w.heap.size≤k_))) (zV HL281_0.out) hg hat)
           have n3_:=Aside0.mk (Kd.V_afterv (ok:=(fun k_=>((P0_ k_∨P1_ k_)∨w.heap.size≤k_))) (zV HL282_0.out) hg hat)
           have n4_:=Aside0.mk (Kd.V_afterv (ok:=(fun k_=>((P0_ k_∨P1_ k_)∨w.heap.size≤k_))) (zV HL293_0.out) hg hat)
           have n5_:=Aside0.mk (Kd.V_afterv (ok:=(fun k_=>((P0_ k_∨P1_ k_)∨w.heap.size≤k_))) (zV HO301.out) hg hat)
           have n6_:=Aside0.mk (hb)
           have n7_:=Aside0.mk (ho)
           clear HO_0
           clear HO_1
           clear HL281_0
           clear HL282_0
           clear HL293_0
           clear HO301
           clear HB
           clear HO_9
           have HO_0:=n0_
           have HO_1:=n1_
           have HL281_0:=n2_
           have HL282_0:=n3_
           have HL293_0:=n4_
           have HO301:=n5_
           have HB:=n6_
           have HO296:=n7_
           clear n0_ n1_ n2_ n3_ n4_ n5_ n6_ n7_
           clear ho hb hg hat
           refine hK.out _ _ ?_
           clear hK K
           refine norm_ (a':=?_) ?_ ?_
           rotate_left
           ·show Act.put _ (some 68) _=_
            simp only [Act.put,zp1,zp2,zp3,i64_w,i32_w]
            rfl
           refine pure_ (i:=8) (N:=some 9) (v:=?_) (a':=?_) #[Y,Y,Y,Y,Y,Y,Y,Y,Y,X] rfl rfl zan (fun _ _ _ h=>h) (Or.inl ⟨by rfl,?_⟩) ?_ ?_
           rotate_left
           ·intro w'
            go_simp
            with_reducible rfl
           rotate_left
           ·simp only [Act.put,zp1,zp2,zp3,i64_w,i32_w]
            rfl
           refine pure_ (i:=9) (N:=some 1) (v:=?_) (a':=?_) #[Y,Y,Y,Y,Y,Y,Y,Y,Y,Y] rfl rfl zan (fun _ _ _ h=>h) (Or.inl ⟨by rfl,?_⟩) ?_ ?_
           rotate_left
           ·intro w'
            go_simp
            with_reducible rfl
           rotate_left
           ·simp only [Act.put,zp1,zp2,zp3,i64_w,i32_w]
            rfl
           refine done_ (done_of HT_.out (by kernel_rfl)) ?_
           try go_wp2
           go_roundg k1
           case measure=>have:=HK1.out;omega
           case rel=>exact ⟨(x0_1),(y297),(y294),H',⟨by have:=HK1.out;omega⟩,⟨by (with_reducible repeat (first|apply Kd.V_alloc|apply Kd.V_drewN|apply Kd.V_drew));exact HO_0.out⟩,⟨by (with_reducible repeat (first|apply Kd.V_alloc|apply Kd.V_drewN|apply Kd.V_drew));exact HO301.out⟩,⟨by (with_reducible repeat (first|apply Kd.N_alloc|apply Kd.N_drewN|apply Kd.N_drew));exact HO296.out⟩,⟨zhb⟩⟩
          ·rw [if_neg c22] at H
           exact absurd H (by simp)
         ·rw [if_neg c21] at H
          exact absurd H (by simp)
        ·rw [if_neg c20] at H
         have c20b0:decide (0 < t283)=false:=decide_eq_false c20
         clear c20
         replace H:=Option.bind_eq_some_iff.mp H
         obtain ⟨⟨t304,t307,t308⟩,A300,H⟩:=H
         (try dsimp only at H)
         have A30:=Aside0.mk A300
         clear A300
         by_cases c31:t308=true
         ·subst c31
          have H1:(if x9_1.length < 4398046511104 then (if 1≤(x0_1.length:Int) then (if 1≤(x1_1.length:Int) then (impl_merged_impl_Item__impl_cmpItem_impl_together_1.l0 k1 (x0_1.drop 1) (x1_1.drop 1) (x9_1 ++ [(⟨t304,t307⟩:S53)])) else (none)) else (none)) else (none))=some r:=by rw [if_pos rfl] at H;exact H
          clear H
          have H:=H1
          clear H1
          by_cases c32:x9_1.length < 4398046511104
          ·rw [if_pos c32] at H
           have LMc32:=Aside0.mk c32
           clear c32
           obtain ⟨y310,hy310⟩ : ∃ y_:List (S53),y_=(x9_1 ++ [(⟨t304,t307⟩:S53)]):=⟨_,rfl⟩
           replace H:(if 1≤(x0_1.length:Int) then (if 1≤(x1_1.length:Int) then (impl_merged_impl_Item__impl_cmpItem_impl_together_1.l0 k1 (x0_1.drop 1) (x1_1.drop 1) y310) else (none)) else (none))=some r:=by first|(rw [hy310];with_reducible exact H)|(have H2_:=(Option.bind_some _ _).symm.trans H;rw [hy310];with_reducible exact H2_)|(have H2_:=(Option.bind_some _ _).symm.trans H;with_reducible exact H2_)|with_reducible exact H|(rw [hy310];exact H)|exact H
           have Ny310:=Aside0.mk hy310
           clear hy310
           by_cases c33:1≤(x0_1.length:Int)
           ·rw [if_pos c33] at H
            have c33b0:=eq_true c33
            have c33b1:decide (1≤(x0_1.length:Int))=true:=decide_eq_true c33
            clear c33
            obtain ⟨y313,hy313⟩ : ∃ y_:List (S53),y_=(x0_1.drop 1):=⟨_,rfl⟩
            replace H:(if 1≤(x1_1.length:Int) then (impl_merged_impl_Item__impl_cmpItem_impl_together_1.l0 k1 y313 (x1_1.drop 1) y310) else (none))=some r:=by first|(rw [hy313];with_reducible exact H)|(have H2_:=(Option.bind_some _ _).symm.trans H;rw [hy313];with_reducible exact H2_)|(have H2_:=(Option.bind_some _ _).symm.trans H;with_reducible exact H2_)|with_reducible exact H|(rw [hy313];exact H)|exact H
            have Ny313:=Aside0.mk hy313
            clear hy313
            by_cases c34:1≤(x1_1.length:Int)
            ·rw [if_pos c34] at H
             have c34b0:=eq_true c34
             have c34b1:decide (1≤(x1_1.length:Int))=true:=decide_eq_true c34
             clear c34
             obtain ⟨y318,hy318⟩ : ∃ y_:List (S53),y_=(x1_1.drop 1):=⟨_,rfl⟩
             replace H:(impl_merged_impl_Item__impl_cmpItem_impl_together_1.l0 k1 y313 y318 y310)=some r:=by first|(rw [hy318];with_reducible exact H)|(have H2_:=(Option.bind_some _ _).symm.trans H;rw [hy318];with_reducible exact H2_)|(have H2_:=(Option.bind_some _ _).symm.trans H;with_reducible exact H2_)|with_reducible exact H|(rw [hy318];exact H)|exact H
             have Ny318:=Aside0.mk hy318
             clear hy318
             have H':=Aside0.mk H
             clear H
             obtain ⟨Ao35,co35,eo35⟩:=Kd.V_slice HO_0.out
             subst eo35
             obtain ⟨Ao36,co36,eo36⟩:=Kd.V_slice HO_1.out
             subst eo36
             try go_wp2
             have n0_:=Aside0.mk (Kd.V_drew HO_0.out)
             have n1_:=Aside0.mk (Kd.V_drew HO_1.out)
             have n2_:=Aside0.mk (Kd.N_drew HO_9.out)
             have n3_:=Aside0.mk (below_drew1 HB.out)
             clear HO_0
             clear HO_1
             clear HO_9
             clear HB
             have HO_0:=n0_
             have HO_1:=n1_
             have HO_9:=n2_
             have HB:=n3_
             clear n0_ n1_ n2_ n3_
             have p281:0≤(0:Int):=(by omega)
             have q281:0 < (x0_1.length:Int):=zod
             obtain ⟨ad281,A281_0,c281_0,e281,hx281_0,hx281_1,hl281_0,hi281_0⟩:=at_T53 (Kd.V_reads' HO_0.out).2.2 0 p281 q281
             cases e281
             obtain ⟨ce281,hce281,hMe281,hcc281⟩:=Kd.V_get HO_0.out z53 0 p281 (by first|exact q281|exact zod|(have e_:=(Kd.V_reads' HO_0.out).1;omega))
             obtain ⟨ua281_0,uc281_0,rfl,ul281_0,ge281_0⟩:=k53_openF hMe281
             have hv281_0:=hcc281 0 _ rfl
             rw [Nat.add_zero] at hv281_0
             replace hv281_0:=Option.some.inj (hv281_0.symm.trans hx281_0)
             injection hv281_0 with hva_ hvn_ hvc_
             rw [hva_] at ge281_0
             rw [hvc_] at ul281_0
             have HL281_0:=Aside0.mk (show Kd.V (Kd.int .i64) 3 _ w.heap.size _ _ ((rd_T53 x0_1 0).f0) from Kd.V_mk ul281_0 ge281_0)
             clear hva_ hvn_ hvc_ ge281_0 ul281_0
             clear hcc281 hce281
             have qi281:(0 < x0_1.length)=True:=eq_true (by omega)
             (try rw [show ((0:Int)).toNat=0 from rfl] at hx281_0)
             (try rw [show 0 * 2=0 from rfl] at hx281_0)
             (try rw [Addr.add_zero'] at hx281_0)
             (try rw [show ((0:Int)).toNat=0 from rfl] at hx281_1)
             (try rw [show 0 * 2=0 from rfl] at hx281_1)
             (try rw [Addr.add_zero'] at hx281_1)
             have HR281_0:=Aside0.mk hi281_0
             have HC281_0:=Aside0.mk hl281_0
             clear hi281_0 hl281_0
             replace p281:=eq_true p281
             replace q281:=eq_true q281
             have p282:0≤(0:Int):=(by omega)
             have q282:0 < (x1_1.length:Int):=zod
             obtain ⟨ad282,A282_0,c282_0,e282,hx282_0,hx282_1,hl282_0,hi282_0⟩:=at_T53 (Kd.V_reads' HO_1.out).2.2 0 p282 q282
             cases e282
             obtain ⟨ce282,hce282,hMe282,hcc282⟩:=Kd.V_get HO_1.out z53 0 p282 (by first|exact q282|exact zod|(have e_:=(Kd.V_reads' HO_1.out).1;omega))
             obtain ⟨ua282_0,uc282_0,rfl,ul282_0,ge282_0⟩:=k53_openF hMe282
             have hv282_0:=hcc282 0 _ rfl
             rw [Nat.add_zero] at hv282_0
             replace hv282_0:=Option.some.inj (hv282_0.symm.trans hx282_0)
             injection hv282_0 with hva_ hvn_ hvc_
             rw [hva_] at ge282_0
             rw [hvc_] at ul282_0
             have HL282_0:=Aside0.mk (show Kd.V (Kd.int .i64) 3 _ w.heap.size _ _ ((rd_T53 x1_1 0).f0) from Kd.V_mk ul282_0 ge282_0)
             clear hva_ hvn_ hvc_ ge282_0 ul282_0
             clear hcc282 hce282
             have qi282:(0 < x1_1.length)=True:=eq_true (by omega)
             (try rw [show ((0:Int)).toNat=0 from rfl] at hx282_0)
             (try rw [show 0 * 2=0 from rfl] at hx282_0)
             (try rw [Addr.add_zero'] at hx282_0)
             (try rw [show ((0:Int)).toNat=0 from rfl] at hx282_1)
             (try rw [show 0 * 2=0 from rfl] at hx282_1)
             (try rw [Addr.add_zero'] at hx282_1)
             have HR282_0:=Aside0.mk hi282_0
             have HC282_0:=Aside0.mk hl282_0
             clear hi282_0 hl282_0
             replace p282:=eq_true p282
             replace q282:=eq_true q282
             refine start_ (n:=9) (S:=fun w'=>w'.cell? ad281=some (.slice A281_0 ((rd_T53 x0_1 0).f0).length c281_0)∧w'.cell? ⟨ad281.block,ad281.off + 1,none⟩=some (.int .i64 ((rd_T53 x0_1 0).f1))∧w'.cell? ad282=some (.slice A282_0 ((rd_T53 x1_1 0).f0).length c282_0)∧w'.cell? ⟨ad282.block,ad282.off + 1,none⟩=some (.int .i64 ((rd_T53 x1_1 0).f1))) (ds:=[]) #[X,X,X,X,X,X,X,X,X] (by kernel_rfl) rfl rfl ⟨hx281_0,hx281_1,hx282_0,hx282_1⟩ (fun hHeld=>?_);refine with_tabW impl_merged_impl_Item__impl_cmpItem_impl_together_1.tab3 impl_merged_impl_Item__impl_cmpItem_impl_together_1.bits3 (fun HT_ HW_=>?_)
             generalize wr.drew=w37 at HO_0 HO_1 HO_9 HB HL281_0 HL282_0 HR281_0 HR282_0 hx281_0 hx281_1 hx282_0 hx282_1 hHeld ⊢
             refine pure_ (i:=0) (N:=some 21) (v:=?_) (a':=?_) #[Y,X,X,X,X,X,X,X,X] rfl rfl zan (fun _ _ _ h=>h) (Or.inl ⟨by rfl,?_⟩) ?_ ?_
             rotate_left
             ·intro w'
              go_simp
              with_reducible rfl
             rotate_left
             ·simp only [Act.put,zp1,zp2,zp3,i64_w,i32_w]
              rfl
             refine pure_ (i:=1) (N:=some 22) (v:=?_) (a':=?_) #[Y,Y,X,X,X,X,X,X,X] rfl rfl zan (fun _ _ _ h=>h) (Or.inl ⟨by rfl,?_⟩) ?_ ?_
             rotate_left
             ·intro w'
              go_simp
              with_reducible rfl
             rotate_left
             ·simp only [Act.put,zp1,zp2,zp3,i64_w,i32_w]
              rfl
             refine pure_ (i:=2) (N:=some 23) (v:=?_) (a':=?_) #[Y,Y,Y,X,X,X,X,X,X] rfl rfl zan (fun _ _ _ h=>h) (Or.inl ⟨by rfl,?_⟩) ?_ ?_
             rotate_left
             ·intro w'
              go_simp
              with_reducible rfl
             rotate_left
             ·simp only [Act.put,zp1,zp2,zp3,i64_w,i32_w]
              rfl
             refine pure_ (i:=4) (N:=some 25) (v:=?_) (a':=?_) #[Y,Y,Y,X,Y,X,X,X,X] rfl rfl zan (fun _ _ _ h=>h) (Or.inl ⟨by rfl,?_⟩) ?_ ?_
             rotate_left
             ·intro w'
              go_simp
              with_reducible rfl
             rotate_left
             ·simp only [Act.put,zp1,zp2,zp3,i64_w,i32_w]
              rfl
             refine pure_ (i:=5) (N:=some 26) (v:=?_) (a':=?_) #[Y,Y,Y,X,Y,Y,X,X,X] rfl rfl zan (fun _ _ _ h=>h) (Or.inl ⟨by rfl,?_⟩) ?_ ?_
             rotate_left
             ·intro w'
              go_simp
              with_reducible rfl
             rotate_left
             ·simp only [Act.put,zp1,zp2,zp3,i64_w,i32_w]
              rfl
             refine take_ (i:=3) (N:=some 24) (v:=?_) (a':=?_) #[Y,Y,Y,Y,Y,Y,X,X,X] rfl rfl ztw (fun _ _ _ h=>h) (Or.inl ⟨by rfl,?_⟩) hHeld ?_ ?_
             rotate_left
             ·rintro w' ⟨s0,s1,s2,s3⟩
              go_simp
              with_reducible rfl
             rotate_left
             ·simp only [Act.put,zp1,zp2,zp3,i64_w,i32_w]
              rfl
             refine take_ (i:=6) (N:=some 27) (v:=?_) (a':=?_) #[Y,Y,Y,Y,Y,Y,Y,X,X] rfl rfl ztw (fun _ _ _ h=>h) (Or.inl ⟨by rfl,?_⟩) hHeld ?_ ?_
             rotate_left
             ·rintro w' ⟨s0,s1,s2,s3⟩
              go_simp
              with_reducible rfl
             rotate_left
             ·simp only [Act.put,zp1,zp2,zp3,i64_w,i32_w]
              rfl
             refine one_ (i:=7) (N:=some 28) #[Y,Y,Y,Y,Y,Y,Y,Y,X] rfl rfl (one_of HT_.out (by kernel_rfl)) (by decide) (fun K hK=>?_)
             refine goes_f (.tmp 21) Tryd.func84 (by kernel_rfl) rfl #[.agg #[.slice A281_0 ((rd_T53 x0_1 0).f0).length c281_0,.int .i64 ((rd_T53 x0_1 0).f1)],.agg #[.slice A282_0 ((rd_T53 x1_1 0).f0).length c282_0,.int .i64 ((rd_T53 x1_1 0).f1)]] (by rfl) rfl rfl rfl zar ?_
             with_reducible refine (impl_cmpItem.calls k1 _ _ ((rd_T53 x0_1 0).f0) ((rd_T53 x0_1 0).f1) _ _ ((rd_T53 x1_1 0).f0) ((rd_T53 x1_1 0).f1) t283 _ ?side1 ?side2 ?side3 ?side4 A9.out).mono ?_
             (case side1=>exact zC (zC HR281_0.out))
             (case side2=>exact HC281_0.out)
             (case side3=>exact zC (zC HR282_0.out))
             (case side4=>exact HC282_0.out)
             rintro e w38 ⟨rfl,hb⟩
             have HS0_:=zhs hb hHeld.1
             have HS1_:=zhs hb hHeld.2.1
             have HS2_:=zhs hb hHeld.2.2.1
             have HS3_:=zhs hb hHeld.2.2.2
             refine ⟨_,rfl,?_⟩
             have n0_:=Aside0.mk (Kd.V_below (zV HO_0.out) hb)
             have n1_:=Aside0.mk (Kd.V_below (zV HO_1.out) hb)
             have n2_:=Aside0.mk (Kd.N_below (zN HO_9.out) hb)
             have n3_:=Aside0.mk (Kd.V_below (zV HL281_0.out) hb)
             have n4_:=Aside0.mk (Kd.V_below (zV HL282_0.out) hb)
             have n5_:=Aside0.mk (Kd.C_below (zC HR281_0.out) hb)
             have n6_:=Aside0.mk (Kd.C_below (zC HR282_0.out) hb)
             have n7_:=Aside0.mk (below_step zhb hb)
             clear HO_0
             clear HO_1
             clear HO_9
             clear HL281_0
             clear HL282_0
             clear HR281_0
             clear HR282_0
             clear HB
             have HO_0:=n0_
             have HO_1:=n1_
             have HO_9:=n2_
             have HL281_0:=n3_
             have HL282_0:=n4_
             have HR281_0:=n5_
             have HR282_0:=n6_
             have HB:=n7_
             clear n0_ n1_ n2_ n3_ n4_ n5_ n6_ n7_
             (try clear hb)
             (try clear hb2)
             (try clear hk)
             (try clear hi)
             refine hK.out _ _ ⟨HS0_,HS1_,HS2_,HS3_⟩ (fun hHeld=>?_)
             clear hK K
             refine norm_ (a':=?_) ?_ ?_
             rotate_left
             ·show Act.put _ (some 28) _=_
              simp only [Act.put,zp1,zp2,zp3,i64_w,i32_w]
              rfl
             refine pure_ (i:=8) (N:=some 10) (v:=?_) (a':=?_) #[Y,Y,Y,Y,Y,Y,Y,Y,Y] rfl rfl zan (fun _ _ _ h=>h) (Or.inl ⟨by rfl,?_⟩) ?_ ?_
             rotate_left
             ·intro w'
              go_simp
              with_reducible rfl
             rotate_left
             ·simp only [Act.put,zp1,zp2,zp3,i64_w,i32_w]
              rfl
             refine done_ (done_of HT_.out (by kernel_rfl)) ?_
             try go_wp2
             have n0_:=Aside0.mk (Kd.V_drew HO_0.out)
             have n1_:=Aside0.mk (Kd.V_drew HO_1.out)
             have n2_:=Aside0.mk (Kd.N_drew HO_9.out)
             have n3_:=Aside0.mk (Kd.V_drew HL281_0.out)
             have n4_:=Aside0.mk (Kd.V_drew HL282_0.out)
             have n5_:=Aside0.mk (Kd.C_drew HR281_0.out)
             have n6_:=Aside0.mk (Kd.C_drew HR282_0.out)
             have n7_:=Aside0.mk (below_drew1 HB.out)
             clear HO_0
             clear HO_1
             clear HO_9
             clear HL281_0
             clear HL282_0
             clear HR281_0
             clear HR282_0
             clear HB
             have HO_0:=n0_
             have HO_1:=n1_
             have HO_9:=n2_
             have HL281_0:=n3_
             have HL282_0:=n4_
             have HR281_0:=n5_
             have HR282_0:=n6_
             have HB:=n7_
             clear n0_ n1_ n2_ n3_ n4_ n5_ n6_ n7_
             have p302:0≤(0:Int):=(by omega)
             have q302:0 < (x0_1.length:Int):=zod
             obtain ⟨ad302,A302_0,c302_0,e302,hx302_0,hx302_1,hl302_0,hi302_0⟩:=at_T53 (Kd.V_reads' HO_0.out).2.2 0 p302 q302
             obtain rfl:ad281=ad302:=(by injection e302)
             obtain ⟨ce302,hce302,hMe302,hcc302⟩:=Kd.V_get HO_0.out z53 0 p302 (by first|exact q302|exact zod|(have e_:=(Kd.V_reads' HO_0.out).1;omega))
             obtain ⟨ua302_0,uc302_0,rfl,ul302_0,ge302_0⟩:=k53_openF hMe302
             have hv302_0:=hcc302 0 _ rfl
             rw [Nat.add_zero] at hv302_0
             replace hv302_0:=Option.some.inj (hv302_0.symm.trans hx302_0)
             injection hv302_0 with hva_ hvn_ hvc_
             rw [hva_] at ge302_0
             rw [hvc_] at ul302_0
             have HL302_0:=Aside0.mk (show Kd.V (Kd.int .i64) 3 _ w.heap.size _ _ ((rd_T53 x0_1 0).f0) from Kd.V_mk ul302_0 ge302_0)
             clear hva_ hvn_ hvc_ ge302_0 ul302_0
             clear hcc302 hce302
             have qi302:(0 < x0_1.length)=True:=eq_true (by omega)
             (try rw [show ((0:Int)).toNat=0 from rfl] at hx302_0)
             (try rw [show 0 * 2=0 from rfl] at hx302_0)
             (try rw [Addr.add_zero'] at hx302_0)
             (try rw [show ((0:Int)).toNat=0 from rfl] at hx302_1)
             (try rw [show 0 * 2=0 from rfl] at hx302_1)
             (try rw [Addr.add_zero'] at hx302_1)
             have HR302_0:=Aside0.mk hi302_0
             have HC302_0:=Aside0.mk hl302_0
             clear hi302_0 hl302_0
             replace p302:=eq_true p302
             replace q302:=eq_true q302
             have p303:0≤(0:Int):=(by omega)
             have q303:0 < (x1_1.length:Int):=zod
             obtain ⟨ad303,A303_0,c303_0,e303,hx303_0,hx303_1,hl303_0,hi303_0⟩:=at_T53 (Kd.V_reads' HO_1.out).2.2 0 p303 q303
             obtain rfl:ad282=ad303:=(by injection e303)
             obtain ⟨ce303,hce303,hMe303,hcc303⟩:=Kd.V_get HO_1.out z53 0 p303 (by first|exact q303|exact zod|(have e_:=(Kd.V_reads' HO_1.out).1;omega))
             obtain ⟨ua303_0,uc303_0,rfl,ul303_0,ge303_0⟩:=k53_openF hMe303
             have hv303_0:=hcc303 0 _ rfl
             rw [Nat.add_zero] at hv303_0
             replace hv303_0:=Option.some.inj (hv303_0.symm.trans hx303_0)
             injection hv303_0 with hva_ hvn_ hvc_
             rw [hva_] at ge303_0
             rw [hvc_] at ul303_0
             have HL303_0:=Aside0.mk (show Kd.V (Kd.int .i64) 3 _ w.heap.size _ _ ((rd_T53 x1_1 0).f0) from Kd.V_mk ul303_0 ge303_0)
             clear hva_ hvn_ hvc_ ge303_0 ul303_0
             clear hcc303 hce303
             have qi303:(0 < x1_1.length)=True:=eq_true (by omega)
             (try rw [show ((0:Int)).toNat=0 from rfl] at hx303_0)
             (try rw [show 0 * 2=0 from rfl] at hx303_0)
             (try rw [Addr.add_zero'] at hx303_0)
             (try rw [show ((0:Int)).toNat=0 from rfl] at hx303_1)
             (try rw [show 0 * 2=0 from rfl] at hx303_1)
             (try rw [Addr.add_zero'] at hx303_1)
             have HR303_0:=Aside0.mk hi303_0
             have HC303_0:=Aside0.mk hl303_0
             clear hi303_0 hl303_0
             replace p303:=eq_true p303
             replace q303:=eq_true q303
             refine start_ (n:=14) (S:=fun w'=>w'.cell? ad281=some (.slice A302_0 ((rd_T53 x0_1 0).f0).length c302_0)∧w'.cell? ⟨ad281.block,ad281.off + 1,none⟩=some (.int .i64 ((rd_T53 x0_1 0).f1))∧w'.cell? ad282=some (.slice A303_0 ((rd_T53 x1_1 0).f0).length c303_0)∧w'.cell? ⟨ad282.block,ad282.off + 1,none⟩=some (.int .i64 ((rd_T53 x1_1 0).f1))) (ds:=[]) #[X,X,X,X,X,X,X,X,X,X,X,X,X,X] (by kernel_rfl) rfl rfl ⟨hx302_0,hx302_1,hx303_0,hx303_1⟩ (fun hHeld=>?_);refine with_tabW impl_merged_impl_Item__impl_cmpItem_impl_together_1.tab4 impl_merged_impl_Item__impl_cmpItem_impl_together_1.bits4 (fun HT_ HW_=>?_)
             generalize w38.drew=w39 at HO_0 HO_1 HO_9 HL281_0 HL282_0 HR281_0 HR282_0 HB HL302_0 HL303_0 HR302_0 HR303_0 hx302_0 hx302_1 hx303_0 hx303_1 hHeld ⊢
             refine pure_ (i:=0) (N:=some 30) (v:=?_) (a':=?_) #[Y,X,X,X,X,X,X,X,X,X,X,X,X,X] rfl rfl zan (fun _ _ _ h=>h) (Or.inl ⟨by rfl,?_⟩) ?_ ?_
             rotate_left
             ·intro w'
              go_simp
              with_reducible rfl
             rotate_left
             ·simp only [Act.put,zp1,zp2,zp3,i64_w,i32_w]
              rfl
             refine pure_ (i:=1) (N:=some 31) (v:=?_) (a':=?_) #[Y,Y,X,X,X,X,X,X,X,X,X,X,X,X] rfl rfl zan (fun _ _ _ h=>h) (Or.inl ⟨by rfl,?_⟩) ?_ ?_
             rotate_left
             ·intro w'
              go_simp
              with_reducible rfl
             rotate_left
             ·simp only [Act.put,zp1,zp2,zp3,i64_w,i32_w]
              rfl
             refine pure_ (i:=2) (N:=some 32) (v:=?_) (a':=?_) #[Y,Y,Y,X,X,X,X,X,X,X,X,X,X,X] rfl rfl zan (fun _ _ _ h=>h) (Or.inl ⟨by rfl,?_⟩) ?_ ?_
             rotate_left
             ·intro w'
              go_simp
              with_reducible rfl
             rotate_left
             ·simp only [Act.put,zp1,zp2,zp3,i64_w,i32_w]
              rfl
             refine pure_ (i:=4) (N:=some 34) (v:=?_) (a':=?_) #[Y,Y,Y,X,Y,X,X,X,X,X,X,X,X,X] rfl rfl zan (fun _ _ _ h=>h) (Or.inl ⟨by rfl,?_⟩) ?_ ?_
             rotate_left
             ·intro w'
              go_simp
              with_reducible rfl
             rotate_left
             ·simp only [Act.put,zp1,zp2,zp3,i64_w,i32_w]
              rfl
             refine pure_ (i:=5) (N:=some 35) (v:=?_) (a':=?_) #[Y,Y,Y,X,Y,Y,X,X,X,X,X,X,X,X] rfl rfl zan (fun _ _ _ h=>h) (Or.inl ⟨by rfl,?_⟩) ?_ ?_
             rotate_left
             ·intro w'
              go_simp
              with_reducible rfl
             rotate_left
             ·simp only [Act.put,zp1,zp2,zp3,i64_w,i32_w]
              rfl
             refine take_ (i:=3) (N:=some 33) (v:=?_) (a':=?_) #[Y,Y,Y,Y,Y,Y,X,X,X,X,X,X,X,X] rfl rfl ztw (fun _ _ _ h=>h) (Or.inl ⟨by rfl,?_⟩) hHeld ?_ ?_
             rotate_left
             ·rintro w' ⟨s0,s1,s2,s3⟩
              go_simp
              with_reducible rfl
             rotate_left
             ·simp only [Act.put,zp1,zp2,zp3,i64_w,i32_w]
              rfl
             refine take_ (i:=6) (N:=some 36) (v:=?_) (a':=?_) #[Y,Y,Y,Y,Y,Y,Y,X,X,X,X,X,X,X] rfl rfl ztw (fun _ _ _ h=>h) (Or.inl ⟨by rfl,?_⟩) hHeld ?_ ?_
             rotate_left
             ·rintro w' ⟨s0,s1,s2,s3⟩
              go_simp
              with_reducible rfl
             rotate_left
             ·simp only [Act.put,zp1,zp2,zp3,i64_w,i32_w]
              rfl
             refine join_ (σ:=Value × Nat) 2 #[Y,Y,Y,Y,Y,Y,Y,Y,Y,Y,Y,Y,X,X] (fun s_=>[(37,.tuple #[.agg #[s_.1,.int .i64 t307],.bool true]),(11,.pointer (some ⟨s_.2,0,none⟩)),(29,.tuple #[.agg #[s_.1,.int .i64 t307],.bool true]),(38,.agg #[s_.1,.int .i64 t307]),(39,.bool true)]) (fun s_ w'=>(w'.cell? ad281=some (.slice A302_0 ((rd_T53 x0_1 0).f0).length c302_0)∧w'.cell? ⟨ad281.block,ad281.off + 1,none⟩=some (.int .i64 ((rd_T53 x0_1 0).f1))∧w'.cell? ad282=some (.slice A303_0 ((rd_T53 x1_1 0).f0).length c303_0)∧w'.cell? ⟨ad282.block,ad282.off + 1,none⟩=some (.int .i64 ((rd_T53 x1_1 0).f1)))∧(Kd.V (Kd.int .i64) 3 w' w.heap.size (fun k_=>((P0_ k_∨P1_ k_)∨w.heap.size≤k_)∧some k_≠(u9:Value).ownBlock∧k_≠s_.2) (.slice A281_0 ((rd_T53 x0_1 0).f0).length c281_0) ((rd_T53 x0_1 0).f0))∧(Kd.V (Kd.int .i64) 3 w' w.heap.size (fun k_=>((P0_ k_∨P1_ k_)∨w.heap.size≤k_)∧some k_≠(u9:Value).ownBlock∧k_≠s_.2) (.slice A282_0 ((rd_T53 x1_1 0).f0).length c282_0) ((rd_T53 x1_1 0).f0))∧(Kd.V (Kd.int .i64) 3 w' w.heap.size (fun k_=>((P0_ k_∨P1_ k_)∨w.heap.size≤k_)∧some k_≠(u9:Value).ownBlock∧k_≠s_.2) (.slice A302_0 ((rd_T53 x0_1 0).f0).length c302_0) ((rd_T53 x0_1 0).f0))∧(Kd.V (Kd.int .i64) 3 w' w.heap.size (fun k_=>((P0_ k_∨P1_ k_)∨w.heap.size≤k_)∧some k_≠(u9:Value).ownBlock∧k_≠s_.2) (.slice A303_0 ((rd_T53 x1_1 0).f0).length c303_0) ((rd_T53 x1_1 0).f0))∧(Kd.V (Kd.int .i64) 3 w' w.heap.size (fun k_=>((P0_ k_∨P1_ k_)∨w.heap.size≤k_)∧some k_≠(u9:Value).ownBlock∧k_≠s_.2) s_.1 t304)∧(Kd.V k53 53 w' w.heap.size (fun k_=>((P0_ k_∨P1_ k_)∨w.heap.size≤k_)∧some k_≠(u9:Value).ownBlock∧k_≠s_.2) (.slice (some ad281) x0_1.length co35) x0_1)∧(Kd.V k53 53 w' w.heap.size (fun k_=>((P0_ k_∨P1_ k_)∨w.heap.size≤k_)∧some k_≠(u9:Value).ownBlock∧k_≠s_.2) (.slice (some ad282) x1_1.length co36) x1_1)∧(Kd.N k53 53 w' w.heap.size (fun k_=>((P0_ k_∨P1_ k_)∨w.heap.size≤k_)∧k_≠s_.2) u9 x9_1)∧(w'.heap[s_.2]?=some (.cells #[.slice none 0 0,.int .i64 0] 53 (0,0)))∧(w.heap.size≤s_.2)∧(w.heap.size≤s_.2)∧(Below w.heap.size w w')) ?_ ?_
             rotate_left
             ·intro hCont
              refine two_ (i:=7) (j:=11) (Ni:=some 37) (Nj:=some 11) #[Y,Y,Y,Y,Y,Y,Y,Y,X,X,X,X,X,X] #[Y,Y,Y,Y,Y,Y,Y,X,X,X,X,Y,X,X] rfl rfl rfl rfl (two_of HT_.out (by kernel_rfl)) (by decide) (by decide) (fun K hK=>?_) (fun K hK=>?_)
              ·skip
               refine goes_f (.tmp 30) Tryd.func85 (by kernel_rfl) rfl #[.agg #[.slice A302_0 ((rd_T53 x0_1 0).f0).length c302_0,.int .i64 ((rd_T53 x0_1 0).f1)],.agg #[.slice A303_0 ((rd_T53 x1_1 0).f0).length c303_0,.int .i64 ((rd_T53 x1_1 0).f1)]] (by rfl) rfl rfl rfl zar ?_
               with_reducible refine (impl_together_1.calls (fun k_=>(((P0_ k_∨P1_ k_)∨w.heap.size≤k_)∧some k_≠(u9:Value).ownBlock)) _ _ ((rd_T53 x0_1 0).f0) ((rd_T53 x0_1 0).f1) _ _ ((rd_T53 x1_1 0).f0) ((rd_T53 x1_1 0).f1) t304 t307 true _ ?side1 ?side2 ?side3 A30.out).mono ?_
               (case side1=>exact HL302_0.out)
               (case side2=>exact zC (zC HR303_0.out))
               (case side3=>exact HC303_0.out)
               rintro e w40 ⟨v305,rfl,ho0,hb⟩
               have HS0_:=zhs hb hHeld.1
               have HS1_:=zhs hb hHeld.2.1
               have HS2_:=zhs hb hHeld.2.2.1
               have HS3_:=zhs hb hHeld.2.2.2
               refine ⟨_,rfl,?_⟩
               have n0_:=Aside0.mk (Kd.V_below (zV HO_0.out) hb)
               have n1_:=Aside0.mk (Kd.V_below (zV HO_1.out) hb)
               have n2_:=Aside0.mk (Kd.N_below (zN HO_9.out) hb)
               have n3_:=Aside0.mk (Kd.V_below (zV HL281_0.out) hb)
               have n4_:=Aside0.mk (Kd.V_below (zV HL282_0.out) hb)
               have n5_:=Aside0.mk (Kd.V_below (zV HL302_0.out) hb)
               have n6_:=Aside0.mk (Kd.V_below (zV HL303_0.out) hb)
               have n7_:=Aside0.mk (Kd.V_lower (Kd.V_mono (ok':=fun k_=>((P0_ k_∨P1_ k_)∨w.heap.size≤k_)∧some k_≠(u9:Value).ownBlock) ho0 (fun k_ hk_=>⟨Or.elim hk_ (fun hs_=>hs_.1) (fun hn_=>(.inr (Nat.le_trans (below_size zhb) hn_))),Or.elim hk_ (fun hs_=>hs_.2) (fun hn_=>(Kd.fresh' (Kd.N_lt (zN HO_9.out)) k_ hn_))⟩)) (below_size zhb))
               have n8_:=Aside0.mk (Kd.C_below (zC HR281_0.out) hb)
               have n9_:=Aside0.mk (Kd.C_below (zC HR282_0.out) hb)
               have n10_:=Aside0.mk (Kd.C_below (zC HR302_0.out) hb)
               have n11_:=Aside0.mk (Kd.C_below (zC HR303_0.out) hb)
               have n12_:=Aside0.mk (below_step zhb hb)
               clear HO_0
               clear HO_1
               clear HO_9
               clear HL281_0
               clear HL282_0
               clear HL302_0
               clear HL303_0
               clear HR281_0
               clear HR282_0
               clear HR302_0
               clear HR303_0
               clear HB
               have HO_0:=n0_
               have HO_1:=n1_
               have HO_9:=n2_
               have HL281_0:=n3_
               have HL282_0:=n4_
               have HL302_0:=n5_
               have HL303_0:=n6_
               have HO306:=n7_
               have HR281_0:=n8_
               have HR282_0:=n9_
               have HR302_0:=n10_
               have HR303_0:=n11_
               have HB:=n12_
               clear n0_ n1_ n2_ n3_ n4_ n5_ n6_ n7_ n8_ n9_ n10_ n11_ n12_
               (try clear hb)
               (try clear hb2)
               (try clear hk)
               (try clear hi)
               (try clear ho0)
               refine hK.out _ _ ⟨HS0_,HS1_,HS2_,HS3_⟩ (fun hHeld=>?_)
               clear hK K
               refine norm_ (a':=?_) ?_ ?_
               rotate_left
               ·show Act.put _ (some 37) _=_
                simp only [Act.put,zp1,zp2,zp3,i64_w,i32_w]
                rfl
               refine pure_ (i:=8) (N:=some 29) (v:=?_) (a':=?_) #[Y,Y,Y,Y,Y,Y,Y,Y,Y,X,X,X,X,X] rfl rfl zan (fun _ _ _ h=>h) (Or.inl ⟨by rfl,?_⟩) ?_ ?_
               rotate_left
               ·intro w'
                go_simp
                with_reducible rfl
               rotate_left
               ·simp only [Act.put,zp1,zp2,zp3,i64_w,i32_w]
                rfl
               refine pure_ (i:=9) (N:=some 38) (v:=?_) (a':=?_) #[Y,Y,Y,Y,Y,Y,Y,Y,Y,Y,X,X,X,X] rfl rfl zan (fun _ _ _ h=>h) (Or.inl ⟨by rfl,?_⟩) ?_ ?_
               rotate_left
               ·intro w'
                go_simp
                with_reducible rfl
               rotate_left
               ·simp only [Act.put,zp1,zp2,zp3,i64_w,i32_w]
                rfl
               refine pure_ (i:=10) (N:=some 39) (v:=?_) (a':=?_) #[Y,Y,Y,Y,Y,Y,Y,Y,Y,Y,Y,X,X,X] rfl rfl zan (fun _ _ _ h=>h) (Or.inl ⟨by rfl,?_⟩) ?_ ?_
               rotate_left
               ·intro w'
                go_simp
                with_reducible rfl
               rotate_left
               ·simp only [Act.put,zp1,zp2,zp3,i64_w,i32_w]
                rfl
               refine one_ (i:=11) (N:=some 11) #[Y,Y,Y,Y,Y,Y,Y,Y,Y,Y,Y,Y,X,X] rfl rfl (one_of HT_.out (by kernel_rfl)) (by decide) (fun K hK=>?_)
               refine box_step ?hg (N:=11) ?hd (cs:=#[.slice none 0 0,.int .i64 0]) (t:=53) ?hr ?_;(case hd=>rfl);(case hg=>rfl);(case hr=>first|(go_simp;done)|(go_simp;rfl))
               intro gb309 hg w41 hbox hb
               have HS0_:=zhs hb hHeld.1
               have HS1_:=zhs hb hHeld.2.1
               have HS2_:=zhs hb hHeld.2.2.1
               have HS3_:=zhs hb hHeld.2.2.2
               have n0_:=Aside0.mk (Kd.V_below (Kd.V_elderB (zV HO_0.out) gb309 (Nat.le_of_eq hg.symm)) hb)
               have n1_:=Aside0.mk (Kd.V_below (Kd.V_elderB (zV HO_1.out) gb309 (Nat.le_of_eq hg.symm)) hb)
               have n2_:=Aside0.mk (Kd.N_below (Kd.N_elderB (zN HO_9.out) gb309 (Nat.le_of_eq hg.symm)) hb)
               have n3_:=Aside0.mk (Kd.V_below (Kd.V_elderB (zV HL281_0.out) gb309 (Nat.le_of_eq hg.symm)) hb)
               have n4_:=Aside0.mk (Kd.V_below (Kd.V_elderB (zV HL282_0.out) gb309 (Nat.le_of_eq hg.symm)) hb)
               have n5_:=Aside0.mk (Kd.V_below (Kd.V_elderB (zV HL302_0.out) gb309 (Nat.le_of_eq hg.symm)) hb)
               have n6_:=Aside0.mk (Kd.V_below (Kd.V_elderB (zV HL303_0.out) gb309 (Nat.le_of_eq hg.symm)) hb)
               have n7_:=Aside0.mk (Kd.V_below (Kd.V_elderB (zV HO306.out) gb309 (Nat.le_of_eq hg.symm)) hb)
               have n8_:=Aside0.mk (Kd.C_below (zC HR281_0.out) hb)
               have n9_:=Aside0.mk (Kd.C_below (zC HR282_0.out) hb)
               have n10_:=Aside0.mk (Kd.C_below (zC HR302_0.out) hb)
               have n11_:=Aside0.mk (Kd.C_below (zC HR303_0.out) hb)
               have n12_:=Aside0.mk (below_step zhb hb)
               have n13_:=Aside0.mk (hbox)
               have n14_:=Aside0.mk ((by rw [hg];exact (below_size zhb):w.heap.size≤gb309))
               have n15_:=Aside0.mk ((by rw [hg];exact (below_size zhb):w.heap.size≤gb309))
               clear HO_0
               clear HO_1
               clear HO_9
               clear HL281_0
               clear HL282_0
               clear HL302_0
               clear HL303_0
               clear HO306
               clear HR281_0
               clear HR282_0
               clear HR302_0
               clear HR303_0
               clear HB
               have HO_0:=n0_
               have HO_1:=n1_
               have HO_9:=n2_
               have HL281_0:=n3_
               have HL282_0:=n4_
               have HL302_0:=n5_
               have HL303_0:=n6_
               have HO306:=n7_
               have HR281_0:=n8_
               have HR282_0:=n9_
               have HR302_0:=n10_
               have HR303_0:=n11_
               have HB:=n12_
               have BK309:=n13_
               have GW309:=n14_
               have GE309:=n15_
               clear n0_ n1_ n2_ n3_ n4_ n5_ n6_ n7_ n8_ n9_ n10_ n11_ n12_ n13_ n14_ n15_
               clear hb hbox hg
               refine hK.out _ _ ⟨HS0_,HS1_,HS2_,HS3_⟩ (fun hHeld=>?_)
               clear hK K
               refine norm_ (a':=?_) ?_ ?_
               rotate_left
               ·show Act.put _ (some 11) _=_
                simp only [Act.put,zp1,zp2,zp3,i64_w,i32_w]
                rfl
               exact norm_ (by simp only [putAll,Act.put,zp1,zp2,zp3]) (hCont (v305,gb309) _ ⟨hHeld,(by (with_reducible repeat (first|apply Kd.V_alloc|apply Kd.V_drewN|apply Kd.V_drew));exact Kd.V_mono HL281_0.out (fun _ hk=>⟨hk.1.1,⟨hk.1.2,hk.2⟩⟩)),(by (with_reducible repeat (first|apply Kd.V_alloc|apply Kd.V_drewN|apply Kd.V_drew));exact Kd.V_mono HL282_0.out (fun _ hk=>⟨hk.1.1,⟨hk.1.2,hk.2⟩⟩)),(by (with_reducible repeat (first|apply Kd.V_alloc|apply Kd.V_drewN|apply Kd.V_drew));exact Kd.V_mono HL302_0.out (fun _ hk=>⟨hk.1.1,⟨hk.1.2,hk.2⟩⟩)),(by (with_reducible repeat (first|apply Kd.V_alloc|apply Kd.V_drewN|apply Kd.V_drew));exact Kd.V_mono HL303_0.out (fun _ hk=>⟨hk.1.1,⟨hk.1.2,hk.2⟩⟩)),(by (with_reducible repeat (first|apply Kd.V_alloc|apply Kd.V_drewN|apply Kd.V_drew));exact Kd.V_mono HO306.out (fun _ hk=>⟨hk.1.1,⟨hk.1.2,hk.2⟩⟩)),(by (with_reducible repeat (first|apply Kd.V_alloc|apply Kd.V_drewN|apply Kd.V_drew));exact Kd.V_mono HO_0.out (fun _ hk=>⟨hk.1.1,⟨hk.1.2,hk.2⟩⟩)),(by (with_reducible repeat (first|apply Kd.V_alloc|apply Kd.V_drewN|apply Kd.V_drew));exact Kd.V_mono HO_1.out (fun _ hk=>⟨hk.1.1,⟨hk.1.2,hk.2⟩⟩)),(zN HO_9.out),(by (with_reducible repeat (first|refine blk_drewN ?_ _|refine blk_drew ?_|refine blk_alloc ?_ _));exact BK309.out),GW309.out,GE309.out,(by repeat (first|(with_reducible first|exact HB.out|apply below_alloc|apply pw_below_drewN|apply below_drew1|refine below_set ?_ GE309.out)|exact HB.out))⟩)
              ·skip
               refine box_step ?hg (N:=11) ?hd (cs:=#[.slice none 0 0,.int .i64 0]) (t:=53) ?hr ?_;(case hd=>rfl);(case hg=>rfl);(case hr=>first|(go_simp;done)|(go_simp;rfl))
               intro gb309 hg w40 hbox hb
               have HS0_:=zhs hb hHeld.1
               have HS1_:=zhs hb hHeld.2.1
               have HS2_:=zhs hb hHeld.2.2.1
               have HS3_:=zhs hb hHeld.2.2.2
               have n0_:=Aside0.mk (Kd.V_below (Kd.V_elderB (zV HO_0.out) gb309 (Nat.le_of_eq hg.symm)) hb)
               have n1_:=Aside0.mk (Kd.V_below (Kd.V_elderB (zV HO_1.out) gb309 (Nat.le_of_eq hg.symm)) hb)
               have n2_:=Aside0.mk (Kd.N_below (Kd.N_elderB (zN HO_9.out) gb309 (Nat.le_of_eq hg.symm)) hb)
               have n3_:=Aside0.mk (Kd.V_below (Kd.V_elderB (zV HL281_0.out) gb309 (Nat.le_of_eq hg.symm)) hb)
               have n4_:=Aside0.mk (Kd.V_below (Kd.V_elderB (zV HL282_0.out) gb309 (Nat.le_of_eq hg.symm)) hb)
               have n5_:=Aside0.mk (Kd.V_below (Kd.V_elderB (zV HL302_0.out) gb309 (Nat.le_of_eq hg.symm)) hb)
               have n6_:=Aside0.mk (Kd.V_below (Kd.V_elderB (zV HL303_0.out) gb309 (Nat.le_of_eq hg.symm)) hb)
               have n7_:=Aside0.mk (Kd.C_below (zC HR281_0.out) hb)
               have n8_:=Aside0.mk (Kd.C_below (zC HR282_0.out) hb)
               have n9_:=Aside0.mk (Kd.C_below (zC HR302_0.out) hb)
               have n10_:=Aside0.mk (Kd.C_below (zC HR303_0.out) hb)
               have n11_:=Aside0.mk (below_step zhb hb)
               have n12_:=Aside0.mk (hbox)
               have n13_:=Aside0.mk ((by rw [hg];exact (below_size zhb):w.heap.size≤gb309))
               have n14_:=Aside0.mk ((by rw [hg];exact (below_size zhb):w.heap.size≤gb309))
               clear HO_0
               clear HO_1
               clear HO_9
               clear HL281_0
               clear HL282_0
               clear HL302_0
               clear HL303_0
               clear HR281_0
               clear HR282_0
               clear HR302_0
               clear HR303_0
               clear HB
               have HO_0:=n0_
               have HO_1:=n1_
               have HO_9:=n2_
               have HL281_0:=n3_
               have HL282_0:=n4_
               have HL302_0:=n5_
               have HL303_0:=n6_
               have HR281_0:=n7_
               have HR282_0:=n8_
               have HR302_0:=n9_
               have HR303_0:=n10_
               have HB:=n11_
               have BK309:=n12_
               have GW309:=n13_
               have GE309:=n14_
               clear n0_ n1_ n2_ n3_ n4_ n5_ n6_ n7_ n8_ n9_ n10_ n11_ n12_ n13_ n14_
               clear hb hbox hg
               refine hK.out _ _ ⟨HS0_,HS1_,HS2_,HS3_⟩ (fun hHeld=>?_)
               clear hK K
               refine norm_ (a':=?_) ?_ ?_
               rotate_left
               ·show Act.put _ (some 11) _=_
                simp only [Act.put,zp1,zp2,zp3,i64_w,i32_w]
                rfl
               refine one_ (i:=7) (N:=some 37) #[Y,Y,Y,Y,Y,Y,Y,Y,X,X,X,Y,X,X] rfl rfl (one_of HT_.out (by kernel_rfl)) (by decide) (fun K hK=>?_)
               refine goes_f (.tmp 30) Tryd.func85 (by kernel_rfl) rfl #[.agg #[.slice A302_0 ((rd_T53 x0_1 0).f0).length c302_0,.int .i64 ((rd_T53 x0_1 0).f1)],.agg #[.slice A303_0 ((rd_T53 x1_1 0).f0).length c303_0,.int .i64 ((rd_T53 x1_1 0).f1)]] (by rfl) rfl rfl rfl zar ?_
               with_reducible refine (impl_together_1.calls (fun k_=>((((P0_ k_∨P1_ k_)∨w.heap.size≤k_)∧some k_≠(u9:Value).ownBlock)∧k_≠gb309)) _ _ ((rd_T53 x0_1 0).f0) ((rd_T53 x0_1 0).f1) _ _ ((rd_T53 x1_1 0).f0) ((rd_T53 x1_1 0).f1) t304 t307 true _ ?side1 ?side2 ?side3 A30.out).mono ?_
               (case side1=>exact HL302_0.out)
               (case side2=>exact zC (zC HR303_0.out))
               (case side3=>exact HC303_0.out)
               rintro e w41 ⟨v305,rfl,ho0,hb⟩
               have HS0_:=zhs hb hHeld.1
               have HS1_:=zhs hb hHeld.2.1
               have HS2_:=zhs hb hHeld.2.2.1
               have HS3_:=zhs hb hHeld.2.2.2
               refine ⟨_,rfl,?_⟩
               have n0_:=Aside0.mk (Kd.V_below (zV HO_0.out) hb)
               have n1_:=Aside0.mk (Kd.V_below (zV HO_1.out) hb)
               have n2_:=Aside0.mk (Kd.N_below (zN HO_9.out) hb)
               have n3_:=Aside0.mk (Kd.V_below (zV HL281_0.out) hb)
               have n4_:=Aside0.mk (Kd.V_below (zV HL282_0.out) hb)
               have n5_:=Aside0.mk (Kd.V_below (zV HL302_0.out) hb)
               have n6_:=Aside0.mk (Kd.V_below (zV HL303_0.out) hb)
               have n7_:=Aside0.mk (Kd.V_lower (Kd.V_mono (ok':=fun k_=>((P0_ k_∨P1_ k_)∨w.heap.size≤k_)∧some k_≠(u9:Value).ownBlock∧k_≠gb309) ho0 (fun k_ hk_=>⟨Or.elim hk_ (fun hs_=>hs_.1.1) (fun hn_=>(.inr (Nat.le_trans (below_size (by repeat (first|(with_reducible first|exact HB.out|apply below_alloc|apply pw_below_drewN|apply below_drew1|refine below_set ?_ GE309.out)|exact HB.out))) hn_))),Or.elim hk_ (fun hs_=>hs_.1.2) (fun hn_=>(Kd.fresh' (Kd.N_lt (zN HO_9.out)) k_ hn_)),Or.elim hk_ (fun hs_=>hs_.2) (fun hn_=>(Kd.freshB (g:=gb309) (o:=.cells #[.slice none 0 0,.int .i64 0] 53 (0,0)) (by (with_reducible repeat (first|refine blk_drewN ?_ _|refine blk_drew ?_|refine blk_alloc ?_ _));exact BK309.out) k_ hn_))⟩)) (below_size (by repeat (first|(with_reducible first|exact HB.out|apply below_alloc|apply pw_below_drewN|apply below_drew1|refine below_set ?_ GE309.out)|exact HB.out))))
               have n8_:=Aside0.mk (Kd.C_below (zC HR281_0.out) hb)
               have n9_:=Aside0.mk (Kd.C_below (zC HR282_0.out) hb)
               have n10_:=Aside0.mk (Kd.C_below (zC HR302_0.out) hb)
               have n11_:=Aside0.mk (Kd.C_below (zC HR303_0.out) hb)
               have n12_:=Aside0.mk (blk_below (g:=gb309) (o:=.cells #[.slice none 0 0,.int .i64 0] 53 (0,0)) (by (with_reducible repeat (first|refine blk_drewN ?_ _|refine blk_drew ?_|refine blk_alloc ?_ _));exact BK309.out) hb)
               have n13_:=Aside0.mk (below_step (by repeat (first|(with_reducible first|exact HB.out|apply below_alloc|apply pw_below_drewN|apply below_drew1|refine below_set ?_ GE309.out)|exact HB.out)) hb)
               clear HO_0
               clear HO_1
               clear HO_9
               clear HL281_0
               clear HL282_0
               clear HL302_0
               clear HL303_0
               clear HR281_0
               clear HR282_0
               clear HR302_0
               clear HR303_0
               clear BK309
               clear HB
               have HO_0:=n0_
               have HO_1:=n1_
               have HO_9:=n2_
               have HL281_0:=n3_
               have HL282_0:=n4_
               have HL302_0:=n5_
               have HL303_0:=n6_
               have HO306:=n7_
               have HR281_0:=n8_
               have HR282_0:=n9_
               have HR302_0:=n10_
               have HR303_0:=n11_
               have BK309:=n12_
               have HB:=n13_
               clear n0_ n1_ n2_ n3_ n4_ n5_ n6_ n7_ n8_ n9_ n10_ n11_ n12_ n13_
               (try clear hb)
               (try clear hb2)
               (try clear hk)
               (try clear hi)
               (try clear ho0)
               refine hK.out _ _ ⟨HS0_,HS1_,HS2_,HS3_⟩ (fun hHeld=>?_)
               clear hK K
               refine norm_ (a':=?_) ?_ ?_
               rotate_left
               ·show Act.put _ (some 37) _=_
                simp only [Act.put,zp1,zp2,zp3,i64_w,i32_w]
                rfl
               refine pure_ (i:=8) (N:=some 29) (v:=?_) (a':=?_) #[Y,Y,Y,Y,Y,Y,Y,Y,Y,X,X,Y,X,X] rfl rfl zan (fun _ _ _ h=>h) (Or.inl ⟨by rfl,?_⟩) ?_ ?_
               rotate_left
               ·intro w'
                go_simp
                with_reducible rfl
               rotate_left
               ·simp only [Act.put,zp1,zp2,zp3,i64_w,i32_w]
                rfl
               refine pure_ (i:=9) (N:=some 38) (v:=?_) (a':=?_) #[Y,Y,Y,Y,Y,Y,Y,Y,Y,Y,X,Y,X,X] rfl rfl zan (fun _ _ _ h=>h) (Or.inl ⟨by rfl,?_⟩) ?_ ?_
               rotate_left
               ·intro w'
                go_simp
                with_reducible rfl
               rotate_left
               ·simp only [Act.put,zp1,zp2,zp3,i64_w,i32_w]
                rfl
               refine pure_ (i:=10) (N:=some 39) (v:=?_) (a':=?_) #[Y,Y,Y,Y,Y,Y,Y,Y,Y,Y,Y,Y,X,X] rfl rfl zan (fun _ _ _ h=>h) (Or.inl ⟨by rfl,?_⟩) ?_ ?_
               rotate_left
               ·intro w'
                go_simp
                with_reducible rfl
               rotate_left
               ·simp only [Act.put,zp1,zp2,zp3,i64_w,i32_w]
                rfl
               exact norm_ (by simp only [putAll,Act.put,zp1,zp2,zp3]) (hCont (v305,gb309) _ ⟨hHeld,(by (with_reducible repeat (first|apply Kd.V_alloc|apply Kd.V_drewN|apply Kd.V_drew));exact Kd.V_mono HL281_0.out (fun _ hk=>⟨hk.1.1,⟨hk.1.2,hk.2⟩⟩)),(by (with_reducible repeat (first|apply Kd.V_alloc|apply Kd.V_drewN|apply Kd.V_drew));exact Kd.V_mono HL282_0.out (fun _ hk=>⟨hk.1.1,⟨hk.1.2,hk.2⟩⟩)),(by (with_reducible repeat (first|apply Kd.V_alloc|apply Kd.V_drewN|apply Kd.V_drew));exact Kd.V_mono HL302_0.out (fun _ hk=>⟨hk.1.1,⟨hk.1.2,hk.2⟩⟩)),(by (with_reducible repeat (first|apply Kd.V_alloc|apply Kd.V_drewN|apply Kd.V_drew));exact Kd.V_mono HL303_0.out (fun _ hk=>⟨hk.1.1,⟨hk.1.2,hk.2⟩⟩)),(zV HO306.out),(by (with_reducible repeat (first|apply Kd.V_alloc|apply Kd.V_drewN|apply Kd.V_drew));exact Kd.V_mono HO_0.out (fun _ hk=>⟨hk.1.1,⟨hk.1.2,hk.2⟩⟩)),(by (with_reducible repeat (first|apply Kd.V_alloc|apply Kd.V_drewN|apply Kd.V_drew));exact Kd.V_mono HO_1.out (fun _ hk=>⟨hk.1.1,⟨hk.1.2,hk.2⟩⟩)),(zN HO_9.out),(by (with_reducible repeat (first|refine blk_drewN ?_ _|refine blk_drew ?_|refine blk_alloc ?_ _));exact BK309.out),GW309.out,GE309.out,(by repeat (first|(with_reducible first|exact HB.out|apply below_alloc|apply pw_below_drewN|apply below_drew1|refine below_set ?_ GE309.out)|exact HB.out))⟩)
             rintro ⟨v305,gb309⟩ w42 ⟨hS_,h0_,h1_,h2_,h3_,h4_,h5_,h6_,h7_,h8_,h9_,h10_,h11_⟩
             have n0_:Aside0 (Kd.V (Kd.int .i64) 3 w42 w.heap.size (fun k_=>((P0_ k_∨P1_ k_)∨w.heap.size≤k_)∧some k_≠(u9:Value).ownBlock∧k_≠gb309) (.slice A281_0 ((rd_T53 x0_1 0).f0).length c281_0) ((rd_T53 x0_1 0).f0)):=⟨h0_⟩
             have n1_:Aside0 (Kd.V (Kd.int .i64) 3 w42 w.heap.size (fun k_=>((P0_ k_∨P1_ k_)∨w.heap.size≤k_)∧some k_≠(u9:Value).ownBlock∧k_≠gb309) (.slice A282_0 ((rd_T53 x1_1 0).f0).length c282_0) ((rd_T53 x1_1 0).f0)):=⟨h1_⟩
             have n2_:Aside0 (Kd.V (Kd.int .i64) 3 w42 w.heap.size (fun k_=>((P0_ k_∨P1_ k_)∨w.heap.size≤k_)∧some k_≠(u9:Value).ownBlock∧k_≠gb309) (.slice A302_0 ((rd_T53 x0_1 0).f0).length c302_0) ((rd_T53 x0_1 0).f0)):=⟨h2_⟩
             have n3_:Aside0 (Kd.V (Kd.int .i64) 3 w42 w.heap.size (fun k_=>((P0_ k_∨P1_ k_)∨w.heap.size≤k_)∧some k_≠(u9:Value).ownBlock∧k_≠gb309) (.slice A303_0 ((rd_T53 x1_1 0).f0).length c303_0) ((rd_T53 x1_1 0).f0)):=⟨h3_⟩
             have n4_:Aside0 (Kd.V (Kd.int .i64) 3 w42 w.heap.size (fun k_=>((P0_ k_∨P1_ k_)∨w.heap.size≤k_)∧some k_≠(u9:Value).ownBlock∧k_≠gb309) v305 t304):=⟨h4_⟩
             have n5_:Aside0 (Kd.V k53 53 w42 w.heap.size (fun k_=>((P0_ k_∨P1_ k_)∨w.heap.size≤k_)∧some k_≠(u9:Value).ownBlock∧k_≠gb309) (.slice (some ad281) x0_1.length co35) x0_1):=⟨h5_⟩
             have n6_:Aside0 (Kd.V k53 53 w42 w.heap.size (fun k_=>((P0_ k_∨P1_ k_)∨w.heap.size≤k_)∧some k_≠(u9:Value).ownBlock∧k_≠gb309) (.slice (some ad282) x1_1.length co36) x1_1):=⟨h6_⟩
             have n7_:Aside0 (Kd.N k53 53 w42 w.heap.size (fun k_=>((P0_ k_∨P1_ k_)∨w.heap.size≤k_)∧k_≠gb309) u9 x9_1):=⟨h7_⟩
             have n8_:Aside0 (w42.heap[gb309]?=some (.cells #[.slice none 0 0,.int .i64 0] 53 (0,0))):=⟨h8_⟩
             have n9_:Aside0 (w.heap.size≤gb309):=⟨h9_⟩
             have n10_:Aside0 (w.heap.size≤gb309):=⟨h10_⟩
             have n11_:Aside0 (Below w.heap.size w w42):=⟨h11_⟩
             clear HO_0
             clear HO_1
             clear HO_9
             clear HL281_0
             clear HL282_0
             clear HR281_0
             clear HR282_0
             clear HB
             clear h0_ h1_ h2_ h3_ h4_ h5_ h6_ h7_ h8_ h9_ h10_ h11_
             have HL281_0:=n0_
             have HL282_0:=n1_
             have HL302_0:=n2_
             have HL303_0:=n3_
             have HO306:=n4_
             have HO_0:=n5_
             have HO_1:=n6_
             have HO_9:=n7_
             have BK309:=n8_
             have GW309:=n9_
             have GE309:=n10_
             have HB:=n11_
             clear n0_ n1_ n2_ n3_ n4_ n5_ n6_ n7_ n8_ n9_ n10_ n11_
             have hHeld:w42.cell? ad281=some (.slice A302_0 ((rd_T53 x0_1 0).f0).length c302_0)∧w42.cell? ⟨ad281.block,ad281.off + 1,none⟩=some (.int .i64 ((rd_T53 x0_1 0).f1))∧w42.cell? ad282=some (.slice A303_0 ((rd_T53 x1_1 0).f0).length c303_0)∧w42.cell? ⟨ad282.block,ad282.off + 1,none⟩=some (.int .i64 ((rd_T53 x1_1 0).f1)):=hS_
             obtain ⟨Ao43,co43,eo43⟩:=Kd.V_slice HO306.out
             (first|subst eo43|(injection eo43 with f1_ f2_ f3_;have f4_:=f1_.symm;have f5_:=f3_.symm;clear f1_ f2_ f3_;subst f4_;subst f5_))
             refine norm_ (a':=?_) ?_ ?_
             rotate_left
             ·simp only [putAll,Act.put,zp1,zp2,zp3]
              rfl
             refine one_ (i:=12) (N:=none) #[Y,Y,Y,Y,Y,Y,Y,Y,Y,Y,Y,Y,Y,X] rfl rfl (one_of HT_.out (by kernel_rfl)) (by decide) (fun K hK=>?_)
             have hs44:w42.cell? ⟨gb309,0,none⟩=some (.slice none 0 0):=(blk_cell BK309.out 0).trans rfl
             have hfs44:=blk_frozen BK309.out 0
             have hs45:w42.cell? ⟨gb309,1,none⟩=some (.int .i64 0):=(blk_cell BK309.out 1).trans rfl
             have hfs45:=blk_frozen BK309.out 1
             refine skip_ (w1:=?_) (by rfl) rfl ?_ ?_
             rotate_left
             ·go_simp
              rfl
             refine hK.out _ _ ⟨((cell_far (p:=⟨gb309,_,none⟩) (by first|exact Kd.own_blk (Kd.V_away HO_0.out (fun _ hk=>hk.2.2))|(rw [add_block];exact Kd.own_blk (Kd.V_away HO_0.out (fun _ hk=>hk.2.2)))|(show (Addr.add _ _).block≠_;rw [add_block];exact Kd.own_blk (Kd.V_away HO_0.out (fun _ hk=>hk.2.2)))|(dsimp only;exact Kd.own_blk (Kd.V_away HO_0.out (fun _ hk=>hk.2.2)))) _).trans (((cell_far (p:=⟨gb309,_,none⟩) (by first|exact Kd.own_blk (Kd.V_away HO_0.out (fun _ hk=>hk.2.2))|(rw [add_block];exact Kd.own_blk (Kd.V_away HO_0.out (fun _ hk=>hk.2.2)))|(show (Addr.add _ _).block≠_;rw [add_block];exact Kd.own_blk (Kd.V_away HO_0.out (fun _ hk=>hk.2.2)))|(dsimp only;exact Kd.own_blk (Kd.V_away HO_0.out (fun _ hk=>hk.2.2)))) _).trans (hHeld.1)))),((cell_far (p:=⟨gb309,_,none⟩) (by first|exact Kd.own_blk (Kd.V_away HO_0.out (fun _ hk=>hk.2.2))|(rw [add_block];exact Kd.own_blk (Kd.V_away HO_0.out (fun _ hk=>hk.2.2)))|(show (Addr.add _ _).block≠_;rw [add_block];exact Kd.own_blk (Kd.V_away HO_0.out (fun _ hk=>hk.2.2)))|(dsimp only;exact Kd.own_blk (Kd.V_away HO_0.out (fun _ hk=>hk.2.2)))) _).trans (((cell_far (p:=⟨gb309,_,none⟩) (by first|exact Kd.own_blk (Kd.V_away HO_0.out (fun _ hk=>hk.2.2))|(rw [add_block];exact Kd.own_blk (Kd.V_away HO_0.out (fun _ hk=>hk.2.2)))|(show (Addr.add _ _).block≠_;rw [add_block];exact Kd.own_blk (Kd.V_away HO_0.out (fun _ hk=>hk.2.2)))|(dsimp only;exact Kd.own_blk (Kd.V_away HO_0.out (fun _ hk=>hk.2.2)))) _).trans (hHeld.2.1)))),((cell_far (p:=⟨gb309,_,none⟩) (by first|exact Kd.own_blk (Kd.V_away HO_1.out (fun _ hk=>hk.2.2))|(rw [add_block];exact Kd.own_blk (Kd.V_away HO_1.out (fun _ hk=>hk.2.2)))|(show (Addr.add _ _).block≠_;rw [add_block];exact Kd.own_blk (Kd.V_away HO_1.out (fun _ hk=>hk.2.2)))|(dsimp only;exact Kd.own_blk (Kd.V_away HO_1.out (fun _ hk=>hk.2.2)))) _).trans (((cell_far (p:=⟨gb309,_,none⟩) (by first|exact Kd.own_blk (Kd.V_away HO_1.out (fun _ hk=>hk.2.2))|(rw [add_block];exact Kd.own_blk (Kd.V_away HO_1.out (fun _ hk=>hk.2.2)))|(show (Addr.add _ _).block≠_;rw [add_block];exact Kd.own_blk (Kd.V_away HO_1.out (fun _ hk=>hk.2.2)))|(dsimp only;exact Kd.own_blk (Kd.V_away HO_1.out (fun _ hk=>hk.2.2)))) _).trans (hHeld.2.2.1)))),((cell_far (p:=⟨gb309,_,none⟩) (by first|exact Kd.own_blk (Kd.V_away HO_1.out (fun _ hk=>hk.2.2))|(rw [add_block];exact Kd.own_blk (Kd.V_away HO_1.out (fun _ hk=>hk.2.2)))|(show (Addr.add _ _).block≠_;rw [add_block];exact Kd.own_blk (Kd.V_away HO_1.out (fun _ hk=>hk.2.2)))|(dsimp only;exact Kd.own_blk (Kd.V_away HO_1.out (fun _ hk=>hk.2.2)))) _).trans (((cell_far (p:=⟨gb309,_,none⟩) (by first|exact Kd.own_blk (Kd.V_away HO_1.out (fun _ hk=>hk.2.2))|(rw [add_block];exact Kd.own_blk (Kd.V_away HO_1.out (fun _ hk=>hk.2.2)))|(show (Addr.add _ _).block≠_;rw [add_block];exact Kd.own_blk (Kd.V_away HO_1.out (fun _ hk=>hk.2.2)))|(dsimp only;exact Kd.own_blk (Kd.V_away HO_1.out (fun _ hk=>hk.2.2)))) _).trans (hHeld.2.2.2))))⟩ (fun hHeld=>?_)
             clear hK K
             refine pure_ (i:=13) (N:=some 12) (v:=?_) (a':=?_) #[Y,Y,Y,Y,Y,Y,Y,Y,Y,Y,Y,Y,Y,Y] rfl rfl zan (fun _ _ _ h=>h) (Or.inl ⟨by rfl,?_⟩) ?_ ?_
             rotate_left
             ·intro w'
              go_simp
              with_reducible rfl
             rotate_left
             ·simp only [Act.put,zp1,zp2,zp3,i64_w,i32_w]
              rfl
             refine done_ (done_of HT_.out (by kernel_rfl)) ?_
             have n0_:Aside0 (Kd.V k53 53 ((w42.setCell ⟨gb309,0,none⟩ (.slice Ao43 t304.length co43)).setCell ⟨gb309,1,none⟩ (.int .i64 t307)) w.heap.size (fun k_=>((P0_ k_∨P1_ k_)∨w.heap.size≤k_)∧some k_≠(u9:Value).ownBlock∧k_≠gb309) (.slice (some ad281) x0_1.length co35) x0_1):=⟨by (with_reducible repeat (first|apply Kd.V_alloc|apply Kd.V_drewN|apply Kd.V_drew));exact Kd.V_mono (Kd.V_far (p:=⟨gb309,1,none⟩) (Kd.V_far (p:=⟨gb309,0,none⟩) (Kd.V_mono HO_0.out (fun k_ hk=>(⟨hk,hk.2.2⟩:_∧k_≠gb309))) (fun _ hk=>hk.2) (.slice Ao43 t304.length co43)) (fun _ hk=>hk.2) (.int .i64 t307)) (fun _ hk=>⟨hk.1.1,⟨hk.1.2.1,hk.1.2.2⟩⟩)⟩
             have n1_:Aside0 (Kd.V k53 53 ((w42.setCell ⟨gb309,0,none⟩ (.slice Ao43 t304.length co43)).setCell ⟨gb309,1,none⟩ (.int .i64 t307)) w.heap.size (fun k_=>((P0_ k_∨P1_ k_)∨w.heap.size≤k_)∧some k_≠(u9:Value).ownBlock∧k_≠gb309) (.slice (some ad282) x1_1.length co36) x1_1):=⟨by (with_reducible repeat (first|apply Kd.V_alloc|apply Kd.V_drewN|apply Kd.V_drew));exact Kd.V_mono (Kd.V_far (p:=⟨gb309,1,none⟩) (Kd.V_far (p:=⟨gb309,0,none⟩) (Kd.V_mono HO_1.out (fun k_ hk=>(⟨hk,hk.2.2⟩:_∧k_≠gb309))) (fun _ hk=>hk.2) (.slice Ao43 t304.length co43)) (fun _ hk=>hk.2) (.int .i64 t307)) (fun _ hk=>⟨hk.1.1,⟨hk.1.2.1,hk.1.2.2⟩⟩)⟩
             have n2_:Aside0 (Kd.N k53 53 ((w42.setCell ⟨gb309,0,none⟩ (.slice Ao43 t304.length co43)).setCell ⟨gb309,1,none⟩ (.int .i64 t307)) w.heap.size (fun k_=>((P0_ k_∨P1_ k_)∨w.heap.size≤k_)∧k_≠gb309) u9 x9_1):=⟨by (with_reducible repeat (first|apply Kd.N_alloc|apply Kd.N_drewN|apply Kd.N_drew));exact Kd.N_mono (Kd.N_far (p:=⟨gb309,1,none⟩) (Kd.N_far (p:=⟨gb309,0,none⟩) (Kd.N_mono HO_9.out (fun k_ hk=>(⟨hk,hk.2⟩:_∧k_≠gb309))) (fun _ hk=>hk.2) (.slice Ao43 t304.length co43)) (fun _ hk=>hk.2) (.int .i64 t307)) (fun _ hk=>⟨hk.1.1,hk.1.2⟩)⟩
             have n3_:Aside0 (Kd.V (Kd.int .i64) 3 ((w42.setCell ⟨gb309,0,none⟩ (.slice Ao43 t304.length co43)).setCell ⟨gb309,1,none⟩ (.int .i64 t307)) w.heap.size (fun k_=>((P0_ k_∨P1_ k_)∨w.heap.size≤k_)∧some k_≠(u9:Value).ownBlock∧k_≠gb309) (.slice A281_0 ((rd_T53 x0_1 0).f0).length c281_0) ((rd_T53 x0_1 0).f0)):=⟨by (with_reducible repeat (first|apply Kd.V_alloc|apply Kd.V_drewN|apply Kd.V_drew));exact Kd.V_mono (Kd.V_far (p:=⟨gb309,1,none⟩) (Kd.V_far (p:=⟨gb309,0,none⟩) (Kd.V_mono HL281_0.out (fun k_ hk=>(⟨hk,hk.2.2⟩:_∧k_≠gb309))) (fun _ hk=>hk.2) (.slice Ao43 t304.length co43)) (fun _ hk=>hk.2) (.int .i64 t307)) (fun _ hk=>⟨hk.1.1,⟨hk.1.2.1,hk.1.2.2⟩⟩)⟩
             have n4_:Aside0 (Kd.V (Kd.int .i64) 3 ((w42.setCell ⟨gb309,0,none⟩ (.slice Ao43 t304.length co43)).setCell ⟨gb309,1,none⟩ (.int .i64 t307)) w.heap.size (fun k_=>((P0_ k_∨P1_ k_)∨w.heap.size≤k_)∧some k_≠(u9:Value).ownBlock∧k_≠gb309) (.slice A282_0 ((rd_T53 x1_1 0).f0).length c282_0) ((rd_T53 x1_1 0).f0)):=⟨by (with_reducible repeat (first|apply Kd.V_alloc|apply Kd.V_drewN|apply Kd.V_drew));exact Kd.V_mono (Kd.V_far (p:=⟨gb309,1,none⟩) (Kd.V_far (p:=⟨gb309,0,none⟩) (Kd.V_mono HL282_0.out (fun k_ hk=>(⟨hk,hk.2.2⟩:_∧k_≠gb309))) (fun _ hk=>hk.2) (.slice Ao43 t304.length co43)) (fun _ hk=>hk.2) (.int .i64 t307)) (fun _ hk=>⟨hk.1.1,⟨hk.1.2.1,hk.1.2.2⟩⟩)⟩
             have n5_:Aside0 (Kd.V (Kd.int .i64) 3 ((w42.setCell ⟨gb309,0,none⟩ (.slice Ao43 t304.length co43)).setCell ⟨gb309,1,none⟩ (.int .i64 t307)) w.heap.size (fun k_=>((P0_ k_∨P1_ k_)∨w.heap.size≤k_)∧some k_≠(u9:Value).ownBlock∧k_≠gb309) (.slice A302_0 ((rd_T53 x0_1 0).f0).length c302_0) ((rd_T53 x0_1 0).f0)):=⟨by (with_reducible repeat (first|apply Kd.V_alloc|apply Kd.V_drewN|apply Kd.V_drew));exact Kd.V_mono (Kd.V_far (p:=⟨gb309,1,none⟩) (Kd.V_far (p:=⟨gb309,0,none⟩) (Kd.V_mono HL302_0.out (fun k_ hk=>(⟨hk,hk.2.2⟩:_∧k_≠gb309))) (fun _ hk=>hk.2) (.slice Ao43 t304.length co43)) (fun _ hk=>hk.2) (.int .i64 t307)) (fun _ hk=>⟨hk.1.1,⟨hk.1.2.1,hk.1.2.2⟩⟩)⟩
             have n6_:Aside0 (Kd.V (Kd.int .i64) 3 ((w42.setCell ⟨gb309,0,none⟩ (.slice Ao43 t304.length co43)).setCell ⟨gb309,1,none⟩ (.int .i64 t307)) w.heap.size (fun k_=>((P0_ k_∨P1_ k_)∨w.heap.size≤k_)∧some k_≠(u9:Value).ownBlock∧k_≠gb309) (.slice A303_0 ((rd_T53 x1_1 0).f0).length c303_0) ((rd_T53 x1_1 0).f0)):=⟨by (with_reducible repeat (first|apply Kd.V_alloc|apply Kd.V_drewN|apply Kd.V_drew));exact Kd.V_mono (Kd.V_far (p:=⟨gb309,1,none⟩) (Kd.V_far (p:=⟨gb309,0,none⟩) (Kd.V_mono HL303_0.out (fun k_ hk=>(⟨hk,hk.2.2⟩:_∧k_≠gb309))) (fun _ hk=>hk.2) (.slice Ao43 t304.length co43)) (fun _ hk=>hk.2) (.int .i64 t307)) (fun _ hk=>⟨hk.1.1,⟨hk.1.2.1,hk.1.2.2⟩⟩)⟩
             have n7_:Aside0 (Kd.V (Kd.int .i64) 3 ((w42.setCell ⟨gb309,0,none⟩ (.slice Ao43 t304.length co43)).setCell ⟨gb309,1,none⟩ (.int .i64 t307)) w.heap.size (fun k_=>((P0_ k_∨P1_ k_)∨w.heap.size≤k_)∧some k_≠(u9:Value).ownBlock∧k_≠gb309) (.slice Ao43 t304.length co43) t304):=⟨by (with_reducible repeat (first|apply Kd.V_alloc|apply Kd.V_drewN|apply Kd.V_drew));exact Kd.V_mono (Kd.V_far (p:=⟨gb309,1,none⟩) (Kd.V_far (p:=⟨gb309,0,none⟩) (Kd.V_mono HO306.out (fun k_ hk=>(⟨hk,hk.2.2⟩:_∧k_≠gb309))) (fun _ hk=>hk.2) (.slice Ao43 t304.length co43)) (fun _ hk=>hk.2) (.int .i64 t307)) (fun _ hk=>⟨hk.1.1,⟨hk.1.2.1,hk.1.2.2⟩⟩)⟩
             have n8_:Aside0 (((w42.setCell ⟨gb309,0,none⟩ (.slice Ao43 t304.length co43)).setCell ⟨gb309,1,none⟩ (.int .i64 t307)).heap[gb309]?=some (.cells #[.slice Ao43 t304.length co43,.int .i64 t307] 53 (0,0))):=⟨by (with_reducible repeat (first|refine blk_drewN ?_ _|refine blk_drew ?_|refine blk_alloc ?_ _));refine blk_put (cs:=#[.slice Ao43 t304.length co43,.int .i64 0]) ?_ 1 _ rfl;(with_reducible repeat (first|refine blk_drewN ?_ _|refine blk_drew ?_|refine blk_alloc ?_ _));refine blk_put (cs:=#[.slice none 0 0,.int .i64 0]) ?_ 0 _ rfl;(with_reducible repeat (first|refine blk_drewN ?_ _|refine blk_drew ?_|refine blk_alloc ?_ _));exact BK309.out⟩
             have n9_:Aside0 (Below w.heap.size w ((w42.setCell ⟨gb309,0,none⟩ (.slice Ao43 t304.length co43)).setCell ⟨gb309,1,none⟩ (.int .i64 t307))):=⟨by repeat (first|(with_reducible first|exact HB.out|apply below_alloc|apply pw_below_drewN|apply below_drew1|refine below_set ?_ GE309.out)|exact HB.out)⟩
             (try clear HO_0)
             (try clear HO_1)
             (try clear HO_9)
             (try clear HL281_0)
             (try clear HL282_0)
             (try clear HL302_0)
             (try clear HL303_0)
             (try clear HO306)
             (try clear BK309)
             (try clear HB)
             generalize ((w42.setCell ⟨gb309,0,none⟩ (.slice Ao43 t304.length co43)).setCell ⟨gb309,1,none⟩ (.int .i64 t307))=w46 at n0_ n1_ n2_ n3_ n4_ n5_ n6_ n7_ n8_ n9_ ⊢
             have HO_0:=n0_
             have HO_1:=n1_
             have HO_9:=n2_
             have HL281_0:=n3_
             have HL282_0:=n4_
             have HL302_0:=n5_
             have HL303_0:=n6_
             have HO306:=n7_
             have BK309:=n8_
             have HB:=n9_
             clear n0_ n1_ n2_ n3_ n4_ n5_ n6_ n7_ n8_ n9_
             have hcz47_0:w46.cell? ⟨gb309,0,none⟩=some (.slice Ao43 t304.length co43):=(blk_cell BK309.out 0).trans rfl
             have hcz47_1:w46.cell? ⟨gb309,1,none⟩=some (.int .i64 t307):=(blk_cell BK309.out 1).trans rfl
             have hfz47_0:=blk_frozen BK309.out 0
             have hfz47_1:=blk_frozen BK309.out 1
             try go_wp2_with (first|((with_reducible refine gate_builtin (b:=.append) (xs:=#[.tmp 41,.tmp 43]) rfl ?_);(try (refine gate_guard (by rfl) ?_;dsimp only));at_builtin;refine Kd.N_append k53 (w0:=w) w.heap.size rfl (.tmp 41) (.tmp 43) 22 53 (.agg #[(.slice none 0 0),(.int .i64 0)]) 32 rfl Tryd.underlying22 info53 rfl (by decide) (by omega) u9 x9_1 (⟨t304,t307⟩:S53) [.slice Ao43 t304.length co43,.int .i64 t307] (fun k_=>((P0_ k_∨P1_ k_)∨w.heap.size≤k_)∧k_≠gb309) (fun k_=>((fun k_=>((P0_ k_∨P1_ k_)∨w.heap.size≤k_)∧k_≠gb309)) k_∧some k_≠(u9:Value).ownBlock) rfl rfl ?aP (fun _ hk=>hk) ?aF ?aO ?aB ?aS ?aL ?_;(case aP=>exact (k53_mkF _ _ (⟨t304,t307⟩:S53) (Kd.V_reads' (Kd.V_mono (ok':=(fun k_=>((fun k_=>((P0_ k_∨P1_ k_)∨w.heap.size≤k_)∧k_≠gb309)) k_∧some k_≠(u9:Value).ownBlock)) (HO306.out) (fun k_ hk=>⟨⟨hk.1,hk.2.2⟩,hk.2.1⟩))).2.1 (Kd.V_F (Kd.V_mono (ok':=(fun k_=>((fun k_=>((P0_ k_∨P1_ k_)∨w.heap.size≤k_)∧k_≠gb309)) k_∧some k_≠(u9:Value).ownBlock)) (HO306.out) (fun k_ hk=>⟨⟨hk.1,hk.2.2⟩,hk.2.1⟩)))));(case aB=>exact (by repeat (first|(with_reducible first|exact HB.out|apply below_alloc|apply pw_below_drewN|apply below_drew1|refine below_set ?_ GE309.out)|exact HB.out)));(case aF=>exact (fun k_ hk=>⟨(.inr (Nat.le_trans (below_size (by repeat (first|(with_reducible first|exact HB.out|apply below_alloc|apply pw_below_drewN|apply below_drew1|refine below_set ?_ GE309.out)|exact HB.out))) hk)),Kd.freshB (g:=gb309) (o:=.cells #[.slice Ao43 t304.length co43,.int .i64 t307] 53 (0,0)) (by (with_reducible repeat (first|refine blk_drewN ?_ _|refine blk_drew ?_|refine blk_alloc ?_ _));exact BK309.out) k_ hk⟩));(case aO=>exact (zN HO_9.out));(case aS=>exact (below_size (by repeat (first|(with_reducible first|exact HB.out|apply below_alloc|apply pw_below_drewN|apply below_drew1|refine below_set ?_ GE309.out)|exact HB.out))));(case aL=>have:=LMc32.out;omega);intro v311 w48 ho hb hg hat;rw [← Ny310.out] at ho;have n0_:=Aside0.mk (Kd.V_afterv (ok:=(fun k_=>((P0_ k_∨P1_ k_)∨w.heap.size≤k_)∧k_≠gb309)) (by (with_reducible repeat (first|apply Kd.V_alloc|apply Kd.V_drewN|apply Kd.V_drew));exact Kd.V_mono HO_0.out (fun _ hk=>⟨⟨hk.1,hk.2.2⟩,hk.2.1⟩)) hg hat);have n1_:=Aside0.mk (Kd.V_afterv (ok:=(fun k_=>((P0_ k_∨P1_ k_)∨w.heap.size≤k_)∧k_≠gb309)) (by (with_reducible repeat (first|apply Kd.V_alloc|apply Kd.V_drewN|apply Kd.V_drew));exact Kd.V_mono HO_1.out (fun _ hk=>⟨⟨hk.1,hk.2.2⟩,hk.2.1⟩)) hg hat);have n2_:=Aside0.mk (Kd.V_afterv (ok:=(fun k_=>((P0_ k_∨P1_ k_)∨w.heap.size≤k_)∧k_≠gb309)) (by (with_reducible repeat (first|apply Kd.V_alloc|apply Kd.V_drewN|apply Kd.V_drew));exact Kd.V_mono HL281_0.out (fun _ hk=>⟨⟨hk.1,hk.2.2⟩,hk.2.1⟩)) hg hat);have n3_:=Aside0.mk (Kd.V_afterv (ok:=(fun k_=>((P0_ k_∨P1_ k_)∨w.heap.size≤k_)∧k_≠gb309)) (by (with_reducible repeat (first|apply Kd.V_alloc|apply Kd.V_drewN|apply Kd.V_drew));exact Kd.V_mono HL282_0.out (fun _ hk=>⟨⟨hk.1,hk.2.2⟩,hk.2.1⟩)) hg hat);have n4_:=Aside0.mk (Kd.V_afterv (ok:=(fun k_=>((P0_ k_∨P1_ k_)∨w.heap.size≤k_)∧k_≠gb309)) (by (with_reducible repeat (first|apply Kd.V_alloc|apply Kd.V_drewN|apply Kd.V_drew));exact Kd.V_mono HL302_0.out (fun _ hk=>⟨⟨hk.1,hk.2.2⟩,hk.2.1⟩)) hg hat);have n5_:=Aside0.mk (Kd.V_afterv (ok:=(fun k_=>((P0_ k_∨P1_ k_)∨w.heap.size≤k_)∧k_≠gb309)) (by (with_reducible repeat (first|apply Kd.V_alloc|apply Kd.V_drewN|apply Kd.V_drew));exact Kd.V_mono HL303_0.out (fun _ hk=>⟨⟨hk.1,hk.2.2⟩,hk.2.1⟩)) hg hat);have n6_:=Aside0.mk (Kd.V_afterv (ok:=(fun k_=>((P0_ k_∨P1_ k_)∨w.heap.size≤k_)∧k_≠gb309)) (by (with_reducible repeat (first|apply Kd.V_alloc|apply Kd.V_drewN|apply Kd.V_drew));exact Kd.V_mono HO306.out (fun _ hk=>⟨⟨hk.1,hk.2.2⟩,hk.2.1⟩)) hg hat);have n7_:=Aside0.mk (blk_grown (g:=gb309) (o:=.cells #[.slice Ao43 t304.length co43,.int .i64 t307] 53 (0,0)) (by (with_reducible repeat (first|refine blk_drewN ?_ _|refine blk_drew ?_|refine blk_alloc ?_ _));exact BK309.out) hg (Kd.N_away HO_9.out (fun _ hk=>hk.2)));have n8_:=Aside0.mk (hb);have n9_:=Aside0.mk (ho);clear HO_0;clear HO_1;clear HL281_0;clear HL282_0;clear HL302_0;clear HL303_0;clear HO306;clear BK309;clear HB;clear HO_9;have HO_0:=n0_;have HO_1:=n1_;have HL281_0:=n2_;have HL282_0:=n3_;have HL302_0:=n4_;have HL303_0:=n5_;have HO306:=n6_;have BK309:=n7_;have HB:=n8_;have HO312:=n9_;clear n0_ n1_ n2_ n3_ n4_ n5_ n6_ n7_ n8_ n9_;clear ho hb hg hat))
             have n0_:=Aside0.mk (Kd.V_drew HO_0.out)
             have n1_:=Aside0.mk (Kd.V_drew HO_1.out)
             have n2_:=Aside0.mk (Kd.V_drew HL281_0.out)
             have n3_:=Aside0.mk (Kd.V_drew HL282_0.out)
             have n4_:=Aside0.mk (Kd.V_drew HL302_0.out)
             have n5_:=Aside0.mk (Kd.V_drew HL303_0.out)
             have n6_:=Aside0.mk (Kd.V_drew HO306.out)
             have n7_:=Aside0.mk (Kd.N_drew HO312.out)
             have n8_:=Aside0.mk (blk_drew BK309.out)
             have n9_:=Aside0.mk (below_drew1 HB.out)
             clear HO_0
             clear HO_1
             clear HL281_0
             clear HL282_0
             clear HL302_0
             clear HL303_0
             clear HO306
             clear HO312
             clear BK309
             clear HB
             have HO_0:=n0_
             have HO_1:=n1_
             have HL281_0:=n2_
             have HL282_0:=n3_
             have HL302_0:=n4_
             have HL303_0:=n5_
             have HO306:=n6_
             have HO312:=n7_
             have BK309:=n8_
             have HB:=n9_
             clear n0_ n1_ n2_ n3_ n4_ n5_ n6_ n7_ n8_ n9_
             have q50:(1:Int)≤((x0_1.length:Int):Int):=zod
             obtain ⟨i050,hi050,_,hsz50,_⟩:=info_parts info53
             have hroom50:x0_1.length≤co35:=(Kd.V_reads' HO_0.out).2.1
             have hC50:Kd.F k53 _ _ (some ad281) x0_1.length x0_1:=(Kd.V_at (base:=w.heap.size) HO_0.out).2.2
             have hcut50:=cut_from (P:=Tryd.prog) 22 53 .i64 Tryd.underlying22 hi050 2 hsz50 (some ad281) x0_1.length co35 1 (by omega) q50
             have hr50:=Kd.F_cut (m:=(1:Int).toNat) (c:=co35) hC50 (by omega) hroom50
             obtain ⟨A50,hA50⟩ : ∃ A1,A1=(if co35=(1:Int).toNat then (some ad281) else ((some ad281):Option Addr).map (·.add ((1:Int).toNat * 2))):=⟨_,rfl⟩
             obtain ⟨c50,hc50⟩ : ∃ c1,c1=co35 - (1:Int).toNat:=⟨_,rfl⟩
             have hy50:y313.length=x0_1.length - (1:Int).toNat:=(by rw [Ny313.out,List.length_drop] <;> omega)
             rw [show (x0_1).drop (1:Int).toNat=y313 from Ny313.out.symm] at hr50
             replace hr50:Kd.F k53 _ _ A50 y313.length y313:=(by rw [hA50];exact hr50)
             rw [← hy50,← hA50,← hc50] at hcut50
             have HO317:=Aside0.mk (show Kd.V k53 53 _ w.heap.size _ (.slice A50 y313.length c50) y313 from Kd.V_mk (by rw [hy50,hc50];exact Nat.sub_le_sub_right hroom50 _) hr50)
             have HC317:=Aside0.mk (show y313.length≤c50 from by rw [hy50,hc50];exact Nat.sub_le_sub_right hroom50 _)
             clear hr50 hC50 hroom50 hi050 hsz50 hc50
             have KY50:=Aside0.mk hy50
             have KA50:=Aside0.mk hA50
             clear hy50 hA50
             replace q50:=eq_true q50
             have q51:(1:Int)≤((x1_1.length:Int):Int):=zod
             obtain ⟨i051,hi051,_,hsz51,_⟩:=info_parts info53
             have hroom51:x1_1.length≤co36:=(Kd.V_reads' HO_1.out).2.1
             have hC51:Kd.F k53 _ _ (some ad282) x1_1.length x1_1:=(Kd.V_at (base:=w.heap.size) HO_1.out).2.2
             have hcut51:=cut_from (P:=Tryd.prog) 22 53 .i64 Tryd.underlying22 hi051 2 hsz51 (some ad282) x1_1.length co36 1 (by omega) q51
             have hr51:=Kd.F_cut (m:=(1:Int).toNat) (c:=co36) hC51 (by omega) hroom51
             obtain ⟨A51,hA51⟩ : ∃ A1,A1=(if co36=(1:Int).toNat then (some ad282) else ((some ad282):Option Addr).map (·.add ((1:Int).toNat * 2))):=⟨_,rfl⟩
             obtain ⟨c51,hc51⟩ : ∃ c1,c1=co36 - (1:Int).toNat:=⟨_,rfl⟩
             have hy51:y318.length=x1_1.length - (1:Int).toNat:=(by rw [Ny318.out,List.length_drop] <;> omega)
             rw [show (x1_1).drop (1:Int).toNat=y318 from Ny318.out.symm] at hr51
             replace hr51:Kd.F k53 _ _ A51 y318.length y318:=(by rw [hA51];exact hr51)
             rw [← hy51,← hA51,← hc51] at hcut51
             have HO322:=Aside0.mk (show Kd.V k53 53 _ w.heap.size _ (.slice A51 y318.length c51) y318 from Kd.V_mk (by rw [hy51,hc51];exact Nat.sub_le_sub_right hroom51 _) hr51)
             have HC322:=Aside0.mk (show y318.length≤c51 from by rw [hy51,hc51];exact Nat.sub_le_sub_right hroom51 _)
             clear hr51 hC51 hroom51 hi051 hsz51 hc51
             have KY51:=Aside0.mk hy51
             have KA51:=Aside0.mk hA51
             clear hy51 hA51
             replace q51:=eq_true q51
             refine start_ (n:=6) (S:=fun w'=>True) (ds:=[]) #[X,X,X,X,X,X] (by kernel_rfl) rfl rfl trivial (fun hHeld=>?_)
             generalize w48.drew=w49 at HO_0 HO_1 HL281_0 HL282_0 HL302_0 HL303_0 HO306 HO312 BK309 HB HO317 HO322 hHeld ⊢
             refine pure_ (i:=0) (N:=some 45) (v:=?_) (a':=?_) #[Y,X,X,X,X,X] rfl rfl (by kernel_rfl) (fun _ _ _ h=>h) (Or.inl ⟨by rfl,?_⟩) ?_ ?_
             rotate_left
             ·intro w'
              go_simp
              with_reducible rfl
             rotate_left
             ·simp only [Act.put,zp1,zp2,zp3,i64_w,i32_w]
              rfl
             refine pure_ (i:=1) (N:=some 46) (v:=?_) (a':=?_) #[Y,Y,X,X,X,X] rfl rfl (by kernel_rfl) (fun _ _ _ h=>h) (Or.inl ⟨by rfl,?_⟩) ?_ ?_
             rotate_left
             ·intro w'
              go_simp
              with_reducible rfl
             rotate_left
             ·simp only [Act.put,zp1,zp2,zp3,i64_w,i32_w]
              rfl
             refine pure_ (i:=2) (N:=some 47) (v:=?_) (a':=?_) #[Y,Y,Y,X,X,X] rfl rfl (by kernel_rfl) (fun _ _ _ h=>h) (Or.inl ⟨by rfl,?_⟩) ?_ ?_
             rotate_left
             ·intro w'
              go_simp
              with_reducible rfl
             rotate_left
             ·simp only [Act.put,zp1,zp2,zp3,i64_w,i32_w]
              rfl
             refine pure_ (i:=3) (N:=some 48) (v:=?_) (a':=?_) #[Y,Y,Y,Y,X,X] rfl rfl (by kernel_rfl) (fun _ _ _ h=>h) (Or.inl ⟨by rfl,?_⟩) ?_ ?_
             rotate_left
             ·intro w'
              go_simp
              with_reducible rfl
             rotate_left
             ·simp only [Act.put,zp1,zp2,zp3,i64_w,i32_w]
              rfl
             refine pure_ (i:=4) (N:=some 0) (v:=?_) (a':=?_) #[Y,Y,Y,Y,Y,X] rfl rfl (by kernel_rfl) (fun _ _ _ h=>h) (Or.inl ⟨by rfl,?_⟩) ?_ ?_
             rotate_left
             ·intro w'
              go_simp
              with_reducible rfl
             rotate_left
             ·simp only [Act.put,zp1,zp2,zp3,i64_w,i32_w]
              rfl
             refine pure_ (i:=5) (N:=some 1) (v:=?_) (a':=?_) #[Y,Y,Y,Y,Y,Y] rfl rfl (by kernel_rfl) (fun _ _ _ h=>h) (Or.inl ⟨by rfl,?_⟩) ?_ ?_
             rotate_left
             ·intro w'
              go_simp
              with_reducible rfl
             rotate_left
             ·simp only [Act.put,zp1,zp2,zp3,i64_w,i32_w]
              rfl
             refine done_ (by kernel_rfl) ?_
             try go_wp2
             go_roundg k1
             case measure=>have:=HK1.out;omega
             case rel=>exact ⟨(y313),(y318),(y310),H',⟨by have:=HK1.out;omega⟩,⟨by (with_reducible repeat (first|apply Kd.V_alloc|apply Kd.V_drewN|apply Kd.V_drew));exact Kd.V_mono HO317.out (fun _ hk=>⟨hk.1.1,hk.2⟩)⟩,⟨by (with_reducible repeat (first|apply Kd.V_alloc|apply Kd.V_drewN|apply Kd.V_drew));exact Kd.V_mono HO322.out (fun _ hk=>⟨hk.1.1,hk.2⟩)⟩,⟨by (with_reducible repeat (first|apply Kd.N_alloc|apply Kd.N_drewN|apply Kd.N_drew));exact Kd.N_mono HO312.out (fun _ hk=>hk.1)⟩,⟨by repeat (first|(with_reducible first|exact HB.out|apply below_alloc|apply pw_below_drewN|apply below_drew1|refine below_set ?_ GE309.out)|exact HB.out)⟩⟩
            ·rw [if_neg c34] at H
             exact absurd H (by simp)
           ·rw [if_neg c33] at H
            exact absurd H (by simp)
          ·rw [if_neg c32] at H
           exact absurd H (by simp)
         ·replace c31:=Bool.eq_false_iff.mpr c31
          subst c31
          have H1:(if 1≤(x0_1.length:Int) then (if 1≤(x1_1.length:Int) then (impl_merged_impl_Item__impl_cmpItem_impl_together_1.l0 k1 (x0_1.drop 1) (x1_1.drop 1) x9_1) else (none)) else (none))=some r:=by rw [if_neg (show ¬ (false=true) by decide)] at H;exact H
          clear H
          have H:=H1
          clear H1
          by_cases c52:1≤(x0_1.length:Int)
          ·rw [if_pos c52] at H
           have c52b0:=eq_true c52
           have c52b1:decide (1≤(x0_1.length:Int))=true:=decide_eq_true c52
           clear c52
           obtain ⟨y323,hy323⟩ : ∃ y_:List (S53),y_=(x0_1.drop 1):=⟨_,rfl⟩
           replace H:(if 1≤(x1_1.length:Int) then (impl_merged_impl_Item__impl_cmpItem_impl_together_1.l0 k1 y323 (x1_1.drop 1) x9_1) else (none))=some r:=by first|(rw [hy323];with_reducible exact H)|(have H2_:=(Option.bind_some _ _).symm.trans H;rw [hy323];with_reducible exact H2_)|(have H2_:=(Option.bind_some _ _).symm.trans H;with_reducible exact H2_)|with_reducible exact H|(rw [hy323];exact H)|exact H
           have Ny323:=Aside0.mk hy323
           clear hy323
           by_cases c53:1≤(x1_1.length:Int)
           ·rw [if_pos c53] at H
            have c53b0:=eq_true c53
            have c53b1:decide (1≤(x1_1.length:Int))=true:=decide_eq_true c53
            clear c53
            obtain ⟨y328,hy328⟩ : ∃ y_:List (S53),y_=(x1_1.drop 1):=⟨_,rfl⟩
            replace H:(impl_merged_impl_Item__impl_cmpItem_impl_together_1.l0 k1 y323 y328 x9_1)=some r:=by first|(rw [hy328];with_reducible exact H)|(have H2_:=(Option.bind_some _ _).symm.trans H;rw [hy328];with_reducible exact H2_)|(have H2_:=(Option.bind_some _ _).symm.trans H;with_reducible exact H2_)|with_reducible exact H|(rw [hy328];exact H)|exact H
            have Ny328:=Aside0.mk hy328
            clear hy328
            have H':=Aside0.mk H
            clear H
            obtain ⟨Ao54,co54,eo54⟩:=Kd.V_slice HO_0.out
            subst eo54
            obtain ⟨Ao55,co55,eo55⟩:=Kd.V_slice HO_1.out
            subst eo55
            try go_wp2
            have n0_:=Aside0.mk (Kd.V_drew HO_0.out)
            have n1_:=Aside0.mk (Kd.V_drew HO_1.out)
            have n2_:=Aside0.mk (Kd.N_drew HO_9.out)
            have n3_:=Aside0.mk (below_drew1 HB.out)
            clear HO_0
            clear HO_1
            clear HO_9
            clear HB
            have HO_0:=n0_
            have HO_1:=n1_
            have HO_9:=n2_
            have HB:=n3_
            clear n0_ n1_ n2_ n3_
            have p281:0≤(0:Int):=(by omega)
            have q281:0 < (x0_1.length:Int):=zod
            obtain ⟨ad281,A281_0,c281_0,e281,hx281_0,hx281_1,hl281_0,hi281_0⟩:=at_T53 (Kd.V_reads' HO_0.out).2.2 0 p281 q281
            cases e281
            obtain ⟨ce281,hce281,hMe281,hcc281⟩:=Kd.V_get HO_0.out z53 0 p281 (by first|exact q281|exact zod|(have e_:=(Kd.V_reads' HO_0.out).1;omega))
            obtain ⟨ua281_0,uc281_0,rfl,ul281_0,ge281_0⟩:=k53_openF hMe281
            have hv281_0:=hcc281 0 _ rfl
            rw [Nat.add_zero] at hv281_0
            replace hv281_0:=Option.some.inj (hv281_0.symm.trans hx281_0)
            injection hv281_0 with hva_ hvn_ hvc_
            rw [hva_] at ge281_0
            rw [hvc_] at ul281_0
            have HL281_0:=Aside0.mk (show Kd.V (Kd.int .i64) 3 _ w.heap.size _ _ ((rd_T53 x0_1 0).f0) from Kd.V_mk ul281_0 ge281_0)
            clear hva_ hvn_ hvc_ ge281_0 ul281_0
            clear hcc281 hce281
            have qi281:(0 < x0_1.length)=True:=eq_true (by omega)
            (try rw [show ((0:Int)).toNat=0 from rfl] at hx281_0)
            (try rw [show 0 * 2=0 from rfl] at hx281_0)
            (try rw [Addr.add_zero'] at hx281_0)
            (try rw [show ((0:Int)).toNat=0 from rfl] at hx281_1)
            (try rw [show 0 * 2=0 from rfl] at hx281_1)
            (try rw [Addr.add_zero'] at hx281_1)
            have HR281_0:=Aside0.mk hi281_0
            have HC281_0:=Aside0.mk hl281_0
            clear hi281_0 hl281_0
            replace p281:=eq_true p281
            replace q281:=eq_true q281
            have p282:0≤(0:Int):=(by omega)
            have q282:0 < (x1_1.length:Int):=zod
            obtain ⟨ad282,A282_0,c282_0,e282,hx282_0,hx282_1,hl282_0,hi282_0⟩:=at_T53 (Kd.V_reads' HO_1.out).2.2 0 p282 q282
            cases e282
            obtain ⟨ce282,hce282,hMe282,hcc282⟩:=Kd.V_get HO_1.out z53 0 p282 (by first|exact q282|exact zod|(have e_:=(Kd.V_reads' HO_1.out).1;omega))
            obtain ⟨ua282_0,uc282_0,rfl,ul282_0,ge282_0⟩:=k53_openF hMe282
            have hv282_0:=hcc282 0 _ rfl
            rw [Nat.add_zero] at hv282_0
            replace hv282_0:=Option.some.inj (hv282_0.symm.trans hx282_0)
            injection hv282_0 with hva_ hvn_ hvc_
            rw [hva_] at ge282_0
            rw [hvc_] at ul282_0
            have HL282_0:=Aside0.mk (show Kd.V (Kd.int .i64) 3 _ w.heap.size _ _ ((rd_T53 x1_1 0).f0) from Kd.V_mk ul282_0 ge282_0)
            clear hva_ hvn_ hvc_ ge282_0 ul282_0
            clear hcc282 hce282
            have qi282:(0 < x1_1.length)=True:=eq_true (by omega)
            (try rw [show ((0:Int)).toNat=0 from rfl] at hx282_0)
            (try rw [show 0 * 2=0 from rfl] at hx282_0)
            (try rw [Addr.add_zero'] at hx282_0)
            (try rw [show ((0:Int)).toNat=0 from rfl] at hx282_1)
            (try rw [show 0 * 2=0 from rfl] at hx282_1)
            (try rw [Addr.add_zero'] at hx282_1)
            have HR282_0:=Aside0.mk hi282_0
            have HC282_0:=Aside0.mk hl282_0
            clear hi282_0 hl282_0
            replace p282:=eq_true p282
            replace q282:=eq_true q282
            refine start_ (n:=9) (S:=fun w'=>w'.cell? ad281=some (.slice A281_0 ((rd_T53 x0_1 0).f0).length c281_0)∧w'.cell? ⟨ad281.block,ad281.off + 1,none⟩=some (.int .i64 ((rd_T53 x0_1 0).f1))∧w'.cell? ad282=some (.slice A282_0 ((rd_T53 x1_1 0).f0).length c282_0)∧w'.cell? ⟨ad282.block,ad282.off + 1,none⟩=some (.int .i64 ((rd_T53 x1_1 0).f1))) (ds:=[]) #[X,X,X,X,X,X,X,X,X] (by kernel_rfl) rfl rfl ⟨hx281_0,hx281_1,hx282_0,hx282_1⟩ (fun hHeld=>?_);refine with_tabW impl_merged_impl_Item__impl_cmpItem_impl_together_1.tab3 impl_merged_impl_Item__impl_cmpItem_impl_together_1.bits3 (fun HT_ HW_=>?_)
            generalize wr.drew=w56 at HO_0 HO_1 HO_9 HB HL281_0 HL282_0 HR281_0 HR282_0 hx281_0 hx281_1 hx282_0 hx282_1 hHeld ⊢
            refine pure_ (i:=0) (N:=some 21) (v:=?_) (a':=?_) #[Y,X,X,X,X,X,X,X,X] rfl rfl zan (fun _ _ _ h=>h) (Or.inl ⟨by rfl,?_⟩) ?_ ?_
            rotate_left
            ·intro w'
             go_simp
             with_reducible rfl
            rotate_left
            ·simp only [Act.put,zp1,zp2,zp3,i64_w,i32_w]
             rfl
            refine pure_ (i:=1) (N:=some 22) (v:=?_) (a':=?_) #[Y,Y,X,X,X,X,X,X,X] rfl rfl zan (fun _ _ _ h=>h) (Or.inl ⟨by rfl,?_⟩) ?_ ?_
            rotate_left
            ·intro w'
             go_simp
             with_reducible rfl
            rotate_left
            ·simp only [Act.put,zp1,zp2,zp3,i64_w,i32_w]
             rfl
            refine pure_ (i:=2) (N:=some 23) (v:=?_) (a':=?_) #[Y,Y,Y,X,X,X,X,X,X] rfl rfl zan (fun _ _ _ h=>h) (Or.inl ⟨by rfl,?_⟩) ?_ ?_
            rotate_left
            ·intro w'
             go_simp
             with_reducible rfl
            rotate_left
            ·simp only [Act.put,zp1,zp2,zp3,i64_w,i32_w]
             rfl
            refine pure_ (i:=4) (N:=some 25) (v:=?_) (a':=?_) #[Y,Y,Y,X,Y,X,X,X,X] rfl rfl zan (fun _ _ _ h=>h) (Or.inl ⟨by rfl,?_⟩) ?_ ?_
            rotate_left
            ·intro w'
             go_simp
             with_reducible rfl
            rotate_left
            ·simp only [Act.put,zp1,zp2,zp3,i64_w,i32_w]
             rfl
            refine pure_ (i:=5) (N:=some 26) (v:=?_) (a':=?_) #[Y,Y,Y,X,Y,Y,X,X,X] rfl rfl zan (fun _ _ _ h=>h) (Or.inl ⟨by rfl,?_⟩) ?_ ?_
            rotate_left
            ·intro w'
             go_simp
             with_reducible rfl
            rotate_left
            ·simp only [Act.put,zp1,zp2,zp3,i64_w,i32_w]
             rfl
            refine take_ (i:=3) (N:=some 24) (v:=?_) (a':=?_) #[Y,Y,Y,Y,Y,Y,X,X,X] rfl rfl ztw (fun _ _ _ h=>h) (Or.inl ⟨by rfl,?_⟩) hHeld ?_ ?_
            rotate_left
            ·rintro w' ⟨s0,s1,s2,s3⟩
             go_simp
             with_reducible rfl
            rotate_left
            ·simp only [Act.put,zp1,zp2,zp3,i64_w,i32_w]
             rfl
            refine take_ (i:=6) (N:=some 27) (v:=?_) (a':=?_) #[Y,Y,Y,Y,Y,Y,Y,X,X] rfl rfl ztw (fun _ _ _ h=>h) (Or.inl ⟨by rfl,?_⟩) hHeld ?_ ?_
            rotate_left
            ·rintro w' ⟨s0,s1,s2,s3⟩
             go_simp
             with_reducible rfl
            rotate_left
            ·simp only [Act.put,zp1,zp2,zp3,i64_w,i32_w]
             rfl
            refine one_ (i:=7) (N:=some 28) #[Y,Y,Y,Y,Y,Y,Y,Y,X] rfl rfl (one_of HT_.out (by kernel_rfl)) (by decide) (fun K hK=>?_)
            refine goes_f (.tmp 21) Tryd.func84 (by kernel_rfl) rfl #[.agg #[.slice A281_0 ((rd_T53 x0_1 0).f0).length c281_0,.int .i64 ((rd_T53 x0_1 0).f1)],.agg #[.slice A282_0 ((rd_T53 x1_1 0).f0).length c282_0,.int .i64 ((rd_T53 x1_1 0).f1)]] (by rfl) rfl rfl rfl zar ?_
            with_reducible refine (impl_cmpItem.calls k1 _ _ ((rd_T53 x0_1 0).f0) ((rd_T53 x0_1 0).f1) _ _ ((rd_T53 x1_1 0).f0) ((rd_T53 x1_1 0).f1) t283 _ ?side1 ?side2 ?side3 ?side4 A9.out).mono ?_
            (case side1=>exact zC (zC HR281_0.out))
            (case side2=>exact HC281_0.out)
            (case side3=>exact zC (zC HR282_0.out))
            (case side4=>exact HC282_0.out)
            rintro e w57 ⟨rfl,hb⟩
            have HS0_:=zhs hb hHeld.1
            have HS1_:=zhs hb hHeld.2.1
            have HS2_:=zhs hb hHeld.2.2.1
            have HS3_:=zhs hb hHeld.2.2.2
            refine ⟨_,rfl,?_⟩
            have n0_:=Aside0.mk (Kd.V_below (zV HO_0.out) hb)
            have n1_:=Aside0.mk (Kd.V_below (zV HO_1.out) hb)
            have n2_:=Aside0.mk (Kd.N_below (zN HO_9.out) hb)
            have n3_:=Aside0.mk (Kd.V_below (zV HL281_0.out) hb)
            have n4_:=Aside0.mk (Kd.V_below (zV HL282_0.out) hb)
            have n5_:=Aside0.mk (Kd.C_below (zC HR281_0.out) hb)
            have n6_:=Aside0.mk (Kd.C_below (zC HR282_0.out) hb)
            have n7_:=Aside0.mk (below_step zhb hb)
            clear HO_0
            clear HO_1
            clear HO_9
            clear HL281_0
            clear HL282_0
            clear HR281_0
            clear HR282_0
            clear HB
            have HO_0:=n0_
            have HO_1:=n1_
            have HO_9:=n2_
            have HL281_0:=n3_
            have HL282_0:=n4_
            have HR281_0:=n5_
            have HR282_0:=n6_
            have HB:=n7_
            clear n0_ n1_ n2_ n3_ n4_ n5_ n6_ n7_
            (try clear hb)
            (try clear hb2)
            (try clear hk)
            (try clear hi)
            refine hK.out _ _ ⟨HS0_,HS1_,HS2_,HS3_⟩ (fun hHeld=>?_)
            clear hK K
            refine norm_ (a':=?_) ?_ ?_
            rotate_left
            ·show Act.put _ (some 28) _=_
             simp only [Act.put,zp1,zp2,zp3,i64_w,i32_w]
             rfl
            refine pure_ (i:=8) (N:=some 10) (v:=?_) (a':=?_) #[Y,Y,Y,Y,Y,Y,Y,Y,Y] rfl rfl zan (fun _ _ _ h=>h) (Or.inl ⟨by rfl,?_⟩) ?_ ?_
            rotate_left
            ·intro w'
             go_simp
             with_reducible rfl
            rotate_left
            ·simp only [Act.put,zp1,zp2,zp3,i64_w,i32_w]
             rfl
            refine done_ (done_of HT_.out (by kernel_rfl)) ?_
            try go_wp2
            have n0_:=Aside0.mk (Kd.V_drew HO_0.out)
            have n1_:=Aside0.mk (Kd.V_drew HO_1.out)
            have n2_:=Aside0.mk (Kd.N_drew HO_9.out)
            have n3_:=Aside0.mk (Kd.V_drew HL281_0.out)
            have n4_:=Aside0.mk (Kd.V_drew HL282_0.out)
            have n5_:=Aside0.mk (Kd.C_drew HR281_0.out)
            have n6_:=Aside0.mk (Kd.C_drew HR282_0.out)
            have n7_:=Aside0.mk (below_drew1 HB.out)
            clear HO_0
            clear HO_1
            clear HO_9
            clear HL281_0
            clear HL282_0
            clear HR281_0
            clear HR282_0
            clear HB
            have HO_0:=n0_
            have HO_1:=n1_
            have HO_9:=n2_
            have HL281_0:=n3_
            have HL282_0:=n4_
            have HR281_0:=n5_
            have HR282_0:=n6_
            have HB:=n7_
            clear n0_ n1_ n2_ n3_ n4_ n5_ n6_ n7_
            have p302:0≤(0:Int):=(by omega)
            have q302:0 < (x0_1.length:Int):=zod
            obtain ⟨ad302,A302_0,c302_0,e302,hx302_0,hx302_1,hl302_0,hi302_0⟩:=at_T53 (Kd.V_reads' HO_0.out).2.2 0 p302 q302
            obtain rfl:ad281=ad302:=(by injection e302)
            obtain ⟨ce302,hce302,hMe302,hcc302⟩:=Kd.V_get HO_0.out z53 0 p302 (by first|exact q302|exact zod|(have e_:=(Kd.V_reads' HO_0.out).1;omega))
            obtain ⟨ua302_0,uc302_0,rfl,ul302_0,ge302_0⟩:=k53_openF hMe302
            have hv302_0:=hcc302 0 _ rfl
            rw [Nat.add_zero] at hv302_0
            replace hv302_0:=Option.some.inj (hv302_0.symm.trans hx302_0)
            injection hv302_0 with hva_ hvn_ hvc_
            rw [hva_] at ge302_0
            rw [hvc_] at ul302_0
            have HL302_0:=Aside0.mk (show Kd.V (Kd.int .i64) 3 _ w.heap.size _ _ ((rd_T53 x0_1 0).f0) from Kd.V_mk ul302_0 ge302_0)
            clear hva_ hvn_ hvc_ ge302_0 ul302_0
            clear hcc302 hce302
            have qi302:(0 < x0_1.length)=True:=eq_true (by omega)
            (try rw [show ((0:Int)).toNat=0 from rfl] at hx302_0)
            (try rw [show 0 * 2=0 from rfl] at hx302_0)
            (try rw [Addr.add_zero'] at hx302_0)
            (try rw [show ((0:Int)).toNat=0 from rfl] at hx302_1)
            (try rw [show 0 * 2=0 from rfl] at hx302_1)
            (try rw [Addr.add_zero'] at hx302_1)
            have HR302_0:=Aside0.mk hi302_0
            have HC302_0:=Aside0.mk hl302_0
            clear hi302_0 hl302_0
            replace p302:=eq_true p302
            replace q302:=eq_true q302
            have p303:0≤(0:Int):=(by omega)
            have q303:0 < (x1_1.length:Int):=zod
            obtain ⟨ad303,A303_0,c303_0,e303,hx303_0,hx303_1,hl303_0,hi303_0⟩:=at_T53 (Kd.V_reads' HO_1.out).2.2 0 p303 q303
            obtain rfl:ad282=ad303:=(by injection e303)
            obtain ⟨ce303,hce303,hMe303,hcc303⟩:=Kd.V_get HO_1.out z53 0 p303 (by first|exact q303|exact zod|(have e_:=(Kd.V_reads' HO_1.out).1;omega))
            obtain ⟨ua303_0,uc303_0,rfl,ul303_0,ge303_0⟩:=k53_openF hMe303
            have hv303_0:=hcc303 0 _ rfl
            rw [Nat.add_zero] at hv303_0
            replace hv303_0:=Option.some.inj (hv303_0.symm.trans hx303_0)
            injection hv303_0 with hva_ hvn_ hvc_
            rw [hva_] at ge303_0
            rw [hvc_] at ul303_0
            have HL303_0:=Aside0.mk (show Kd.V (Kd.int .i64) 3 _ w.heap.size _ _ ((rd_T53 x1_1 0).f0) from Kd.V_mk ul303_0 ge303_0)
            clear hva_ hvn_ hvc_ ge303_0 ul303_0
            clear hcc303 hce303
            have qi303:(0 < x1_1.length)=True:=eq_true (by omega)
            (try rw [show ((0:Int)).toNat=0 from rfl] at hx303_0)
            (try rw [show 0 * 2=0 from rfl] at hx303_0)
            (try rw [Addr.add_zero'] at hx303_0)
            (try rw [show ((0:Int)).toNat=0 from rfl] at hx303_1)
            (try rw [show 0 * 2=0 from rfl] at hx303_1)
            (try rw [Addr.add_zero'] at hx303_1)
            have HR303_0:=Aside0.mk hi303_0
            have HC303_0:=Aside0.mk hl303_0
            clear hi303_0 hl303_0
            replace p303:=eq_true p303
            replace q303:=eq_true q303
            refine start_ (n:=14) (S:=fun w'=>w'.cell? ad281=some (.slice A302_0 ((rd_T53 x0_1 0).f0).length c302_0)∧w'.cell? ⟨ad281.block,ad281.off + 1,none⟩=some (.int .i64 ((rd_T53 x0_1 0).f1))∧w'.cell? ad282=some (.slice A303_0 ((rd_T53 x1_1 0).f0).length c303_0)∧w'.cell? ⟨ad282.block,ad282.off + 1,none⟩=some (.int .i64 ((rd_T53 x1_1 0).f1))) (ds:=[]) #[X,X,X,X,X,X,X,X,X,X,X,X,X,X] (by kernel_rfl) rfl rfl ⟨hx302_0,hx302_1,hx303_0,hx303_1⟩ (fun hHeld=>?_);refine with_tabW impl_merged_impl_Item__impl_cmpItem_impl_together_1.tab4 impl_merged_impl_Item__impl_cmpItem_impl_together_1.bits4 (fun HT_ HW_=>?_)
            generalize w57.drew=w58 at HO_0 HO_1 HO_9 HL281_0 HL282_0 HR281_0 HR282_0 HB HL302_0 HL303_0 HR302_0 HR303_0 hx302_0 hx302_1 hx303_0 hx303_1 hHeld ⊢
            refine pure_ (i:=0) (N:=some 30) (v:=?_) (a':=?_) #[Y,X,X,X,X,X,X,X,X,X,X,X,X,X] rfl rfl zan (fun _ _ _ h=>h) (Or.inl ⟨by rfl,?_⟩) ?_ ?_
            rotate_left
            ·intro w'
             go_simp
             with_reducible rfl
            rotate_left
            ·simp only [Act.put,zp1,zp2,zp3,i64_w,i32_w]
             rfl
            refine pure_ (i:=1) (N:=some 31) (v:=?_) (a':=?_) #[Y,Y,X,X,X,X,X,X,X,X,X,X,X,X] rfl rfl zan (fun _ _ _ h=>h) (Or.inl ⟨by rfl,?_⟩) ?_ ?_
            rotate_left
            ·intro w'
             go_simp
             with_reducible rfl
            rotate_left
            ·simp only [Act.put,zp1,zp2,zp3,i64_w,i32_w]
             rfl
            refine pure_ (i:=2) (N:=some 32) (v:=?_) (a':=?_) #[Y,Y,Y,X,X,X,X,X,X,X,X,X,X,X] rfl rfl zan (fun _ _ _ h=>h) (Or.inl ⟨by rfl,?_⟩) ?_ ?_
            rotate_left
            ·intro w'
             go_simp
             with_reducible rfl
            rotate_left
            ·simp only [Act.put,zp1,zp2,zp3,i64_w,i32_w]
             rfl
            refine pure_ (i:=4) (N:=some 34) (v:=?_) (a':=?_) #[Y,Y,Y,X,Y,X,X,X,X,X,X,X,X,X] rfl rfl zan (fun _ _ _ h=>h) (Or.inl ⟨by rfl,?_⟩) ?_ ?_
            rotate_left
            ·intro w'
             go_simp
             with_reducible rfl
            rotate_left
            ·simp only [Act.put,zp1,zp2,zp3,i64_w,i32_w]
             rfl
            refine pure_ (i:=5) (N:=some 35) (v:=?_) (a':=?_) #[Y,Y,Y,X,Y,Y,X,X,X,X,X,X,X,X] rfl rfl zan (fun _ _ _ h=>h) (Or.inl ⟨by rfl,?_⟩) ?_ ?_
            rotate_left
            ·intro w'
             go_simp
             with_reducible rfl
            rotate_left
            ·simp only [Act.put,zp1,zp2,zp3,i64_w,i32_w]
             rfl
            refine take_ (i:=3) (N:=some 33) (v:=?_) (a':=?_) #[Y,Y,Y,Y,Y,Y,X,X,X,X,X,X,X,X] rfl rfl ztw (fun _ _ _ h=>h) (Or.inl ⟨by rfl,?_⟩) hHeld ?_ ?_
            rotate_left
            ·rintro w' ⟨s0,s1,s2,s3⟩
             go_simp
             with_reducible rfl
            rotate_left
            ·simp only [Act.put,zp1,zp2,zp3,i64_w,i32_w]
             rfl
            refine take_ (i:=6) (N:=some 36) (v:=?_) (a':=?_) #[Y,Y,Y,Y,Y,Y,Y,X,X,X,X,X,X,X] rfl rfl ztw (fun _ _ _ h=>h) (Or.inl ⟨by rfl,?_⟩) hHeld ?_ ?_
            rotate_left
            ·rintro w' ⟨s0,s1,s2,s3⟩
             go_simp
             with_reducible rfl
            rotate_left
            ·simp only [Act.put,zp1,zp2,zp3,i64_w,i32_w]
             rfl
            refine join_ (σ:=Value × Nat) 2 #[Y,Y,Y,Y,Y,Y,Y,Y,Y,Y,Y,Y,X,X] (fun s_=>[(37,.tuple #[.agg #[s_.1,.int .i64 t307],.bool false]),(11,.pointer (some ⟨s_.2,0,none⟩)),(29,.tuple #[.agg #[s_.1,.int .i64 t307],.bool false]),(38,.agg #[s_.1,.int .i64 t307]),(39,.bool false)]) (fun s_ w'=>(w'.cell? ad281=some (.slice A302_0 ((rd_T53 x0_1 0).f0).length c302_0)∧w'.cell? ⟨ad281.block,ad281.off + 1,none⟩=some (.int .i64 ((rd_T53 x0_1 0).f1))∧w'.cell? ad282=some (.slice A303_0 ((rd_T53 x1_1 0).f0).length c303_0)∧w'.cell? ⟨ad282.block,ad282.off + 1,none⟩=some (.int .i64 ((rd_T53 x1_1 0).f1)))∧(Kd.V (Kd.int .i64) 3 w' w.heap.size (fun k_=>((P0_ k_∨P1_ k_)∨w.heap.size≤k_)∧some k_≠(u9:Value).ownBlock∧k_≠s_.2) (.slice A281_0 ((rd_T53 x0_1 0).f0).length c281_0) ((rd_T53 x0_1 0).f0))∧(Kd.V (Kd.int .i64) 3 w' w.heap.size (fun k_=>((P0_ k_∨P1_ k_)∨w.heap.size≤k_)∧some k_≠(u9:Value).ownBlock∧k_≠s_.2) (.slice A282_0 ((rd_T53 x1_1 0).f0).length c282_0) ((rd_T53 x1_1 0).f0))∧(Kd.V (Kd.int .i64) 3 w' w.heap.size (fun k_=>((P0_ k_∨P1_ k_)∨w.heap.size≤k_)∧some k_≠(u9:Value).ownBlock∧k_≠s_.2) (.slice A302_0 ((rd_T53 x0_1 0).f0).length c302_0) ((rd_T53 x0_1 0).f0))∧(Kd.V (Kd.int .i64) 3 w' w.heap.size (fun k_=>((P0_ k_∨P1_ k_)∨w.heap.size≤k_)∧some k_≠(u9:Value).ownBlock∧k_≠s_.2) (.slice A303_0 ((rd_T53 x1_1 0).f0).length c303_0) ((rd_T53 x1_1 0).f0))∧(Kd.V (Kd.int .i64) 3 w' w.heap.size (fun k_=>((P0_ k_∨P1_ k_)∨w.heap.size≤k_)∧some k_≠(u9:Value).ownBlock∧k_≠s_.2) s_.1 t304)∧(Kd.V k53 53 w' w.heap.size (fun k_=>((P0_ k_∨P1_ k_)∨w.heap.size≤k_)∧some k_≠(u9:Value).ownBlock∧k_≠s_.2) (.slice (some ad281) x0_1.length co54) x0_1)∧(Kd.V k53 53 w' w.heap.size (fun k_=>((P0_ k_∨P1_ k_)∨w.heap.size≤k_)∧some k_≠(u9:Value).ownBlock∧k_≠s_.2) (.slice (some ad282) x1_1.length co55) x1_1)∧(Kd.N k53 53 w' w.heap.size (fun k_=>((P0_ k_∨P1_ k_)∨w.heap.size≤k_)∧k_≠s_.2) u9 x9_1)∧(w'.heap[s_.2]?=some (.cells #[.slice none 0 0,.int .i64 0] 53 (0,0)))∧(w.heap.size≤s_.2)∧(w.heap.size≤s_.2)∧(Below w.heap.size w w')) ?_ ?_
            rotate_left
            ·intro hCont
             refine two_ (i:=7) (j:=11) (Ni:=some 37) (Nj:=some 11) #[Y,Y,Y,Y,Y,Y,Y,Y,X,X,X,X,X,X] #[Y,Y,Y,Y,Y,Y,Y,X,X,X,X,Y,X,X] rfl rfl rfl rfl (two_of HT_.out (by kernel_rfl)) (by decide) (by decide) (fun K hK=>?_) (fun K hK=>?_)
             ·skip
              refine goes_f (.tmp 30) Tryd.func85 (by kernel_rfl) rfl #[.agg #[.slice A302_0 ((rd_T53 x0_1 0).f0).length c302_0,.int .i64 ((rd_T53 x0_1 0).f1)],.agg #[.slice A303_0 ((rd_T53 x1_1 0).f0).length c303_0,.int .i64 ((rd_T53 x1_1 0).f1)]] (by rfl) rfl rfl rfl zar ?_
              with_reducible refine (impl_together_1.calls (fun k_=>(((P0_ k_∨P1_ k_)∨w.heap.size≤k_)∧some k_≠(u9:Value).ownBlock)) _ _ ((rd_T53 x0_1 0).f0) ((rd_T53 x0_1 0).f1) _ _ ((rd_T53 x1_1 0).f0) ((rd_T53 x1_1 0).f1) t304 t307 false _ ?side1 ?side2 ?side3 A30.out).mono ?_
              (case side1=>exact HL302_0.out)
              (case side2=>exact zC (zC HR303_0.out))
              (case side3=>exact HC303_0.out)
              rintro e w59 ⟨v305,rfl,ho0,hb⟩
              have HS0_:=zhs hb hHeld.1
              have HS1_:=zhs hb hHeld.2.1
              have HS2_:=zhs hb hHeld.2.2.1
              have HS3_:=zhs hb hHeld.2.2.2
              refine ⟨_,rfl,?_⟩
              have n0_:=Aside0.mk (Kd.V_below (zV HO_0.out) hb)
              have n1_:=Aside0.mk (Kd.V_below (zV HO_1.out) hb)
              have n2_:=Aside0.mk (Kd.N_below (zN HO_9.out) hb)
              have n3_:=Aside0.mk (Kd.V_below (zV HL281_0.out) hb)
              have n4_:=Aside0.mk (Kd.V_below (zV HL282_0.out) hb)
              have n5_:=Aside0.mk (Kd.V_below (zV HL302_0.out) hb)
              have n6_:=Aside0.mk (Kd.V_below (zV HL303_0.out) hb)
              have n7_:=Aside0.mk (Kd.V_lower (Kd.V_mono (ok':=fun k_=>((P0_ k_∨P1_ k_)∨w.heap.size≤k_)∧some k_≠(u9:Value).ownBlock) ho0 (fun k_ hk_=>⟨Or.elim hk_ (fun hs_=>hs_.1) (fun hn_=>(.inr (Nat.le_trans (below_size zhb) hn_))),Or.elim hk_ (fun hs_=>hs_.2) (fun hn_=>(Kd.fresh' (Kd.N_lt (zN HO_9.out)) k_ hn_))⟩)) (below_size zhb))
              have n8_:=Aside0.mk (Kd.C_below (zC HR281_0.out) hb)
              have n9_:=Aside0.mk (Kd.C_below (zC HR282_0.out) hb)
              have n10_:=Aside0.mk (Kd.C_below (zC HR302_0.out) hb)
              have n11_:=Aside0.mk (Kd.C_below (zC HR303_0.out) hb)
              have n12_:=Aside0.mk (below_step zhb hb)
              clear HO_0
              clear HO_1
              clear HO_9
              clear HL281_0
              clear HL282_0
              clear HL302_0
              clear HL303_0
              clear HR281_0
              clear HR282_0
              clear HR302_0
              clear HR303_0
              clear HB
              have HO_0:=n0_
              have HO_1:=n1_
              have HO_9:=n2_
              have HL281_0:=n3_
              have HL282_0:=n4_
              have HL302_0:=n5_
              have HL303_0:=n6_
              have HO306:=n7_
              have HR281_0:=n8_
              have HR282_0:=n9_
              have HR302_0:=n10_
              have HR303_0:=n11_
              have HB:=n12_
              clear n0_ n1_ n2_ n3_ n4_ n5_ n6_ n7_ n8_ n9_ n10_ n11_ n12_
              (try clear hb)
              (try clear hb2)
              (try clear hk)
              (try clear hi)
              (try clear ho0)
              refine hK.out _ _ ⟨HS0_,HS1_,HS2_,HS3_⟩ (fun hHeld=>?_)
              clear hK K
              refine norm_ (a':=?_) ?_ ?_
              rotate_left
              ·show Act.put _ (some 37) _=_
               simp only [Act.put,zp1,zp2,zp3,i64_w,i32_w]
               rfl
              refine pure_ (i:=8) (N:=some 29) (v:=?_) (a':=?_) #[Y,Y,Y,Y,Y,Y,Y,Y,Y,X,X,X,X,X] rfl rfl zan (fun _ _ _ h=>h) (Or.inl ⟨by rfl,?_⟩) ?_ ?_
              rotate_left
              ·intro w'
               go_simp
               with_reducible rfl
              rotate_left
              ·simp only [Act.put,zp1,zp2,zp3,i64_w,i32_w]
               rfl
              refine pure_ (i:=9) (N:=some 38) (v:=?_) (a':=?_) #[Y,Y,Y,Y,Y,Y,Y,Y,Y,Y,X,X,X,X] rfl rfl zan (fun _ _ _ h=>h) (Or.inl ⟨by rfl,?_⟩) ?_ ?_
              rotate_left
              ·intro w'
               go_simp
               with_reducible rfl
              rotate_left
              ·simp only [Act.put,zp1,zp2,zp3,i64_w,i32_w]
               rfl
              refine pure_ (i:=10) (N:=some 39) (v:=?_) (a':=?_) #[Y,Y,Y,Y,Y,Y,Y,Y,Y,Y,Y,X,X,X] rfl rfl zan (fun _ _ _ h=>h) (Or.inl ⟨by rfl,?_⟩) ?_ ?_
              rotate_left
              ·intro w'
               go_simp
               with_reducible rfl
              rotate_left
              ·simp only [Act.put,zp1,zp2,zp3,i64_w,i32_w]
               rfl
              refine one_ (i:=11) (N:=some 11) #[Y,Y,Y,Y,Y,Y,Y,Y,Y,Y,Y,Y,X,X] rfl rfl (one_of HT_.out (by kernel_rfl)) (by decide) (fun K hK=>?_)
              refine box_step ?hg (N:=11) ?hd (cs:=#[.slice none 0 0,.int .i64 0]) (t:=53) ?hr ?_;(case hd=>rfl);(case hg=>rfl);(case hr=>first|(go_simp;done)|(go_simp;rfl))
              intro gb309 hg w60 hbox hb
              have HS0_:=zhs hb hHeld.1
              have HS1_:=zhs hb hHeld.2.1
              have HS2_:=zhs hb hHeld.2.2.1
              have HS3_:=zhs hb hHeld.2.2.2
              have n0_:=Aside0.mk (Kd.V_below (Kd.V_elderB (zV HO_0.out) gb309 (Nat.le_of_eq hg.symm)) hb)
              have n1_:=Aside0.mk (Kd.V_below (Kd.V_elderB (zV HO_1.out) gb309 (Nat.le_of_eq hg.symm)) hb)
              have n2_:=Aside0.mk (Kd.N_below (Kd.N_elderB (zN HO_9.out) gb309 (Nat.le_of_eq hg.symm)) hb)
              have n3_:=Aside0.mk (Kd.V_below (Kd.V_elderB (zV HL281_0.out) gb309 (Nat.le_of_eq hg.symm)) hb)
              have n4_:=Aside0.mk (Kd.V_below (Kd.V_elderB (zV HL282_0.out) gb309 (Nat.le_of_eq hg.symm)) hb)
              have n5_:=Aside0.mk (Kd.V_below (Kd.V_elderB (zV HL302_0.out) gb309 (Nat.le_of_eq hg.symm)) hb)
              have n6_:=Aside0.mk (Kd.V_below (Kd.V_elderB (zV HL303_0.out) gb309 (Nat.le_of_eq hg.symm)) hb)
              have n7_:=Aside0.mk (Kd.V_below (Kd.V_elderB (zV HO306.out) gb309 (Nat.le_of_eq hg.symm)) hb)
              have n8_:=Aside0.mk (Kd.C_below (zC HR281_0.out) hb)
              have n9_:=Aside0.mk (Kd.C_below (zC HR282_0.out) hb)
              have n10_:=Aside0.mk (Kd.C_below (zC HR302_0.out) hb)
              have n11_:=Aside0.mk (Kd.C_below (zC HR303_0.out) hb)
              have n12_:=Aside0.mk (below_step zhb hb)
              have n13_:=Aside0.mk (hbox)
              have n14_:=Aside0.mk ((by rw [hg];exact (below_size zhb):w.heap.size≤gb309))
              have n15_:=Aside0.mk ((by rw [hg];exact (below_size zhb):w.heap.size≤gb309))
              clear HO_0
              clear HO_1
              clear HO_9
              clear HL281_0
              clear HL282_0
              clear HL302_0
              clear HL303_0
              clear HO306
              clear HR281_0
              clear HR282_0
              clear HR302_0
              clear HR303_0
              clear HB
              have HO_0:=n0_
              have HO_1:=n1_
              have HO_9:=n2_
              have HL281_0:=n3_
              have HL282_0:=n4_
              have HL302_0:=n5_
              have HL303_0:=n6_
              have HO306:=n7_
              have HR281_0:=n8_
              have HR282_0:=n9_
              have HR302_0:=n10_
              have HR303_0:=n11_
              have HB:=n12_
              have BK309:=n13_
              have GW309:=n14_
              have GE309:=n15_
              clear n0_ n1_ n2_ n3_ n4_ n5_ n6_ n7_ n8_ n9_ n10_ n11_ n12_ n13_ n14_ n15_
              clear hb hbox hg
              refine hK.out _ _ ⟨HS0_,HS1_,HS2_,HS3_⟩ (fun hHeld=>?_)
              clear hK K
              refine norm_ (a':=?_) ?_ ?_
              rotate_left
              ·show Act.put _ (some 11) _=_
               simp only [Act.put,zp1,zp2,zp3,i64_w,i32_w]
               rfl
              exact norm_ (by simp only [putAll,Act.put,zp1,zp2,zp3]) (hCont (v305,gb309) _ ⟨hHeld,(by (with_reducible repeat (first|apply Kd.V_alloc|apply Kd.V_drewN|apply Kd.V_drew));exact Kd.V_mono HL281_0.out (fun _ hk=>⟨hk.1.1,⟨hk.1.2,hk.2⟩⟩)),(by (with_reducible repeat (first|apply Kd.V_alloc|apply Kd.V_drewN|apply Kd.V_drew));exact Kd.V_mono HL282_0.out (fun _ hk=>⟨hk.1.1,⟨hk.1.2,hk.2⟩⟩)),(by (with_reducible repeat (first|apply Kd.V_alloc|apply Kd.V_drewN|apply Kd.V_drew));exact Kd.V_mono HL302_0.out (fun _ hk=>⟨hk.1.1,⟨hk.1.2,hk.2⟩⟩)),(by (with_reducible repeat (first|apply Kd.V_alloc|apply Kd.V_drewN|apply Kd.V_drew));exact Kd.V_mono HL303_0.out (fun _ hk=>⟨hk.1.1,⟨hk.1.2,hk.2⟩⟩)),(by (with_reducible repeat (first|apply Kd.V_alloc|apply Kd.V_drewN|apply Kd.V_drew));exact Kd.V_mono HO306.out (fun _ hk=>⟨hk.1.1,⟨hk.1.2,hk.2⟩⟩)),(by (with_reducible repeat (first|apply Kd.V_alloc|apply Kd.V_drewN|apply Kd.V_drew));exact Kd.V_mono HO_0.out (fun _ hk=>⟨hk.1.1,⟨hk.1.2,hk.2⟩⟩)),(by (with_reducible repeat (first|apply Kd.V_alloc|apply Kd.V_drewN|apply Kd.V_drew));exact Kd.V_mono HO_1.out (fun _ hk=>⟨hk.1.1,⟨hk.1.2,hk.2⟩⟩)),(zN HO_9.out),(by (with_reducible repeat (first|refine blk_drewN ?_ _|refine blk_drew ?_|refine blk_alloc ?_ _));exact BK309.out),GW309.out,GE309.out,(by repeat (first|(with_reducible first|exact HB.out|apply below_alloc|apply pw_below_drewN|apply below_drew1|refine below_set ?_ GE309.out)|exact HB.out))⟩)
             ·skip
              refine box_step ?hg (N:=11) ?hd (cs:=#[.slice none 0 0,.int .i64 0]) (t:=53) ?hr ?_;(case hd=>rfl);(case hg=>rfl);(case hr=>first|(go_simp;done)|(go_simp;rfl))
              intro gb309 hg w59 hbox hb
              have HS0_:=zhs hb hHeld.1
              have HS1_:=zhs hb hHeld.2.1
              have HS2_:=zhs hb hHeld.2.2.1
              have HS3_:=zhs hb hHeld.2.2.2
              have n0_:=Aside0.mk (Kd.V_below (Kd.V_elderB (zV HO_0.out) gb309 (Nat.le_of_eq hg.symm)) hb)
              have n1_:=Aside0.mk (Kd.V_below (Kd.V_elderB (zV HO_1.out) gb309 (Nat.le_of_eq hg.symm)) hb)
              have n2_:=Aside0.mk (Kd.N_below (Kd.N_elderB (zN HO_9.out) gb309 (Nat.le_of_eq hg.symm)) hb)
              have n3_:=Aside0.mk (Kd.V_below (Kd.V_elderB (zV HL281_0.out) gb309 (Nat.le_of_eq hg.symm)) hb)
              have n4_:=Aside0.mk (Kd.V_below (Kd.V_elderB (zV HL282_0.out) gb309 (Nat.le_of_eq hg.symm)) hb)
              have n5_:=Aside0.mk (Kd.V_below (Kd.V_elderB (zV HL302_0.out) gb309 (Nat.le_of_eq hg.symm)) hb)
              have n6_:=Aside0.mk (Kd.V_below (Kd.V_elderB (zV HL303_0.out) gb309 (Nat.le_of_eq hg.symm)) hb)
              have n7_:=Aside0.mk (Kd.C_below (zC HR281_0.out) hb)
              have n8_:=Aside0.mk (Kd.C_below (zC HR282_0.out) hb)
              have n9_:=Aside0.mk (Kd.C_below (zC HR302_0.out) hb)
              have n10_:=Aside0.mk (Kd.C_below (zC HR303_0.out) hb)
              have n11_:=Aside0.mk (below_step zhb hb)
              have n12_:=Aside0.mk (hbox)
              have n13_:=Aside0.mk ((by rw [hg];exact (below_size zhb):w.heap.size≤gb309))
              have n14_:=Aside0.mk ((by rw [hg];exact (below_size zhb):w.heap.size≤gb309))
              clear HO_0
              clear HO_1
              clear HO_9
              clear HL281_0
              clear HL282_0
              clear HL302_0
              clear HL303_0
              clear HR281_0
              clear HR282_0
              clear HR302_0
              clear HR303_0
              clear HB
              have HO_0:=n0_
              have HO_1:=n1_
              have HO_9:=n2_
              have HL281_0:=n3_
              have HL282_0:=n4_
              have HL302_0:=n5_
              have HL303_0:=n6_
              have HR281_0:=n7_
              have HR282_0:=n8_
              have HR302_0:=n9_
              have HR303_0:=n10_
              have HB:=n11_
              have BK309:=n12_
              have GW309:=n13_
              have GE309:=n14_
              clear n0_ n1_ n2_ n3_ n4_ n5_ n6_ n7_ n8_ n9_ n10_ n11_ n12_ n13_ n14_
              clear hb hbox hg
              refine hK.out _ _ ⟨HS0_,HS1_,HS2_,HS3_⟩ (fun hHeld=>?_)
              clear hK K
              refine norm_ (a':=?_) ?_ ?_
              rotate_left
              ·show Act.put _ (some 11) _=_
               simp only [Act.put,zp1,zp2,zp3,i64_w,i32_w]
               rfl
              refine one_ (i:=7) (N:=some 37) #[Y,Y,Y,Y,Y,Y,Y,Y,X,X,X,Y,X,X] rfl rfl (one_of HT_.out (by kernel_rfl)) (by decide) (fun K hK=>?_)
              refine goes_f (.tmp 30) Tryd.func85 (by kernel_rfl) rfl #[.agg #[.slice A302_0 ((rd_T53 x0_1 0).f0).length c302_0,.int .i64 ((rd_T53 x0_1 0).f1)],.agg #[.slice A303_0 ((rd_T53 x1_1 0).f0).length c303_0,.int .i64 ((rd_T53 x1_1 0).f1)]] (by rfl) rfl rfl rfl zar ?_
              with_reducible refine (impl_together_1.calls (fun k_=>((((P0_ k_∨P1_ k_)∨w.heap.size≤k_)∧some k_≠(u9:Value).ownBlock)∧k_≠gb309)) _ _ ((rd_T53 x0_1 0).f0) ((rd_T53 x0_1 0).f1) _ _ ((rd_T53 x1_1 0).f0) ((rd_T53 x1_1 0).f1) t304 t307 false _ ?side1 ?side2 ?side3 A30.out).mono ?_
              (case side1=>exact HL302_0.out)
              (case side2=>exact zC (zC HR303_0.out))
              (case side3=>exact HC303_0.out)
              rintro e w60 ⟨v305,rfl,ho0,hb⟩
              have HS0_:=zhs hb hHeld.1
              have HS1_:=zhs hb hHeld.2.1
              have HS2_:=zhs hb hHeld.2.2.1
              have HS3_:=zhs hb hHeld.2.2.2
              refine ⟨_,rfl,?_⟩
              have n0_:=Aside0.mk (Kd.V_below (zV HO_0.out) hb)
              have n1_:=Aside0.mk (Kd.V_below (zV HO_1.out) hb)
              have n2_:=Aside0.mk (Kd.N_below (zN HO_9.out) hb)
              have n3_:=Aside0.mk (Kd.V_below (zV HL281_0.out) hb)
              have n4_:=Aside0.mk (Kd.V_below (zV HL282_0.out) hb)
              have n5_:=Aside0.mk (Kd.V_below (zV HL302_0.out) hb)
              have n6_:=Aside0.mk (Kd.V_below (zV HL303_0.out) hb)
              have n7_:=Aside0.mk (Kd.V_lower (Kd.V_mono (ok':=fun k_=>((P0_ k_∨P1_ k_)∨w.heap.size≤k_)∧some k_≠(u9:Value).ownBlock∧k_≠gb309) ho0 (fun k_ hk_=>⟨Or.elim hk_ (fun hs_=>hs_.1.1) (fun hn_=>(.inr (Nat.le_trans (below_size (by repeat (first|(with_reducible first|exact HB.out|apply below_alloc|apply pw_below_drewN|apply below_drew1|refine below_set ?_ GE309.out)|exact HB.out))) hn_))),Or.elim hk_ (fun hs_=>hs_.1.2) (fun hn_=>(Kd.fresh' (Kd.N_lt (zN HO_9.out)) k_ hn_)),Or.elim hk_ (fun hs_=>hs_.2) (fun hn_=>(Kd.freshB (g:=gb309) (o:=.cells #[.slice none 0 0,.int .i64 0] 53 (0,0)) (by (with_reducible repeat (first|refine blk_drewN ?_ _|refine blk_drew ?_|refine blk_alloc ?_ _));exact BK309.out) k_ hn_))⟩)) (below_size (by repeat (first|(with_reducible first|exact HB.out|apply below_alloc|apply pw_below_drewN|apply below_drew1|refine below_set ?_ GE309.out)|exact HB.out))))
              have n8_:=Aside0.mk (Kd.C_below (zC HR281_0.out) hb)
              have n9_:=Aside0.mk (Kd.C_below (zC HR282_0.out) hb)
              have n10_:=Aside0.mk (Kd.C_below (zC HR302_0.out) hb)
              have n11_:=Aside0.mk (Kd.C_below (zC HR303_0.out) hb)
              have n12_:=Aside0.mk (blk_below (g:=gb309) (o:=.cells #[.slice none 0 0,.int .i64 0] 53 (0,0)) (by (with_reducible repeat (first|refine blk_drewN ?_ _|refine blk_drew ?_|refine blk_alloc ?_ _));exact BK309.out) hb)
              have n13_:=Aside0.mk (below_step (by repeat (first|(with_reducible first|exact HB.out|apply below_alloc|apply pw_below_drewN|apply below_drew1|refine below_set ?_ GE309.out)|exact HB.out)) hb)
              clear HO_0
              clear HO_1
              clear HO_9
              clear HL281_0
              clear HL282_0
              clear HL302_0
              clear HL303_0
              clear HR281_0
              clear HR282_0
              clear HR302_0
              clear HR303_0
              clear BK309
              clear HB
              have HO_0:=n0_
              have HO_1:=n1_
              have HO_9:=n2_
              have HL281_0:=n3_
              have HL282_0:=n4_
              have HL302_0:=n5_
              have HL303_0:=n6_
              have HO306:=n7_
              have HR281_0:=n8_
              have HR282_0:=n9_
              have HR302_0:=n10_
              have HR303_0:=n11_
              have BK309:=n12_
              have HB:=n13_
              clear n0_ n1_ n2_ n3_ n4_ n5_ n6_ n7_ n8_ n9_ n10_ n11_ n12_ n13_
              (try clear hb)
              (try clear hb2)
              (try clear hk)
              (try clear hi)
              (try clear ho0)
              refine hK.out _ _ ⟨HS0_,HS1_,HS2_,HS3_⟩ (fun hHeld=>?_)
              clear hK K
              refine norm_ (a':=?_) ?_ ?_
              rotate_left
              ·show Act.put _ (some 37) _=_
               simp only [Act.put,zp1,zp2,zp3,i64_w,i32_w]
               rfl
              refine pure_ (i:=8) (N:=some 29) (v:=?_) (a':=?_) #[Y,Y,Y,Y,Y,Y,Y,Y,Y,X,X,Y,X,X] rfl rfl zan (fun _ _ _ h=>h) (Or.inl ⟨by rfl,?_⟩) ?_ ?_
              rotate_left
              ·intro w'
               go_simp
               with_reducible rfl
              rotate_left
              ·simp only [Act.put,zp1,zp2,zp3,i64_w,i32_w]
               rfl
              refine pure_ (i:=9) (N:=some 38) (v:=?_) (a':=?_) #[Y,Y,Y,Y,Y,Y,Y,Y,Y,Y,X,Y,X,X] rfl rfl zan (fun _ _ _ h=>h) (Or.inl ⟨by rfl,?_⟩) ?_ ?_
              rotate_left
              ·intro w'
               go_simp
               with_reducible rfl
              rotate_left
              ·simp only [Act.put,zp1,zp2,zp3,i64_w,i32_w]
               rfl
              refine pure_ (i:=10) (N:=some 39) (v:=?_) (a':=?_) #[Y,Y,Y,Y,Y,Y,Y,Y,Y,Y,Y,Y,X,X] rfl rfl zan (fun _ _ _ h=>h) (Or.inl ⟨by rfl,?_⟩) ?_ ?_
              rotate_left
              ·intro w'
               go_simp
               with_reducible rfl
              rotate_left
              ·simp only [Act.put,zp1,zp2,zp3,i64_w,i32_w]
               rfl
              exact norm_ (by simp only [putAll,Act.put,zp1,zp2,zp3]) (hCont (v305,gb309) _ ⟨hHeld,(by (with_reducible repeat (first|apply Kd.V_alloc|apply Kd.V_drewN|apply Kd.V_drew));exact Kd.V_mono HL281_0.out (fun _ hk=>⟨hk.1.1,⟨hk.1.2,hk.2⟩⟩)),(by (with_reducible repeat (first|apply Kd.V_alloc|apply Kd.V_drewN|apply Kd.V_drew));exact Kd.V_mono HL282_0.out (fun _ hk=>⟨hk.1.1,⟨hk.1.2,hk.2⟩⟩)),(by (with_reducible repeat (first|apply Kd.V_alloc|apply Kd.V_drewN|apply Kd.V_drew));exact Kd.V_mono HL302_0.out (fun _ hk=>⟨hk.1.1,⟨hk.1.2,hk.2⟩⟩)),(by (with_reducible repeat (first|apply Kd.V_alloc|apply Kd.V_drewN|apply Kd.V_drew));exact Kd.V_mono HL303_0.out (fun _ hk=>⟨hk.1.1,⟨hk.1.2,hk.2⟩⟩)),(zV HO306.out),(by (with_reducible repeat (first|apply Kd.V_alloc|apply Kd.V_drewN|apply Kd.V_drew));exact Kd.V_mono HO_0.out (fun _ hk=>⟨hk.1.1,⟨hk.1.2,hk.2⟩⟩)),(by (with_reducible repeat (first|apply Kd.V_alloc|apply Kd.V_drewN|apply Kd.V_drew));exact Kd.V_mono HO_1.out (fun _ hk=>⟨hk.1.1,⟨hk.1.2,hk.2⟩⟩)),(zN HO_9.out),(by (with_reducible repeat (first|refine blk_drewN ?_ _|refine blk_drew ?_|refine blk_alloc ?_ _));exact BK309.out),GW309.out,GE309.out,(by repeat (first|(with_reducible first|exact HB.out|apply below_alloc|apply pw_below_drewN|apply below_drew1|refine below_set ?_ GE309.out)|exact HB.out))⟩)
            rintro ⟨v305,gb309⟩ w61 ⟨hS_,h0_,h1_,h2_,h3_,h4_,h5_,h6_,h7_,h8_,h9_,h10_,h11_⟩
            have n0_:Aside0 (Kd.V (Kd.int .i64) 3 w61 w.heap.size (fun k_=>((P0_ k_∨P1_ k_)∨w.heap.size≤k_)∧some k_≠(u9:Value).ownBlock∧k_≠gb309) (.slice A281_0 ((rd_T53 x0_1 0).f0).length c281_0) ((rd_T53 x0_1 0).f0)):=⟨h0_⟩
            have n1_:Aside0 (Kd.V (Kd.int .i64) 3 w61 w.heap.size (fun k_=>((P0_ k_∨P1_ k_)∨w.heap.size≤k_)∧some k_≠(u9:Value).ownBlock∧k_≠gb309) (.slice A282_0 ((rd_T53 x1_1 0).f0).length c282_0) ((rd_T53 x1_1 0).f0)):=⟨h1_⟩
            have n2_:Aside0 (Kd.V (Kd.int .i64) 3 w61 w.heap.size (fun k_=>((P0_ k_∨P1_ k_)∨w.heap.size≤k_)∧some k_≠(u9:Value).ownBlock∧k_≠gb309) (.slice A302_0 ((rd_T53 x0_1 0).f0).length c302_0) ((rd_T53 x0_1 0).f0)):=⟨h2_⟩
            have n3_:Aside0 (Kd.V (Kd.int .i64) 3 w61 w.heap.size (fun k_=>((P0_ k_∨P1_ k_)∨w.heap.size≤k_)∧some k_≠(u9:Value).ownBlock∧k_≠gb309) (.slice A303_0 ((rd_T53 x1_1 0).f0).length c303_0) ((rd_T53 x1_1 0).f0)):=⟨h3_⟩
            have n4_:Aside0 (Kd.V (Kd.int .i64) 3 w61 w.heap.size (fun k_=>((P0_ k_∨P1_ k_)∨w.heap.size≤k_)∧some k_≠(u9:Value).ownBlock∧k_≠gb309) v305 t304):=⟨h4_⟩
            have n5_:Aside0 (Kd.V k53 53 w61 w.heap.size (fun k_=>((P0_ k_∨P1_ k_)∨w.heap.size≤k_)∧some k_≠(u9:Value).ownBlock∧k_≠gb309) (.slice (some ad281) x0_1.length co54) x0_1):=⟨h5_⟩
            have n6_:Aside0 (Kd.V k53 53 w61 w.heap.size (fun k_=>((P0_ k_∨P1_ k_)∨w.heap.size≤k_)∧some k_≠(u9:Value).ownBlock∧k_≠gb309) (.slice (some ad282) x1_1.length co55) x1_1):=⟨h6_⟩
            have n7_:Aside0 (Kd.N k53 53 w61 w.heap.size (fun k_=>((P0_ k_∨P1_ k_)∨w.heap.size≤k_)∧k_≠gb309) u9 x9_1):=⟨h7_⟩
            have n8_:Aside0 (w61.heap[gb309]?=some (.cells #[.slice none 0 0,.int .i64 0] 53 (0,0))):=⟨h8_⟩
            have n9_:Aside0 (w.heap.size≤gb309):=⟨h9_⟩
            have n10_:Aside0 (w.heap.size≤gb309):=⟨h10_⟩
            have n11_:Aside0 (Below w.heap.size w w61):=⟨h11_⟩
            clear HO_0
            clear HO_1
            clear HO_9
            clear HL281_0
            clear HL282_0
            clear HR281_0
            clear HR282_0
            clear HB
            clear h0_ h1_ h2_ h3_ h4_ h5_ h6_ h7_ h8_ h9_ h10_ h11_
            have HL281_0:=n0_
            have HL282_0:=n1_
            have HL302_0:=n2_
            have HL303_0:=n3_
            have HO306:=n4_
            have HO_0:=n5_
            have HO_1:=n6_
            have HO_9:=n7_
            have BK309:=n8_
            have GW309:=n9_
            have GE309:=n10_
            have HB:=n11_
            clear n0_ n1_ n2_ n3_ n4_ n5_ n6_ n7_ n8_ n9_ n10_ n11_
            have hHeld:w61.cell? ad281=some (.slice A302_0 ((rd_T53 x0_1 0).f0).length c302_0)∧w61.cell? ⟨ad281.block,ad281.off + 1,none⟩=some (.int .i64 ((rd_T53 x0_1 0).f1))∧w61.cell? ad282=some (.slice A303_0 ((rd_T53 x1_1 0).f0).length c303_0)∧w61.cell? ⟨ad282.block,ad282.off + 1,none⟩=some (.int .i64 ((rd_T53 x1_1 0).f1)):=hS_
            obtain ⟨Ao62,co62,eo62⟩:=Kd.V_slice HO306.out
            (first|subst eo62|(injection eo62 with f1_ f2_ f3_;have f4_:=f1_.symm;have f5_:=f3_.symm;clear f1_ f2_ f3_;subst f4_;subst f5_))
            refine norm_ (a':=?_) ?_ ?_
            rotate_left
            ·simp only [putAll,Act.put,zp1,zp2,zp3]
             rfl
            refine one_ (i:=12) (N:=none) #[Y,Y,Y,Y,Y,Y,Y,Y,Y,Y,Y,Y,Y,X] rfl rfl (one_of HT_.out (by kernel_rfl)) (by decide) (fun K hK=>?_)
            have hs63:w61.cell? ⟨gb309,0,none⟩=some (.slice none 0 0):=(blk_cell BK309.out 0).trans rfl
            have hfs63:=blk_frozen BK309.out 0
            have hs64:w61.cell? ⟨gb309,1,none⟩=some (.int .i64 0):=(blk_cell BK309.out 1).trans rfl
            have hfs64:=blk_frozen BK309.out 1
            refine skip_ (w1:=?_) (by rfl) rfl ?_ ?_
            rotate_left
            ·go_simp
             rfl
            refine hK.out _ _ ⟨((cell_far (p:=⟨gb309,_,none⟩) (by first|exact Kd.own_blk (Kd.V_away HO_0.out (fun _ hk=>hk.2.2))|(rw [add_block];exact Kd.own_blk (Kd.V_away HO_0.out (fun _ hk=>hk.2.2)))|(show (Addr.add _ _).block≠_;rw [add_block];exact Kd.own_blk (Kd.V_away HO_0.out (fun _ hk=>hk.2.2)))|(dsimp only;exact Kd.own_blk (Kd.V_away HO_0.out (fun _ hk=>hk.2.2)))) _).trans (((cell_far (p:=⟨gb309,_,none⟩) (by first|exact Kd.own_blk (Kd.V_away HO_0.out (fun _ hk=>hk.2.2))|(rw [add_block];exact Kd.own_blk (Kd.V_away HO_0.out (fun _ hk=>hk.2.2)))|(show (Addr.add _ _).block≠_;rw [add_block];exact Kd.own_blk (Kd.V_away HO_0.out (fun _ hk=>hk.2.2)))|(dsimp only;exact Kd.own_blk (Kd.V_away HO_0.out (fun _ hk=>hk.2.2)))) _).trans (hHeld.1)))),((cell_far (p:=⟨gb309,_,none⟩) (by first|exact Kd.own_blk (Kd.V_away HO_0.out (fun _ hk=>hk.2.2))|(rw [add_block];exact Kd.own_blk (Kd.V_away HO_0.out (fun _ hk=>hk.2.2)))|(show (Addr.add _ _).block≠_;rw [add_block];exact Kd.own_blk (Kd.V_away HO_0.out (fun _ hk=>hk.2.2)))|(dsimp only;exact Kd.own_blk (Kd.V_away HO_0.out (fun _ hk=>hk.2.2)))) _).trans (((cell_far (p:=⟨gb309,_,none⟩) (by first|exact Kd.own_blk (Kd.V_away HO_0.out (fun _ hk=>hk.2.2))|(rw [add_block];exact Kd.own_blk (Kd.V_away HO_0.out (fun _ hk=>hk.2.2)))|(show (Addr.add _ _).block≠_;rw [add_block];exact Kd.own_blk (Kd.V_away HO_0.out (fun _ hk=>hk.2.2)))|(dsimp only;exact Kd.own_blk (Kd.V_away HO_0.out (fun _ hk=>hk.2.2)))) _).trans (hHeld.2.1)))),((cell_far (p:=⟨gb309,_,none⟩) (by first|exact Kd.own_blk (Kd.V_away HO_1.out (fun _ hk=>hk.2.2))|(rw [add_block];exact Kd.own_blk (Kd.V_away HO_1.out (fun _ hk=>hk.2.2)))|(show (Addr.add _ _).block≠_;rw [add_block];exact Kd.own_blk (Kd.V_away HO_1.out (fun _ hk=>hk.2.2)))|(dsimp only;exact Kd.own_blk (Kd.V_away HO_1.out (fun _ hk=>hk.2.2)))) _).trans (((cell_far (p:=⟨gb309,_,none⟩) (by first|exact Kd.own_blk (Kd.V_away HO_1.out (fun _ hk=>hk.2.2))|(rw [add_block];exact Kd.own_blk (Kd.V_away HO_1.out (fun _ hk=>hk.2.2)))|(show (Addr.add _ _).block≠_;rw [add_block];exact Kd.own_blk (Kd.V_away HO_1.out (fun _ hk=>hk.2.2)))|(dsimp only;exact Kd.own_blk (Kd.V_away HO_1.out (fun _ hk=>hk.2.2)))) _).trans (hHeld.2.2.1)))),((cell_far (p:=⟨gb309,_,none⟩) (by first|exact Kd.own_blk (Kd.V_away HO_1.out (fun _ hk=>hk.2.2))|(rw [add_block];exact Kd.own_blk (Kd.V_away HO_1.out (fun _ hk=>hk.2.2)))|(show (Addr.add _ _).block≠_;rw [add_block];exact Kd.own_blk (Kd.V_away HO_1.out (fun _ hk=>hk.2.2)))|(dsimp only;exact Kd.own_blk (Kd.V_away HO_1.out (fun _ hk=>hk.2.2)))) _).trans (((cell_far (p:=⟨gb309,_,none⟩) (by first|exact Kd.own_blk (Kd.V_away HO_1.out (fun _ hk=>hk.2.2))|(rw [add_block];exact Kd.own_blk (Kd.V_away HO_1.out (fun _ hk=>hk.2.2)))|(show (Addr.add _ _).block≠_;rw [add_block];exact Kd.own_blk (Kd.V_away HO_1.out (fun _ hk=>hk.2.2)))|(dsimp only;exact Kd.own_blk (Kd.V_away HO_1.out (fun _ hk=>hk.2.2)))) _).trans (hHeld.2.2.2))))⟩ (fun hHeld=>?_)
            clear hK K
            refine pure_ (i:=13) (N:=some 12) (v:=?_) (a':=?_) #[Y,Y,Y,Y,Y,Y,Y,Y,Y,Y,Y,Y,Y,Y] rfl rfl zan (fun _ _ _ h=>h) (Or.inl ⟨by rfl,?_⟩) ?_ ?_
            rotate_left
            ·intro w'
             go_simp
             with_reducible rfl
            rotate_left
            ·simp only [Act.put,zp1,zp2,zp3,i64_w,i32_w]
             rfl
            refine done_ (done_of HT_.out (by kernel_rfl)) ?_
            try go_wp2
            have n0_:Aside0 (Kd.V k53 53 ((w61.setCell ⟨gb309,0,none⟩ (.slice Ao62 t304.length co62)).setCell ⟨gb309,1,none⟩ (.int .i64 t307)) w.heap.size (fun k_=>((P0_ k_∨P1_ k_)∨w.heap.size≤k_)∧some k_≠(u9:Value).ownBlock∧k_≠gb309) (.slice (some ad281) x0_1.length co54) x0_1):=⟨by (with_reducible repeat (first|apply Kd.V_alloc|apply Kd.V_drewN|apply Kd.V_drew));exact Kd.V_mono (Kd.V_far (p:=⟨gb309,1,none⟩) (Kd.V_far (p:=⟨gb309,0,none⟩) (Kd.V_mono HO_0.out (fun k_ hk=>(⟨hk,hk.2.2⟩:_∧k_≠gb309))) (fun _ hk=>hk.2) (.slice Ao62 t304.length co62)) (fun _ hk=>hk.2) (.int .i64 t307)) (fun _ hk=>⟨hk.1.1,⟨hk.1.2.1,hk.1.2.2⟩⟩)⟩
            have n1_:Aside0 (Kd.V k53 53 ((w61.setCell ⟨gb309,0,none⟩ (.slice Ao62 t304.length co62)).setCell ⟨gb309,1,none⟩ (.int .i64 t307)) w.heap.size (fun k_=>((P0_ k_∨P1_ k_)∨w.heap.size≤k_)∧some k_≠(u9:Value).ownBlock∧k_≠gb309) (.slice (some ad282) x1_1.length co55) x1_1):=⟨by (with_reducible repeat (first|apply Kd.V_alloc|apply Kd.V_drewN|apply Kd.V_drew));exact Kd.V_mono (Kd.V_far (p:=⟨gb309,1,none⟩) (Kd.V_far (p:=⟨gb309,0,none⟩) (Kd.V_mono HO_1.out (fun k_ hk=>(⟨hk,hk.2.2⟩:_∧k_≠gb309))) (fun _ hk=>hk.2) (.slice Ao62 t304.length co62)) (fun _ hk=>hk.2) (.int .i64 t307)) (fun _ hk=>⟨hk.1.1,⟨hk.1.2.1,hk.1.2.2⟩⟩)⟩
            have n2_:Aside0 (Kd.N k53 53 ((w61.setCell ⟨gb309,0,none⟩ (.slice Ao62 t304.length co62)).setCell ⟨gb309,1,none⟩ (.int .i64 t307)) w.heap.size (fun k_=>((P0_ k_∨P1_ k_)∨w.heap.size≤k_)∧k_≠gb309) u9 x9_1):=⟨by (with_reducible repeat (first|apply Kd.N_alloc|apply Kd.N_drewN|apply Kd.N_drew));exact Kd.N_mono (Kd.N_far (p:=⟨gb309,1,none⟩) (Kd.N_far (p:=⟨gb309,0,none⟩) (Kd.N_mono HO_9.out (fun k_ hk=>(⟨hk,hk.2⟩:_∧k_≠gb309))) (fun _ hk=>hk.2) (.slice Ao62 t304.length co62)) (fun _ hk=>hk.2) (.int .i64 t307)) (fun _ hk=>⟨hk.1.1,hk.1.2⟩)⟩
            have n3_:Aside0 (Kd.V (Kd.int .i64) 3 ((w61.setCell ⟨gb309,0,none⟩ (.slice Ao62 t304.length co62)).setCell ⟨gb309,1,none⟩ (.int .i64 t307)) w.heap.size (fun k_=>((P0_ k_∨P1_ k_)∨w.heap.size≤k_)∧some k_≠(u9:Value).ownBlock∧k_≠gb309) (.slice A281_0 ((rd_T53 x0_1 0).f0).length c281_0) ((rd_T53 x0_1 0).f0)):=⟨by (with_reducible repeat (first|apply Kd.V_alloc|apply Kd.V_drewN|apply Kd.V_drew));exact Kd.V_mono (Kd.V_far (p:=⟨gb309,1,none⟩) (Kd.V_far (p:=⟨gb309,0,none⟩) (Kd.V_mono HL281_0.out (fun k_ hk=>(⟨hk,hk.2.2⟩:_∧k_≠gb309))) (fun _ hk=>hk.2) (.slice Ao62 t304.length co62)) (fun _ hk=>hk.2) (.int .i64 t307)) (fun _ hk=>⟨hk.1.1,⟨hk.1.2.1,hk.1.2.2⟩⟩)⟩
            have n4_:Aside0 (Kd.V (Kd.int .i64) 3 ((w61.setCell ⟨gb309,0,none⟩ (.slice Ao62 t304.length co62)).setCell ⟨gb309,1,none⟩ (.int .i64 t307)) w.heap.size (fun k_=>((P0_ k_∨P1_ k_)∨w.heap.size≤k_)∧some k_≠(u9:Value).ownBlock∧k_≠gb309) (.slice A282_0 ((rd_T53 x1_1 0).f0).length c282_0) ((rd_T53 x1_1 0).f0)):=⟨by (with_reducible repeat (first|apply Kd.V_alloc|apply Kd.V_drewN|apply Kd.V_drew));exact Kd.V_mono (Kd.V_far (p:=⟨gb309,1,none⟩) (Kd.V_far (p:=⟨gb309,0,none⟩) (Kd.V_mono HL282_0.out (fun k_ hk=>(⟨hk,hk.2.2⟩:_∧k_≠gb309))) (fun _ hk=>hk.2) (.slice Ao62 t304.length co62)) (fun _ hk=>hk.2) (.int .i64 t307)) (fun _ hk=>⟨hk.1.1,⟨hk.1.2.1,hk.1.2.2⟩⟩)⟩
            have n5_:Aside0 (Kd.V (Kd.int .i64) 3 ((w61.setCell ⟨gb309,0,none⟩ (.slice Ao62 t304.length co62)).setCell ⟨gb309,1,none⟩ (.int .i64 t307)) w.heap.size (fun k_=>((P0_ k_∨P1_ k_)∨w.heap.size≤k_)∧some k_≠(u9:Value).ownBlock∧k_≠gb309) (.slice A302_0 ((rd_T53 x0_1 0).f0).length c302_0) ((rd_T53 x0_1 0).f0)):=⟨by (with_reducible repeat (first|apply Kd.V_alloc|apply Kd.V_drewN|apply Kd.V_drew));exact Kd.V_mono (Kd.V_far (p:=⟨gb309,1,none⟩) (Kd.V_far (p:=⟨gb309,0,none⟩) (Kd.V_mono HL302_0.out (fun k_ hk=>(⟨hk,hk.2.2⟩:_∧k_≠gb309))) (fun _ hk=>hk.2) (.slice Ao62 t304.length co62)) (fun _ hk=>hk.2) (.int .i64 t307)) (fun _ hk=>⟨hk.1.1,⟨hk.1.2.1,hk.1.2.2⟩⟩)⟩
            have n6_:Aside0 (Kd.V (Kd.int .i64) 3 ((w61.setCell ⟨gb309,0,none⟩ (.slice Ao62 t304.length co62)).setCell ⟨gb309,1,none⟩ (.int .i64 t307)) w.heap.size (fun k_=>((P0_ k_∨P1_ k_)∨w.heap.size≤k_)∧some k_≠(u9:Value).ownBlock∧k_≠gb309) (.slice A303_0 ((rd_T53 x1_1 0).f0).length c303_0) ((rd_T53 x1_1 0).f0)):=⟨by (with_reducible repeat (first|apply Kd.V_alloc|apply Kd.V_drewN|apply Kd.V_drew));exact Kd.V_mono (Kd.V_far (p:=⟨gb309,1,none⟩) (Kd.V_far (p:=⟨gb309,0,none⟩) (Kd.V_mono HL303_0.out (fun k_ hk=>(⟨hk,hk.2.2⟩:_∧k_≠gb309))) (fun _ hk=>hk.2) (.slice Ao62 t304.length co62)) (fun _ hk=>hk.2) (.int .i64 t307)) (fun _ hk=>⟨hk.1.1,⟨hk.1.2.1,hk.1.2.2⟩⟩)⟩
            have n7_:Aside0 (Kd.V (Kd.int .i64) 3 ((w61.setCell ⟨gb309,0,none⟩ (.slice Ao62 t304.length co62)).setCell ⟨gb309,1,none⟩ (.int .i64 t307)) w.heap.size (fun k_=>((P0_ k_∨P1_ k_)∨w.heap.size≤k_)∧some k_≠(u9:Value).ownBlock∧k_≠gb309) (.slice Ao62 t304.length co62) t304):=⟨by (with_reducible repeat (first|apply Kd.V_alloc|apply Kd.V_drewN|apply Kd.V_drew));exact Kd.V_mono (Kd.V_far (p:=⟨gb309,1,none⟩) (Kd.V_far (p:=⟨gb309,0,none⟩) (Kd.V_mono HO306.out (fun k_ hk=>(⟨hk,hk.2.2⟩:_∧k_≠gb309))) (fun _ hk=>hk.2) (.slice Ao62 t304.length co62)) (fun _ hk=>hk.2) (.int .i64 t307)) (fun _ hk=>⟨hk.1.1,⟨hk.1.2.1,hk.1.2.2⟩⟩)⟩
            have n8_:Aside0 (((w61.setCell ⟨gb309,0,none⟩ (.slice Ao62 t304.length co62)).setCell ⟨gb309,1,none⟩ (.int .i64 t307)).heap[gb309]?=some (.cells #[.slice Ao62 t304.length co62,.int .i64 t307] 53 (0,0))):=⟨by (with_reducible repeat (first|refine blk_drewN ?_ _|refine blk_drew ?_|refine blk_alloc ?_ _));refine blk_put (cs:=#[.slice Ao62 t304.length co62,.int .i64 0]) ?_ 1 _ rfl;(with_reducible repeat (first|refine blk_drewN ?_ _|refine blk_drew ?_|refine blk_alloc ?_ _));refine blk_put (cs:=#[.slice none 0 0,.int .i64 0]) ?_ 0 _ rfl;(with_reducible repeat (first|refine blk_drewN ?_ _|refine blk_drew ?_|refine blk_alloc ?_ _));exact BK309.out⟩
            have n9_:Aside0 (Below w.heap.size w ((w61.setCell ⟨gb309,0,none⟩ (.slice Ao62 t304.length co62)).setCell ⟨gb309,1,none⟩ (.int .i64 t307))):=⟨by repeat (first|(with_reducible first|exact HB.out|apply below_alloc|apply pw_below_drewN|apply below_drew1|refine below_set ?_ GE309.out)|exact HB.out)⟩
            (try clear HO_0)
            (try clear HO_1)
            (try clear HO_9)
            (try clear HL281_0)
            (try clear HL282_0)
            (try clear HL302_0)
            (try clear HL303_0)
            (try clear HO306)
            (try clear BK309)
            (try clear HB)
            generalize ((w61.setCell ⟨gb309,0,none⟩ (.slice Ao62 t304.length co62)).setCell ⟨gb309,1,none⟩ (.int .i64 t307))=w65 at n0_ n1_ n2_ n3_ n4_ n5_ n6_ n7_ n8_ n9_ ⊢
            have HO_0:=n0_
            have HO_1:=n1_
            have HO_9:=n2_
            have HL281_0:=n3_
            have HL282_0:=n4_
            have HL302_0:=n5_
            have HL303_0:=n6_
            have HO306:=n7_
            have BK309:=n8_
            have HB:=n9_
            clear n0_ n1_ n2_ n3_ n4_ n5_ n6_ n7_ n8_ n9_
            have n0_:=Aside0.mk (Kd.V_drew HO_0.out)
            have n1_:=Aside0.mk (Kd.V_drew HO_1.out)
            have n2_:=Aside0.mk (Kd.N_drew HO_9.out)
            have n3_:=Aside0.mk (Kd.V_drew HL281_0.out)
            have n4_:=Aside0.mk (Kd.V_drew HL282_0.out)
            have n5_:=Aside0.mk (Kd.V_drew HL302_0.out)
            have n6_:=Aside0.mk (Kd.V_drew HL303_0.out)
            have n7_:=Aside0.mk (Kd.V_drew HO306.out)
            have n8_:=Aside0.mk (blk_drew BK309.out)
            have n9_:=Aside0.mk (below_drew1 HB.out)
            clear HO_0
            clear HO_1
            clear HO_9
            clear HL281_0
            clear HL282_0
            clear HL302_0
            clear HL303_0
            clear HO306
            clear BK309
            clear HB
            have HO_0:=n0_
            have HO_1:=n1_
            have HO_9:=n2_
            have HL281_0:=n3_
            have HL282_0:=n4_
            have HL302_0:=n5_
            have HL303_0:=n6_
            have HO306:=n7_
            have BK309:=n8_
            have HB:=n9_
            clear n0_ n1_ n2_ n3_ n4_ n5_ n6_ n7_ n8_ n9_
            have q67:(1:Int)≤((x0_1.length:Int):Int):=zod
            obtain ⟨i067,hi067,_,hsz67,_⟩:=info_parts info53
            have hroom67:x0_1.length≤co54:=(Kd.V_reads' HO_0.out).2.1
            have hC67:Kd.F k53 _ _ (some ad281) x0_1.length x0_1:=(Kd.V_at (base:=w.heap.size) HO_0.out).2.2
            have hcut67:=cut_from (P:=Tryd.prog) 22 53 .i64 Tryd.underlying22 hi067 2 hsz67 (some ad281) x0_1.length co54 1 (by omega) q67
            have hr67:=Kd.F_cut (m:=(1:Int).toNat) (c:=co54) hC67 (by omega) hroom67
            obtain ⟨A67,hA67⟩ : ∃ A1,A1=(if co54=(1:Int).toNat then (some ad281) else ((some ad281):Option Addr).map (·.add ((1:Int).toNat * 2))):=⟨_,rfl⟩
            obtain ⟨c67,hc67⟩ : ∃ c1,c1=co54 - (1:Int).toNat:=⟨_,rfl⟩
            have hy67:y323.length=x0_1.length - (1:Int).toNat:=(by rw [Ny323.out,List.length_drop] <;> omega)
            rw [show (x0_1).drop (1:Int).toNat=y323 from Ny323.out.symm] at hr67
            replace hr67:Kd.F k53 _ _ A67 y323.length y323:=(by rw [hA67];exact hr67)
            rw [← hy67,← hA67,← hc67] at hcut67
            have HO327:=Aside0.mk (show Kd.V k53 53 _ w.heap.size _ (.slice A67 y323.length c67) y323 from Kd.V_mk (by rw [hy67,hc67];exact Nat.sub_le_sub_right hroom67 _) hr67)
            have HC327:=Aside0.mk (show y323.length≤c67 from by rw [hy67,hc67];exact Nat.sub_le_sub_right hroom67 _)
            clear hr67 hC67 hroom67 hi067 hsz67 hc67
            have KY67:=Aside0.mk hy67
            have KA67:=Aside0.mk hA67
            clear hy67 hA67
            replace q67:=eq_true q67
            have q68:(1:Int)≤((x1_1.length:Int):Int):=zod
            obtain ⟨i068,hi068,_,hsz68,_⟩:=info_parts info53
            have hroom68:x1_1.length≤co55:=(Kd.V_reads' HO_1.out).2.1
            have hC68:Kd.F k53 _ _ (some ad282) x1_1.length x1_1:=(Kd.V_at (base:=w.heap.size) HO_1.out).2.2
            have hcut68:=cut_from (P:=Tryd.prog) 22 53 .i64 Tryd.underlying22 hi068 2 hsz68 (some ad282) x1_1.length co55 1 (by omega) q68
            have hr68:=Kd.F_cut (m:=(1:Int).toNat) (c:=co55) hC68 (by omega) hroom68
            obtain ⟨A68,hA68⟩ : ∃ A1,A1=(if co55=(1:Int).toNat then (some ad282) else ((some ad282):Option Addr).map (·.add ((1:Int).toNat * 2))):=⟨_,rfl⟩
            obtain ⟨c68,hc68⟩ : ∃ c1,c1=co55 - (1:Int).toNat:=⟨_,rfl⟩
            have hy68:y328.length=x1_1.length - (1:Int).toNat:=(by rw [Ny328.out,List.length_drop] <;> omega)
            rw [show (x1_1).drop (1:Int).toNat=y328 from Ny328.out.symm] at hr68
            replace hr68:Kd.F k53 _ _ A68 y328.length y328:=(by rw [hA68];exact hr68)
            rw [← hy68,← hA68,← hc68] at hcut68
            have HO332:=Aside0.mk (show Kd.V k53 53 _ w.heap.size _ (.slice A68 y328.length c68) y328 from Kd.V_mk (by rw [hy68,hc68];exact Nat.sub_le_sub_right hroom68 _) hr68)
            have HC332:=Aside0.mk (show y328.length≤c68 from by rw [hy68,hc68];exact Nat.sub_le_sub_right hroom68 _)
            clear hr68 hC68 hroom68 hi068 hsz68 hc68
            have KY68:=Aside0.mk hy68
            have KA68:=Aside0.mk hA68
            clear hy68 hA68
            replace q68:=eq_true q68
            refine start_ (n:=6) (S:=fun w'=>True) (ds:=[]) #[X,X,X,X,X,X] (by kernel_rfl) rfl rfl trivial (fun hHeld=>?_)
            generalize w65.drew=w66 at HO_0 HO_1 HO_9 HL281_0 HL282_0 HL302_0 HL303_0 HO306 BK309 HB HO327 HO332 hHeld ⊢
            refine pure_ (i:=0) (N:=some 45) (v:=?_) (a':=?_) #[Y,X,X,X,X,X] rfl rfl (by kernel_rfl) (fun _ _ _ h=>h) (Or.inl ⟨by rfl,?_⟩) ?_ ?_
            rotate_left
            ·intro w'
             go_simp
             with_reducible rfl
            rotate_left
            ·simp only [Act.put,zp1,zp2,zp3,i64_w,i32_w]
             rfl
            refine pure_ (i:=1) (N:=some 46) (v:=?_) (a':=?_) #[Y,Y,X,X,X,X] rfl rfl (by kernel_rfl) (fun _ _ _ h=>h) (Or.inl ⟨by rfl,?_⟩) ?_ ?_
            rotate_left
            ·intro w'
             go_simp
             with_reducible rfl
            rotate_left
            ·simp only [Act.put,zp1,zp2,zp3,i64_w,i32_w]
             rfl
            refine pure_ (i:=2) (N:=some 47) (v:=?_) (a':=?_) #[Y,Y,Y,X,X,X] rfl rfl (by kernel_rfl) (fun _ _ _ h=>h) (Or.inl ⟨by rfl,?_⟩) ?_ ?_
            rotate_left
            ·intro w'
             go_simp
             with_reducible rfl
            rotate_left
            ·simp only [Act.put,zp1,zp2,zp3,i64_w,i32_w]
             rfl
            refine pure_ (i:=3) (N:=some 48) (v:=?_) (a':=?_) #[Y,Y,Y,Y,X,X] rfl rfl (by kernel_rfl) (fun _ _ _ h=>h) (Or.inl ⟨by rfl,?_⟩) ?_ ?_
            rotate_left
            ·intro w'
             go_simp
             with_reducible rfl
            rotate_left
            ·simp only [Act.put,zp1,zp2,zp3,i64_w,i32_w]
             rfl
            refine pure_ (i:=4) (N:=some 0) (v:=?_) (a':=?_) #[Y,Y,Y,Y,Y,X] rfl rfl (by kernel_rfl) (fun _ _ _ h=>h) (Or.inl ⟨by rfl,?_⟩) ?_ ?_
            rotate_left
            ·intro w'
             go_simp
             with_reducible rfl
            rotate_left
            ·simp only [Act.put,zp1,zp2,zp3,i64_w,i32_w]
             rfl
            refine pure_ (i:=5) (N:=some 1) (v:=?_) (a':=?_) #[Y,Y,Y,Y,Y,Y] rfl rfl (by kernel_rfl) (fun _ _ _ h=>h) (Or.inl ⟨by rfl,?_⟩) ?_ ?_
            rotate_left
            ·intro w'
             go_simp
             with_reducible rfl
            rotate_left
            ·simp only [Act.put,zp1,zp2,zp3,i64_w,i32_w]
             rfl
            refine done_ (by kernel_rfl) ?_
            try go_wp2
            go_roundg k1
            case measure=>have:=HK1.out;omega
            case rel=>exact ⟨(y323),(y328),(x9_1),H',⟨by have:=HK1.out;omega⟩,⟨by (with_reducible repeat (first|apply Kd.V_alloc|apply Kd.V_drewN|apply Kd.V_drew));exact Kd.V_mono HO327.out (fun _ hk=>⟨hk.1,hk.2.1⟩)⟩,⟨by (with_reducible repeat (first|apply Kd.V_alloc|apply Kd.V_drewN|apply Kd.V_drew));exact Kd.V_mono HO332.out (fun _ hk=>⟨hk.1,hk.2.1⟩)⟩,⟨by (with_reducible repeat (first|apply Kd.N_alloc|apply Kd.N_drewN|apply Kd.N_drew));exact Kd.N_mono HO_9.out (fun _ hk=>hk.1)⟩,⟨by repeat (first|(with_reducible first|exact HB.out|apply below_alloc|apply pw_below_drewN|apply below_drew1|refine below_set ?_ GE309.out)|exact HB.out)⟩⟩
           ·rw [if_neg c53] at H
            exact absurd H (by simp)
          ·rw [if_neg c52] at H
           exact absurd H (by simp)
      ·rw [if_neg c8] at H
       exact absurd H (by simp)
     ·rw [if_neg c7] at H
      exact absurd H (by simp)
    ·rw [if_neg c6] at H
     have c6b0:decide (0 < (x1_1.length:Int))=false:=decide_eq_false c6
     have c6b1:decide (0 < x1_1.length)=false:=decide_eq_false (by omega)
     clear c6
     by_cases c69:x9_1.length + x0_1.length < 4398046511104
     ·rw [if_pos c69] at H
      have LMc69:=Aside0.mk c69
      clear c69
      obtain ⟨y333,hy333⟩ : ∃ y_:List (S53),y_=(x9_1 ++ x0_1):=⟨_,rfl⟩
      replace H:(if y333.length + x1_1.length < 4398046511104 then (some (y333 ++ x1_1)) else (none))=some r:=by first|(rw [hy333];with_reducible exact H)|(have H2_:=(Option.bind_some _ _).symm.trans H;rw [hy333];with_reducible exact H2_)|(have H2_:=(Option.bind_some _ _).symm.trans H;with_reducible exact H2_)|with_reducible exact H|(rw [hy333];exact H)|exact H
      have Ny333:=Aside0.mk hy333
      clear hy333
      by_cases c70:y333.length + x1_1.length < 4398046511104
      ·rw [if_pos c70] at H
       have LMc70:=Aside0.mk c70
       clear c70
       obtain ⟨y336,hy336⟩ : ∃ y_:List (S53),y_=(y333 ++ x1_1):=⟨_,rfl⟩
       replace H:(some y336)=some r:=by first|(rw [hy336];with_reducible exact H)|(have H2_:=(Option.bind_some _ _).symm.trans H;rw [hy336];with_reducible exact H2_)|(have H2_:=(Option.bind_some _ _).symm.trans H;with_reducible exact H2_)|with_reducible exact H|(rw [hy336];exact H)|exact H
       have Ny336:=Aside0.mk hy336
       clear hy336
       obtain rfl:=Option.some.inj H
       obtain ⟨Ao71,co71,eo71⟩:=Kd.V_slice HO_0.out
       subst eo71
       obtain ⟨Ao72,co72,eo72⟩:=Kd.V_slice HO_1.out
       subst eo72
       go_wp2_with (first|((with_reducible refine gate_builtin (b:=.append) (xs:=#[.tmp 71,.tmp 72]) rfl ?_);(try (refine gate_guard (by rfl) ?_;dsimp only));at_builtin;refine Kd.N_append_rows k53 (w0:=w) w.heap.size rfl (.tmp 71) (.tmp 72) 22 53 (.agg #[(.slice none 0 0),(.int .i64 0)]) 32 rfl Tryd.underlying22 info53 rfl (by decide) (by omega) u9 x9_1 x0_1 _ _ _ (fun k_=>((P0_ k_∨P1_ k_)∨w.heap.size≤k_)) (fun k_=>((fun k_=>((P0_ k_∨P1_ k_)∨w.heap.size≤k_))) k_∧some k_≠(u9:Value).ownBlock) rfl rfl ?aO ?aR (fun _ hk=>hk) ?aF ?aB ?aS ?aL ?_;(case aR=>exact (by skip;exact Kd.V_F (Kd.V_mono (ok':=(fun k_=>((fun k_=>((P0_ k_∨P1_ k_)∨w.heap.size≤k_))) k_∧some k_≠(u9:Value).ownBlock)) (HO_0.out) (fun k_ hk=>⟨hk.1,hk.2⟩))));(case aB=>exact zhb);(case aF=>exact (fun k_ hk=>(.inr (Nat.le_trans (below_size zhb) hk))));(case aO=>exact (zN HO_9.out));(case aS=>exact (below_size zhb));(case aL=>have:=LMc69.out;omega);intro v334 w73 ho hb hg hat;rw [← Ny333.out] at ho;have n0_:=Aside0.mk (Kd.V_afterv (ok:=(fun k_=>((P0_ k_∨P1_ k_)∨w.heap.size≤k_))) (zV HO_0.out) hg hat);have n1_:=Aside0.mk (Kd.V_afterv (ok:=(fun k_=>((P0_ k_∨P1_ k_)∨w.heap.size≤k_))) (zV HO_1.out) hg hat);have n2_:=Aside0.mk (hb);have n3_:=Aside0.mk (ho);clear HO_0;clear HO_1;clear HB;clear HO_9;have HO_0:=n0_;have HO_1:=n1_;have HB:=n2_;have HO335:=n3_;clear n0_ n1_ n2_ n3_;clear ho hb hg hat)|((with_reducible refine gate_builtin (b:=.append) (xs:=#[.tmp 73,.tmp 74]) rfl ?_);(try (refine gate_guard (by rfl) ?_;dsimp only));at_builtin;refine Kd.N_append_rows k53 (w0:=w) w.heap.size rfl (.tmp 73) (.tmp 74) 22 53 (.agg #[(.slice none 0 0),(.int .i64 0)]) 32 rfl Tryd.underlying22 info53 rfl (by decide) (by omega) v334 y333 x1_1 _ _ _ (fun k_=>((P0_ k_∨P1_ k_)∨w.heap.size≤k_)) (fun k_=>((fun k_=>((P0_ k_∨P1_ k_)∨w.heap.size≤k_))) k_∧some k_≠(v334:Value).ownBlock) rfl rfl ?aO ?aR (fun _ hk=>hk) ?aF ?aB ?aS ?aL ?_;(case aR=>exact (by skip;exact Kd.V_F (Kd.V_mono (ok':=(fun k_=>((fun k_=>((P0_ k_∨P1_ k_)∨w.heap.size≤k_))) k_∧some k_≠(v334:Value).ownBlock)) (HO_1.out) (fun k_ hk=>⟨hk.1,hk.2⟩))));(case aB=>exact zhb);(case aF=>exact (fun k_ hk=>(.inr (Nat.le_trans (below_size zhb) hk))));(case aO=>exact (zN HO335.out));(case aS=>exact (below_size zhb));(case aL=>have:=LMc70.out;omega);intro v337 w74 ho hb hg hat;rw [← Ny336.out] at ho;have n0_:=Aside0.mk (Kd.V_afterv (ok:=(fun k_=>((P0_ k_∨P1_ k_)∨w.heap.size≤k_))) (zV HO_0.out) hg hat);have n1_:=Aside0.mk (Kd.V_afterv (ok:=(fun k_=>((P0_ k_∨P1_ k_)∨w.heap.size≤k_))) (zV HO_1.out) hg hat);have n2_:=Aside0.mk (hb);have n3_:=Aside0.mk (ho);clear HO_0;clear HO_1;clear HB;clear HO335;have HO_0:=n0_;have HO_1:=n1_;have HB:=n2_;have HO338:=n3_;clear n0_ n1_ n2_ n3_;clear ho hb hg hat))
       go_ret
       exact ⟨_,by first|rfl|(simp [errW_none,errW_some] <;> rfl)|(simp [*,errW_none,errW_some] <;> rfl),by (with_reducible repeat (first|apply Kd.N_alloc|apply Kd.N_drewN|apply Kd.N_drew));exact HO338.out,zhb⟩
      ·rw [if_neg c70] at H
       exact absurd H (by simp)
     ·rw [if_neg c69] at H
      exact absurd H (by simp)
   ·rw [if_neg c5] at H
    have c5b0:decide (0 < (x0_1.length:Int))=false:=decide_eq_false c5
    have c5b1:decide (0 < x0_1.length)=false:=decide_eq_false (by omega)
    clear c5
    by_cases c75:x9_1.length + x0_1.length < 4398046511104
    ·rw [if_pos c75] at H
     have LMc75:=Aside0.mk c75
     clear c75
     obtain ⟨y339,hy339⟩ : ∃ y_:List (S53),y_=(x9_1 ++ x0_1):=⟨_,rfl⟩
     replace H:(if y339.length + x1_1.length < 4398046511104 then (some (y339 ++ x1_1)) else (none))=some r:=by first|(rw [hy339];with_reducible exact H)|(have H2_:=(Option.bind_some _ _).symm.trans H;rw [hy339];with_reducible exact H2_)|(have H2_:=(Option.bind_some _ _).symm.trans H;with_reducible exact H2_)|with_reducible exact H|(rw [hy339];exact H)|exact H
     have Ny339:=Aside0.mk hy339
     clear hy339
     by_cases c76:y339.length + x1_1.length < 4398046511104
     ·rw [if_pos c76] at H
      have LMc76:=Aside0.mk c76
      clear c76
      obtain ⟨y342,hy342⟩ : ∃ y_:List (S53),y_=(y339 ++ x1_1):=⟨_,rfl⟩
      replace H:(some y342)=some r:=by first|(rw [hy342];with_reducible exact H)|(have H2_:=(Option.bind_some _ _).symm.trans H;rw [hy342];with_reducible exact H2_)|(have H2_:=(Option.bind_some _ _).symm.trans H;with_reducible exact H2_)|with_reducible exact H|(rw [hy342];exact H)|exact H
      have Ny342:=Aside0.mk hy342
      clear hy342
      obtain rfl:=Option.some.inj H
      obtain ⟨Ao77,co77,eo77⟩:=Kd.V_slice HO_0.out
      subst eo77
      go_wp2_with (first|((with_reducible refine gate_builtin (b:=.append) (xs:=#[.tmp 71,.tmp 72]) rfl ?_);(try (refine gate_guard (by rfl) ?_;dsimp only));at_builtin;refine Kd.N_append_rows k53 (w0:=w) w.heap.size rfl (.tmp 71) (.tmp 72) 22 53 (.agg #[(.slice none 0 0),(.int .i64 0)]) 32 rfl Tryd.underlying22 info53 rfl (by decide) (by omega) u9 x9_1 x0_1 _ _ _ (fun k_=>((P0_ k_∨P1_ k_)∨w.heap.size≤k_)) (fun k_=>((fun k_=>((P0_ k_∨P1_ k_)∨w.heap.size≤k_))) k_∧some k_≠(u9:Value).ownBlock) rfl rfl ?aO ?aR (fun _ hk=>hk) ?aF ?aB ?aS ?aL ?_;(case aR=>exact (by skip;exact Kd.V_F (Kd.V_mono (ok':=(fun k_=>((fun k_=>((P0_ k_∨P1_ k_)∨w.heap.size≤k_))) k_∧some k_≠(u9:Value).ownBlock)) (HO_0.out) (fun k_ hk=>⟨hk.1,hk.2⟩))));(case aB=>exact zhb);(case aF=>exact (fun k_ hk=>(.inr (Nat.le_trans (below_size zhb) hk))));(case aO=>exact (zN HO_9.out));(case aS=>exact (below_size zhb));(case aL=>have:=LMc75.out;omega);intro v340 w78 ho hb hg hat;rw [← Ny339.out] at ho;have n0_:=Aside0.mk (Kd.V_afterv (ok:=(fun k_=>((P0_ k_∨P1_ k_)∨w.heap.size≤k_))) (zV HO_0.out) hg hat);have n1_:=Aside0.mk (Kd.V_afterv (ok:=(fun k_=>((P0_ k_∨P1_ k_)∨w.heap.size≤k_))) (zV HO_1.out) hg hat);have n2_:=Aside0.mk (hb);have n3_:=Aside0.mk (ho);clear HO_0;clear HO_1;clear HB;clear HO_9;have HO_0:=n0_;have HO_1:=n1_;have HB:=n2_;have HO341:=n3_;clear n0_ n1_ n2_ n3_;clear ho hb hg hat;obtain ⟨Ao80,co80,eo80⟩:=Kd.V_slice HO_1.out;subst eo80)|((with_reducible refine gate_builtin (b:=.append) (xs:=#[.tmp 73,.tmp 74]) rfl ?_);(try (refine gate_guard (by rfl) ?_;dsimp only));at_builtin;refine Kd.N_append_rows k53 (w0:=w) w.heap.size rfl (.tmp 73) (.tmp 74) 22 53 (.agg #[(.slice none 0 0),(.int .i64 0)]) 32 rfl Tryd.underlying22 info53 rfl (by decide) (by omega) v340 y339 x1_1 _ _ _ (fun k_=>((P0_ k_∨P1_ k_)∨w.heap.size≤k_)) (fun k_=>((fun k_=>((P0_ k_∨P1_ k_)∨w.heap.size≤k_))) k_∧some k_≠(v340:Value).ownBlock) rfl rfl ?aO ?aR (fun _ hk=>hk) ?aF ?aB ?aS ?aL ?_;(case aR=>exact (by skip;exact Kd.V_F (Kd.V_mono (ok':=(fun k_=>((fun k_=>((P0_ k_∨P1_ k_)∨w.heap.size≤k_))) k_∧some k_≠(v340:Value).ownBlock)) (HO_1.out) (fun k_ hk=>⟨hk.1,hk.2⟩))));(case aB=>exact zhb);(case aF=>exact (fun k_ hk=>(.inr (Nat.le_trans (below_size zhb) hk))));(case aO=>exact (zN HO341.out));(case aS=>exact (below_size zhb));(case aL=>have:=LMc76.out;omega);intro v343 w79 ho hb hg hat;rw [← Ny342.out] at ho;have n0_:=Aside0.mk (Kd.V_afterv (ok:=(fun k_=>((P0_ k_∨P1_ k_)∨w.heap.size≤k_))) (zV HO_0.out) hg hat);have n1_:=Aside0.mk (Kd.V_afterv (ok:=(fun k_=>((P0_ k_∨P1_ k_)∨w.heap.size≤k_))) (zV HO_1.out) hg hat);have n2_:=Aside0.mk (hb);have n3_:=Aside0.mk (ho);clear HO_0;clear HO_1;clear HB;clear HO341;have HO_0:=n0_;have HO_1:=n1_;have HB:=n2_;have HO344:=n3_;clear n0_ n1_ n2_ n3_;clear ho hb hg hat))
      go_ret
      exact ⟨_,by first|rfl|(simp [errW_none,errW_some] <;> rfl)|(simp [*,errW_none,errW_some] <;> rfl),by (with_reducible repeat (first|apply Kd.N_alloc|apply Kd.N_drewN|apply Kd.N_drew));exact HO344.out,zhb⟩
     ·rw [if_neg c76] at H
      exact absurd H (by simp)
    ·rw [if_neg c75] at H
     exact absurd H (by simp)

end Go.Proofs.YtgcplipimcbhlaaDoor.PFnZOrder
