-- Written by wip/tools/pp.py, a program of this session over the kit's printer: not the kit's own print
import Derived.Test.YtgcplipimcbhlaaGreatDoorPFnZReadx0
import Derived.Test.YtgcplipimcbhlaaGreatDoorPFnZReadx10
namespace Go.Proofs.YtgcplipimcbhlaaGreatDoor.PFnZRead
open Go.RowKit Go.Proofs.YtgcplipimcbhlaaGreatDoorW.PrintWords Go.Proofs.YtgcplipimcbhlaaGreatDoorW.PrintLast Go.Proofs.YtgcplipimcbhlaaGreatDoorW.PrintMore
attribute [local go_sem] max2_int min2_int max_two min_two max_three min_three max_four min_four   -- for this text's walks alone
set_option linter.unusedVariables false
set_option linter.unusedSimpArgs false

/-! ### impl_merged_impl_Item__impl_cmpItem_impl_together_1: function 63 -/
def impl_merged_impl_Item__impl_cmpItem_impl_together_1.l0:Nat→List (S33)→List (S33)→List (S33)→Option ((List (S33)))
 | 0,_,_,_=>none
 | k + 1,x0,x1,x9=>if (x0.length:Int) > 0 then (if (x1.length:Int) > 0 then (if 0 < (x0.length:Int) then (if 0 < (x1.length:Int) then ((impl_cmpItem.f k ((rd_T33 x0 0).f0) ((rd_T33 x0 0).f1) ((rd_T33 x1 0).f0) ((rd_T33 x1 0).f1)).bind fun t259=>(if t259 < 0 then (if x9.length < 4398046511104 then (if 1≤(x0.length:Int) then (impl_merged_impl_Item__impl_cmpItem_impl_together_1.l0 k (x0.drop 1) x1 (x9 ++ [(⟨(rd_T33 x0 0).f0,(rd_T33 x0 0).f1⟩:S33)])) else (none)) else (none)) else (if t259 > 0 then (if x9.length < 4398046511104 then (if 1≤(x1.length:Int) then (impl_merged_impl_Item__impl_cmpItem_impl_together_1.l0 k x0 (x1.drop 1) (x9 ++ [(⟨(rd_T33 x1 0).f0,(rd_T33 x1 0).f1⟩:S33)])) else (none)) else (none)) else ((impl_together_1.f ((rd_T33 x0 0).f0) ((rd_T33 x0 0).f1) ((rd_T33 x1 0).f0) ((rd_T33 x1 0).f1)).bind fun bt280=>(if bt280.2.2=true then (if x9.length < 4398046511104 then (if 1≤(x0.length:Int) then (if 1≤(x1.length:Int) then (impl_merged_impl_Item__impl_cmpItem_impl_together_1.l0 k (x0.drop 1) (x1.drop 1) (x9 ++ [(⟨bt280.1,bt280.2.1⟩:S33)])) else (none)) else (none)) else (none)) else (if 1≤(x0.length:Int) then (if 1≤(x1.length:Int) then (impl_merged_impl_Item__impl_cmpItem_impl_together_1.l0 k (x0.drop 1) (x1.drop 1) x9) else (none)) else (none))))))) else (none)) else (none)) else (if x9.length + x0.length < 4398046511104 then ((some (x9 ++ x0:List (S33))).bind fun y309=>(if y309.length + x1.length < 4398046511104 then (some (y309 ++ x1)) else (none))) else (none))) else (if x9.length + x0.length < 4398046511104 then ((some (x9 ++ x0:List (S33))).bind fun y315=>(if y315.length + x1.length < 4398046511104 then (some (y315 ++ x1)) else (none))) else (none))
def impl_merged_impl_Item__impl_cmpItem_impl_together_1.f (k:Nat) (l0:List (S33)) (l1:List (S33))  :Option ((List (S33))):=impl_merged_impl_Item__impl_cmpItem_impl_together_1.l0 k l0 l1 ([]:List (S33))
theorem impl_merged_impl_Item__impl_cmpItem_impl_together_1.mono_l : ∀ k,(∀ y0 y1 y2,LeO (impl_merged_impl_Item__impl_cmpItem_impl_together_1.l0 k y0 y1 y2) (impl_merged_impl_Item__impl_cmpItem_impl_together_1.l0 (k + 1) y0 y1 y2))
 | 0=>fun _ _ _ r h=>by simp [impl_merged_impl_Item__impl_cmpItem_impl_together_1.l0] at h
 | k + 1=>by
  have ih0:=impl_merged_impl_Item__impl_cmpItem_impl_together_1.mono_l k
  ·intro y0 y1 y2
   unfold impl_merged_impl_Item__impl_cmpItem_impl_together_1.l0
   repeat' first
   | (with_reducible exact ih0 _ _ _)
   | (with_reducible exact impl_cmpItem.mono _ _ _ _ _)
   | (with_reducible exact LeO.refl _)
   | (with_reducible exact LeO.none _)
   | (with_reducible refine LeO.ite ?_ ?_)
   | (with_reducible refine LeO.bind ?_ (fun _=>?_))
   | exact LeO.none _
   | refine LeO.ite ?_ ?_
   | refine LeO.bind ?_ (fun _=>?_)
theorem impl_merged_impl_Item__impl_cmpItem_impl_together_1.mono : ∀ a0 a1 k,LeO (impl_merged_impl_Item__impl_cmpItem_impl_together_1.f k a0 a1) (impl_merged_impl_Item__impl_cmpItem_impl_together_1.f (k + 1) a0 a1):=by
 intro a0 a1 k
 have ih0:=impl_merged_impl_Item__impl_cmpItem_impl_together_1.mono_l k
 unfold impl_merged_impl_Item__impl_cmpItem_impl_together_1.f
 repeat' first
   | (with_reducible exact ih0 _ _ _)
   | (with_reducible exact impl_cmpItem.mono _ _ _ _ _)
   | (with_reducible exact LeO.refl _)
   | (with_reducible exact LeO.none _)
   | (with_reducible refine LeO.ite ?_ ?_)
   | (with_reducible refine LeO.bind ?_ (fun _=>?_))
   | exact LeO.none _
   | refine LeO.ite ?_ ?_
   | refine LeO.bind ?_ (fun _=>?_)
def impl_merged_impl_Item__impl_cmpItem_impl_together_1.T3:Bool × List (List Nat × List Nat):=(true,[([],[]),([],[]),([1],[1]),([2],[2]),([],[]),([4],[4]),([5],[5]),([0,3,6],[0,3,6]),([7,7,0,1,2,3,4,5,6,7],[7])])
def impl_merged_impl_Item__impl_cmpItem_impl_together_1.B3:List Nat:=[0,0,2,6,0,16,48,127,255]
theorem impl_merged_impl_Item__impl_cmpItem_impl_together_1.tab3:rtab .any (opsOf Tryz.f63 3)=impl_merged_impl_Item__impl_cmpItem_impl_together_1.T3:=by kernel_rfl
theorem impl_merged_impl_Item__impl_cmpItem_impl_together_1.bits3:waitsOk impl_merged_impl_Item__impl_cmpItem_impl_together_1.T3.2 impl_merged_impl_Item__impl_cmpItem_impl_together_1.B3=true:=by kernel_rfl
def impl_merged_impl_Item__impl_cmpItem_impl_together_1.T4:Bool × List (List Nat × List Nat):=(true,[([],[]),([],[]),([1],[1]),([2],[2]),([],[]),([4],[4]),([5],[5]),([0,3,6],[0,3,6]),([7],[7]),([8],[8]),([8],[8]),([],[]),([11,9,7,0,1,2,3,4,5,6,7,8,9,11],[9,11]),([10,12,0,1,2,3,4,5,6,7,8,9,10,11,12],[10])])
def impl_merged_impl_Item__impl_cmpItem_impl_together_1.B4:List Nat:=[0,0,2,6,0,16,48,127,255,511,511,0,3071,8191]
theorem impl_merged_impl_Item__impl_cmpItem_impl_together_1.tab4:rtab .any (opsOf Tryz.f63 4)=impl_merged_impl_Item__impl_cmpItem_impl_together_1.T4:=by kernel_rfl
theorem impl_merged_impl_Item__impl_cmpItem_impl_together_1.bits4:waitsOk impl_merged_impl_Item__impl_cmpItem_impl_together_1.T4.2 impl_merged_impl_Item__impl_cmpItem_impl_together_1.B4=true:=by kernel_rfl
def impl_merged_impl_Item__impl_cmpItem_impl_together_1.T9:Bool × List (List Nat × List Nat):=(true,[([],[]),([],[]),([1],[1]),([2],[2]),([3],[3]),([0,4],[0,4]),([],[]),([6],[6]),([5,5,0,1,2,3,4,5],[0,5]),([7,8,0,1,2,3,4,5,6,7,8],[1,6,7])])
def impl_merged_impl_Item__impl_cmpItem_impl_together_1.B9:List Nat:=[0,0,2,6,14,31,0,64,63,511]
theorem impl_merged_impl_Item__impl_cmpItem_impl_together_1.tab9:rtab .any (opsOf Tryz.f63 9)=impl_merged_impl_Item__impl_cmpItem_impl_together_1.T9:=by kernel_rfl
theorem impl_merged_impl_Item__impl_cmpItem_impl_together_1.bits9:waitsOk impl_merged_impl_Item__impl_cmpItem_impl_together_1.T9.2 impl_merged_impl_Item__impl_cmpItem_impl_together_1.B9=true:=by kernel_rfl
def impl_merged_impl_Item__impl_cmpItem_impl_together_1.T11:Bool × List (List Nat × List Nat):=(true,[([],[]),([],[]),([1],[1]),([2],[2]),([3],[3]),([0,4],[0,4]),([],[]),([6],[6]),([5,5,0,1,2,3,4,5],[0,5]),([7,8,0,1,2,3,4,5,6,7,8],[1,6,7])])
def impl_merged_impl_Item__impl_cmpItem_impl_together_1.B11:List Nat:=[0,0,2,6,14,31,0,64,63,511]
theorem impl_merged_impl_Item__impl_cmpItem_impl_together_1.tab11:rtab .any (opsOf Tryz.f63 11)=impl_merged_impl_Item__impl_cmpItem_impl_together_1.T11:=by kernel_rfl
theorem impl_merged_impl_Item__impl_cmpItem_impl_together_1.bits11:waitsOk impl_merged_impl_Item__impl_cmpItem_impl_together_1.T11.2 impl_merged_impl_Item__impl_cmpItem_impl_together_1.B11=true:=by kernel_rfl
set_option maxHeartbeats 8000000 in
set_option maxRecDepth 100000 in
theorem impl_merged_impl_Item__impl_cmpItem_impl_together_1.calls (k:Nat) (P0_:Nat→Prop) (A0:Option Addr) (c0:Nat) (l0:List (S33)) (P1_:Nat→Prop) (A1:Option Addr) (c1:Nat) (l1:List (S33))   (r:List (S33)) (w:World) (hs0:Kd.V k33 33 w w.heap.size (fun k_=>P0_ k_) (.slice A0 l0.length c0) l0) (hs1:Kd.V k33 33 w w.heap.size (fun k_=>P1_ k_) (.slice A1 l1.length c1) l1) (h:impl_merged_impl_Item__impl_cmpItem_impl_together_1.f k l0 l1=some r) :
  Calls Tryz.prog 63 #[.slice A0 l0.length c0,.slice A1 l1.length c1,.func (.func 64) #[] #[],.func (.func 65) #[] #[]] w fun e w'=>∃ v0_:Value,e=.returned (v0_)∧Kd.N k33 33 w' w.heap.size (fun k_=>((P0_ k_∨P1_ k_)∨w.heap.size≤k_)) v0_ r∧Below w.heap.size w w':=by
 have hu33:=Tryz.underlying33
 have HO0:=Aside0.mk (show Kd.V k33 33 w w.heap.size (fun k_=>((P0_ k_∨P1_ k_)∨w.heap.size≤k_)) (.slice A0 l0.length c0) l0 from Kd.V_mono hs0 (fun k_ hk=>.inl (.inl hk)))
 have HO1:=Aside0.mk (show Kd.V k33 33 w w.heap.size (fun k_=>((P0_ k_∨P1_ k_)∨w.heap.size≤k_)) (.slice A1 l1.length c1) l1 from Kd.V_mono hs1 (fun k_ hk=>.inl (.inr hk)))
 have HB:=Aside0.mk (Below.refl w.heap.size w)
 have H:(impl_merged_impl_Item__impl_cmpItem_impl_together_1.l0 k l0 l1 ([]:List (S33)))=some r:=h
 clear h
 have H':=Aside0.mk H
 clear H
 go_enter Tryz.func63,Tryz.ntmps63
 go_wp2
 go_loopg [0,1,9] k (fun kq v0 v1 v9 w'=>∃ (x0_1:List (S33)) (x1_1:List (S33)) (x9_1:List (S33)),Aside0 (impl_merged_impl_Item__impl_cmpItem_impl_together_1.l0 kq x0_1 x1_1 x9_1=some r)∧Aside0 (kq≤k)∧Aside0 (Kd.V k33 33 w' w.heap.size (fun k_=>((P0_ k_∨P1_ k_)∨w.heap.size≤k_)∧some k_≠(v9:Value).ownBlock) v0 x0_1)∧Aside0 (Kd.V k33 33 w' w.heap.size (fun k_=>((P0_ k_∨P1_ k_)∨w.heap.size≤k_)∧some k_≠(v9:Value).ownBlock) v1 x1_1)∧Aside0 (Kd.N k33 33 w' w.heap.size (fun k_=>((P0_ k_∨P1_ k_)∨w.heap.size≤k_)) v9 x9_1)∧Aside0 (Below w.heap.size w w'))
 case atStart=>exact ⟨(l0),(l1),(([]:List (S33))),H',⟨Nat.le_refl _⟩,⟨by (with_reducible repeat (first|apply Kd.V_alloc|apply Kd.V_drewN|apply Kd.V_drew));exact Kd.V_mono HO0.out (fun _ hk=>⟨hk,(by simp [Value.ownBlock])⟩)⟩,⟨by (with_reducible repeat (first|apply Kd.V_alloc|apply Kd.V_drewN|apply Kd.V_drew));exact Kd.V_mono HO1.out (fun _ hk=>⟨hk,(by simp [Value.ownBlock])⟩)⟩,⟨by first|exact Kd.S_nil _ _ _ _ _|exact Kd.N_nil _ _ _ _ _|exact Kd.V_nil _ _ _ _ _|exact Kd.Q_nil _ _ _ _ _|exact Kd.R_nil _ _ _ _ _⟩,⟨zhb⟩⟩
 case round =>
  clear H'
  try clear c1
  try clear p2
  obtain ⟨x0_1,x1_1,x9_1,HA,HK1,HO_0,HO_1,HO_9,HB⟩:=hrel
  cases gk with
  | zero=>exact absurd HA.out (by simp [impl_merged_impl_Item__impl_cmpItem_impl_together_1.l0])
  | succ k1 =>
   have H:=HA.out
   clear HA
   simp only [impl_merged_impl_Item__impl_cmpItem_impl_together_1.l0] at H
   by_cases c5:(x0_1.length:Int) > 0
   ·rw [if_pos c5] at H
    have c5b0:decide (0 < (x0_1.length:Int))=true:=decide_eq_true c5
    have c5b1:decide (0 < x0_1.length)=true:=decide_eq_true (by omega)
    clear c5
    by_cases c6:(x1_1.length:Int) > 0
    ·rw [if_pos c6] at H
     have c6b0:decide (0 < (x1_1.length:Int))=true:=decide_eq_true c6
     have c6b1:decide (0 < x1_1.length)=true:=decide_eq_true (by omega)
     clear c6
     by_cases c7:0 < (x0_1.length:Int)
     ·rw [if_pos c7] at H
      have c7b0:decide (0 < (x0_1.length:Int))=true:=decide_eq_true c7
      have c7b1:decide (0 < x0_1.length)=true:=decide_eq_true (by omega)
      clear c7
      by_cases c8:0 < (x1_1.length:Int)
      ·rw [if_pos c8] at H
       have c8b0:decide (0 < (x1_1.length:Int))=true:=decide_eq_true c8
       have c8b1:decide (0 < x1_1.length)=true:=decide_eq_true (by omega)
       clear c8
       replace H:=Option.bind_eq_some_iff.mp H
       obtain ⟨t259,A90,H⟩:=H
       (try dsimp only at H)
       have A9:=Aside0.mk A90
       clear A90
       by_cases c10:t259 < 0
       ·rw [if_pos c10] at H
        have c10b0:decide (t259 < 0)=true:=decide_eq_true c10
        clear c10
        by_cases c11:x9_1.length < 4398046511104
        ·rw [if_pos c11] at H
         have LMc11:=Aside0.mk c11
         clear c11
         obtain ⟨y261,hy261⟩ : ∃ y_:List (S33),y_=(x9_1 ++ [(⟨(rd_T33 x0_1 0).f0,(rd_T33 x0_1 0).f1⟩:S33)]):=⟨_,rfl⟩
         replace H:(if 1≤(x0_1.length:Int) then (impl_merged_impl_Item__impl_cmpItem_impl_together_1.l0 k1 (x0_1.drop 1) x1_1 y261) else (none))=some r:=by first|(rw [hy261];with_reducible exact H)|(have H2_:=(Option.bind_some _ _).symm.trans H;rw [hy261];with_reducible exact H2_)|(have H2_:=(Option.bind_some _ _).symm.trans H;with_reducible exact H2_)|with_reducible exact H|(rw [hy261];exact H)|exact H
         have Ny261:=Aside0.mk hy261
         clear hy261
         by_cases c12:1≤(x0_1.length:Int)
         ·rw [if_pos c12] at H
          have c12b0:=eq_true c12
          have c12b1:decide (1≤(x0_1.length:Int))=true:=decide_eq_true c12
          clear c12
          obtain ⟨y264,hy264⟩ : ∃ y_:List (S33),y_=(x0_1.drop 1):=⟨_,rfl⟩
          replace H:(impl_merged_impl_Item__impl_cmpItem_impl_together_1.l0 k1 y264 x1_1 y261)=some r:=by first|(rw [hy264];with_reducible exact H)|(have H2_:=(Option.bind_some _ _).symm.trans H;rw [hy264];with_reducible exact H2_)|(have H2_:=(Option.bind_some _ _).symm.trans H;with_reducible exact H2_)|with_reducible exact H|(rw [hy264];exact H)|exact H
          have Ny264:=Aside0.mk hy264
          clear hy264
          have H':=Aside0.mk H
          clear H
          obtain ⟨Ao13,co13,eo13⟩:=Kd.V_slice HO_0.out
          subst eo13
          obtain ⟨Ao14,co14,eo14⟩:=Kd.V_slice HO_1.out
          subst eo14
          try go_wp2
          have n0_:=Aside0.mk (Kd.V_drew HO_0.out)
          have n1_:=Aside0.mk (Kd.V_drew HO_1.out)
          have n2_:=Aside0.mk (Kd.N_drew HO_9.out)
          have n3_:=Aside0.mk (below_drew1 HB.out)
          clear HO_0
          clear HO_1
          clear HO_9
          clear HB
          have HO_0:=n0_
          have HO_1:=n1_
          have HO_9:=n2_
          have HB:=n3_
          clear n0_ n1_ n2_ n3_
          have p257:0≤(0:Int):=(by omega)
          have q257:0 < (x0_1.length:Int):=zod
          obtain ⟨ad257,A257_0,c257_0,e257,hx257_0,hx257_1,hl257_0,hi257_0⟩:=at_T33 (Kd.V_reads' HO_0.out).2.2 0 p257 q257
          cases e257
          obtain ⟨ce257,hce257,hMe257,hcc257⟩:=Kd.V_get HO_0.out z33 0 p257 (by first|exact q257|exact zod|(have e_:=(Kd.V_reads' HO_0.out).1;omega))
          obtain ⟨ua257_0,uc257_0,rfl,ul257_0,ge257_0⟩:=k33_openF hMe257
          have hv257_0:=hcc257 0 _ rfl
          rw [Nat.add_zero] at hv257_0
          replace hv257_0:=Option.some.inj (hv257_0.symm.trans hx257_0)
          injection hv257_0 with hva_ hvn_ hvc_
          rw [hva_] at ge257_0
          rw [hvc_] at ul257_0
          have HL257_0:=Aside0.mk (show Kd.V (Kd.int .i64) 3 _ w.heap.size _ _ ((rd_T33 x0_1 0).f0) from Kd.V_mk ul257_0 ge257_0)
          clear hva_ hvn_ hvc_ ge257_0 ul257_0
          clear hcc257 hce257
          have qi257:(0 < x0_1.length)=True:=eq_true (by omega)
          (try rw [show ((0:Int)).toNat=0 from rfl] at hx257_0)
          (try rw [show 0 * 2=0 from rfl] at hx257_0)
          (try rw [Addr.add_zero'] at hx257_0)
          (try rw [show ((0:Int)).toNat=0 from rfl] at hx257_1)
          (try rw [show 0 * 2=0 from rfl] at hx257_1)
          (try rw [Addr.add_zero'] at hx257_1)
          have HR257_0:=Aside0.mk hi257_0
          have HC257_0:=Aside0.mk hl257_0
          clear hi257_0 hl257_0
          replace p257:=eq_true p257
          replace q257:=eq_true q257
          have p258:0≤(0:Int):=(by omega)
          have q258:0 < (x1_1.length:Int):=zod
          obtain ⟨ad258,A258_0,c258_0,e258,hx258_0,hx258_1,hl258_0,hi258_0⟩:=at_T33 (Kd.V_reads' HO_1.out).2.2 0 p258 q258
          cases e258
          obtain ⟨ce258,hce258,hMe258,hcc258⟩:=Kd.V_get HO_1.out z33 0 p258 (by first|exact q258|exact zod|(have e_:=(Kd.V_reads' HO_1.out).1;omega))
          obtain ⟨ua258_0,uc258_0,rfl,ul258_0,ge258_0⟩:=k33_openF hMe258
          have hv258_0:=hcc258 0 _ rfl
          rw [Nat.add_zero] at hv258_0
          replace hv258_0:=Option.some.inj (hv258_0.symm.trans hx258_0)
          injection hv258_0 with hva_ hvn_ hvc_
          rw [hva_] at ge258_0
          rw [hvc_] at ul258_0
          have HL258_0:=Aside0.mk (show Kd.V (Kd.int .i64) 3 _ w.heap.size _ _ ((rd_T33 x1_1 0).f0) from Kd.V_mk ul258_0 ge258_0)
          clear hva_ hvn_ hvc_ ge258_0 ul258_0
          clear hcc258 hce258
          have qi258:(0 < x1_1.length)=True:=eq_true (by omega)
          (try rw [show ((0:Int)).toNat=0 from rfl] at hx258_0)
          (try rw [show 0 * 2=0 from rfl] at hx258_0)
          (try rw [Addr.add_zero'] at hx258_0)
          (try rw [show ((0:Int)).toNat=0 from rfl] at hx258_1)
          (try rw [show 0 * 2=0 from rfl] at hx258_1)
          (try rw [Addr.add_zero'] at hx258_1)
          have HR258_0:=Aside0.mk hi258_0
          have HC258_0:=Aside0.mk hl258_0
          clear hi258_0 hl258_0
          replace p258:=eq_true p258
          replace q258:=eq_true q258
          refine start_ (n:=9) (S:=fun w'=>w'.cell? ad257=some (.slice A257_0 ((rd_T33 x0_1 0).f0).length c257_0)∧w'.cell? ⟨ad257.block,ad257.off + 1,none⟩=some (.int .i64 ((rd_T33 x0_1 0).f1))∧w'.cell? ad258=some (.slice A258_0 ((rd_T33 x1_1 0).f0).length c258_0)∧w'.cell? ⟨ad258.block,ad258.off + 1,none⟩=some (.int .i64 ((rd_T33 x1_1 0).f1))) (ds:=[]) #[X,X,X,X,X,X,X,X,X] (by kernel_rfl) rfl rfl ⟨hx257_0,hx257_1,hx258_0,hx258_1⟩ (fun hHeld=>?_);refine with_tabW impl_merged_impl_Item__impl_cmpItem_impl_together_1.tab3 impl_merged_impl_Item__impl_cmpItem_impl_together_1.bits3 (fun HT_ HW_=>?_)
          generalize wr.drew=w15 at HO_0 HO_1 HO_9 HB HL257_0 HL258_0 HR257_0 HR258_0 hx257_0 hx257_1 hx258_0 hx258_1 hHeld ⊢
          refine pure_ (i:=0) (N:=some 21) (v:=?_) (a':=?_) #[Y,X,X,X,X,X,X,X,X] rfl rfl zan (fun _ _ _ h=>h) (Or.inl ⟨by rfl,?_⟩) ?_ ?_
          rotate_left
          ·intro w'
           go_simp
           with_reducible rfl
          rotate_left
          ·simp only [Act.put,zp1,zp2,zp3,i64_w,i32_w]
           rfl
          refine pure_ (i:=1) (N:=some 22) (v:=?_) (a':=?_) #[Y,Y,X,X,X,X,X,X,X] rfl rfl zan (fun _ _ _ h=>h) (Or.inl ⟨by rfl,?_⟩) ?_ ?_
          rotate_left
          ·intro w'
           go_simp
           with_reducible rfl
          rotate_left
          ·simp only [Act.put,zp1,zp2,zp3,i64_w,i32_w]
           rfl
          refine pure_ (i:=2) (N:=some 23) (v:=?_) (a':=?_) #[Y,Y,Y,X,X,X,X,X,X] rfl rfl zan (fun _ _ _ h=>h) (Or.inl ⟨by rfl,?_⟩) ?_ ?_
          rotate_left
          ·intro w'
           go_simp
           with_reducible rfl
          rotate_left
          ·simp only [Act.put,zp1,zp2,zp3,i64_w,i32_w]
           rfl
          refine pure_ (i:=4) (N:=some 25) (v:=?_) (a':=?_) #[Y,Y,Y,X,Y,X,X,X,X] rfl rfl zan (fun _ _ _ h=>h) (Or.inl ⟨by rfl,?_⟩) ?_ ?_
          rotate_left
          ·intro w'
           go_simp
           with_reducible rfl
          rotate_left
          ·simp only [Act.put,zp1,zp2,zp3,i64_w,i32_w]
           rfl
          refine pure_ (i:=5) (N:=some 26) (v:=?_) (a':=?_) #[Y,Y,Y,X,Y,Y,X,X,X] rfl rfl zan (fun _ _ _ h=>h) (Or.inl ⟨by rfl,?_⟩) ?_ ?_
          rotate_left
          ·intro w'
           go_simp
           with_reducible rfl
          rotate_left
          ·simp only [Act.put,zp1,zp2,zp3,i64_w,i32_w]
           rfl
          refine take_ (i:=3) (N:=some 24) (v:=?_) (a':=?_) #[Y,Y,Y,Y,Y,Y,X,X,X] rfl rfl ztw (fun _ _ _ h=>h) (Or.inl ⟨by rfl,?_⟩) hHeld ?_ ?_
          rotate_left
          ·rintro w' ⟨s0,s1,s2,s3⟩
           go_simp
           with_reducible rfl
          rotate_left
          ·simp only [Act.put,zp1,zp2,zp3,i64_w,i32_w]
           rfl
          refine take_ (i:=6) (N:=some 27) (v:=?_) (a':=?_) #[Y,Y,Y,Y,Y,Y,Y,X,X] rfl rfl ztw (fun _ _ _ h=>h) (Or.inl ⟨by rfl,?_⟩) hHeld ?_ ?_
          rotate_left
          ·rintro w' ⟨s0,s1,s2,s3⟩
           go_simp
           with_reducible rfl
          rotate_left
          ·simp only [Act.put,zp1,zp2,zp3,i64_w,i32_w]
           rfl
          refine one_ (i:=7) (N:=some 28) #[Y,Y,Y,Y,Y,Y,Y,Y,X] rfl rfl (one_of HT_.out (by kernel_rfl)) (by decide) (fun K hK=>?_)
          refine goes_f (.tmp 21) Tryz.func64 (by kernel_rfl) rfl #[.agg #[.slice A257_0 ((rd_T33 x0_1 0).f0).length c257_0,.int .i64 ((rd_T33 x0_1 0).f1)],.agg #[.slice A258_0 ((rd_T33 x1_1 0).f0).length c258_0,.int .i64 ((rd_T33 x1_1 0).f1)]] (by rfl) rfl rfl rfl zar ?_
          with_reducible refine (impl_cmpItem.calls k1 _ _ ((rd_T33 x0_1 0).f0) ((rd_T33 x0_1 0).f1) _ _ ((rd_T33 x1_1 0).f0) ((rd_T33 x1_1 0).f1) t259 _ ?side1 ?side2 ?side3 ?side4 A9.out).mono ?_
          (case side1=>exact zC (zC HR257_0.out))
          (case side2=>exact HC257_0.out)
          (case side3=>exact zC (zC HR258_0.out))
          (case side4=>exact HC258_0.out)
          rintro e w16 ⟨rfl,hb⟩
          have HS0_:=zhs hb hHeld.1
          have HS1_:=zhs hb hHeld.2.1
          have HS2_:=zhs hb hHeld.2.2.1
          have HS3_:=zhs hb hHeld.2.2.2
          refine ⟨_,rfl,?_⟩
          have n0_:=Aside0.mk (Kd.V_below (zV HO_0.out) hb)
          have n1_:=Aside0.mk (Kd.V_below (zV HO_1.out) hb)
          have n2_:=Aside0.mk (Kd.N_below (zN HO_9.out) hb)
          have n3_:=Aside0.mk (Kd.V_below (zV HL257_0.out) hb)
          have n4_:=Aside0.mk (Kd.V_below (zV HL258_0.out) hb)
          have n5_:=Aside0.mk (Kd.C_below (zC HR257_0.out) hb)
          have n6_:=Aside0.mk (Kd.C_below (zC HR258_0.out) hb)
          have n7_:=Aside0.mk (below_step zhb hb)
          clear HO_0
          clear HO_1
          clear HO_9
          clear HL257_0
          clear HL258_0
          clear HR257_0
          clear HR258_0
          clear HB
          have HO_0:=n0_
          have HO_1:=n1_
          have HO_9:=n2_
          have HL257_0:=n3_
          have HL258_0:=n4_
          have HR257_0:=n5_
          have HR258_0:=n6_
          have HB:=n7_
          clear n0_ n1_ n2_ n3_ n4_ n5_ n6_ n7_
          (try clear hb)
          (try clear hb2)
          (try clear hk)
          (try clear hi)
          refine hK.out _ _ ⟨HS0_,HS1_,HS2_,HS3_⟩ (fun hHeld=>?_)
          clear hK K
          refine norm_ (a':=?_) ?_ ?_
          rotate_left
          ·show Act.put _ (some 28) _=_
           simp only [Act.put,zp1,zp2,zp3,i64_w,i32_w]
           rfl
          refine pure_ (i:=8) (N:=some 10) (v:=?_) (a':=?_) #[Y,Y,Y,Y,Y,Y,Y,Y,Y] rfl rfl zan (fun _ _ _ h=>h) (Or.inl ⟨by rfl,?_⟩) ?_ ?_
          rotate_left
          ·intro w'
           go_simp
           with_reducible rfl
          rotate_left
          ·simp only [Act.put,zp1,zp2,zp3,i64_w,i32_w]
           rfl
          refine done_ (done_of HT_.out (by kernel_rfl)) ?_
          try go_wp2
          have n0_:=Aside0.mk (Kd.V_drew HO_0.out)
          have n1_:=Aside0.mk (Kd.V_drew HO_1.out)
          have n2_:=Aside0.mk (Kd.N_drew HO_9.out)
          have n3_:=Aside0.mk (Kd.V_drew HL257_0.out)
          have n4_:=Aside0.mk (Kd.V_drew HL258_0.out)
          have n5_:=Aside0.mk (Kd.C_drew HR257_0.out)
          have n6_:=Aside0.mk (Kd.C_drew HR258_0.out)
          have n7_:=Aside0.mk (below_drew1 HB.out)
          clear HO_0
          clear HO_1
          clear HO_9
          clear HL257_0
          clear HL258_0
          clear HR257_0
          clear HR258_0
          clear HB
          have HO_0:=n0_
          have HO_1:=n1_
          have HO_9:=n2_
          have HL257_0:=n3_
          have HL258_0:=n4_
          have HR257_0:=n5_
          have HR258_0:=n6_
          have HB:=n7_
          clear n0_ n1_ n2_ n3_ n4_ n5_ n6_ n7_
          have p260:0≤(0:Int):=(by omega)
          have q260:0 < (x0_1.length:Int):=zod
          obtain ⟨ad260,A260_0,c260_0,e260,hx260_0,hx260_1,hl260_0,hi260_0⟩:=at_T33 (Kd.V_reads' HO_0.out).2.2 0 p260 q260
          obtain rfl:ad257=ad260:=(by injection e260)
          obtain ⟨ce260,hce260,hMe260,hcc260⟩:=Kd.V_get HO_0.out z33 0 p260 (by first|exact q260|exact zod|(have e_:=(Kd.V_reads' HO_0.out).1;omega))
          obtain ⟨ua260_0,uc260_0,rfl,ul260_0,ge260_0⟩:=k33_openF hMe260
          have hv260_0:=hcc260 0 _ rfl
          rw [Nat.add_zero] at hv260_0
          replace hv260_0:=Option.some.inj (hv260_0.symm.trans hx260_0)
          injection hv260_0 with hva_ hvn_ hvc_
          rw [hva_] at ge260_0
          rw [hvc_] at ul260_0
          have HL260_0:=Aside0.mk (show Kd.V (Kd.int .i64) 3 _ w.heap.size _ _ ((rd_T33 x0_1 0).f0) from Kd.V_mk ul260_0 ge260_0)
          clear hva_ hvn_ hvc_ ge260_0 ul260_0
          clear hcc260 hce260
          have qi260:(0 < x0_1.length)=True:=eq_true (by omega)
          (try rw [show ((0:Int)).toNat=0 from rfl] at hx260_0)
          (try rw [show 0 * 2=0 from rfl] at hx260_0)
          (try rw [Addr.add_zero'] at hx260_0)
          (try rw [show ((0:Int)).toNat=0 from rfl] at hx260_1)
          (try rw [show 0 * 2=0 from rfl] at hx260_1)
          (try rw [Addr.add_zero'] at hx260_1)
          have HR260_0:=Aside0.mk hi260_0
          have HC260_0:=Aside0.mk hl260_0
          clear hi260_0 hl260_0
          replace p260:=eq_true p260
          replace q260:=eq_true q260
          have q18:(1:Int)≤((x0_1.length:Int):Int):=zod
          obtain ⟨i018,hi018,_,hsz18,_⟩:=info_parts info33
          have hroom18:x0_1.length≤co13:=(Kd.V_reads' HO_0.out).2.1
          have hC18:Kd.F k33 _ _ (some ad257) x0_1.length x0_1:=(Kd.V_at (base:=w.heap.size) HO_0.out).2.2
          have hcut18:=cut_from (P:=Tryz.prog) 23 33 .i64 Tryz.underlying23 hi018 2 hsz18 (some ad257) x0_1.length co13 1 (by omega) q18
          have hr18:=Kd.F_cut (m:=(1:Int).toNat) (c:=co13) hC18 (by omega) hroom18
          obtain ⟨A18,hA18⟩ : ∃ A1,A1=(if co13=(1:Int).toNat then (some ad257) else ((some ad257):Option Addr).map (·.add ((1:Int).toNat * 2))):=⟨_,rfl⟩
          obtain ⟨c18,hc18⟩ : ∃ c1,c1=co13 - (1:Int).toNat:=⟨_,rfl⟩
          have hy18:y264.length=x0_1.length - (1:Int).toNat:=(by rw [Ny264.out,List.length_drop] <;> omega)
          rw [show (x0_1).drop (1:Int).toNat=y264 from Ny264.out.symm] at hr18
          replace hr18:Kd.F k33 _ _ A18 y264.length y264:=(by rw [hA18];exact hr18)
          rw [← hy18,← hA18,← hc18] at hcut18
          have HO268:=Aside0.mk (show Kd.V k33 33 _ w.heap.size _ (.slice A18 y264.length c18) y264 from Kd.V_mk (by rw [hy18,hc18];exact Nat.sub_le_sub_right hroom18 _) hr18)
          have HC268:=Aside0.mk (show y264.length≤c18 from by rw [hy18,hc18];exact Nat.sub_le_sub_right hroom18 _)
          clear hr18 hC18 hroom18 hi018 hsz18 hc18
          have KY18:=Aside0.mk hy18
          have KA18:=Aside0.mk hA18
          clear hy18 hA18
          replace q18:=eq_true q18
          refine start_ (n:=10) (S:=fun w'=>w'.cell? ad257=some (.slice A260_0 ((rd_T33 x0_1 0).f0).length c260_0)∧w'.cell? ⟨ad257.block,ad257.off + 1,none⟩=some (.int .i64 ((rd_T33 x0_1 0).f1))) (ds:=[4,5]) #[X,X,X,X,X,X,X,X,X,X] (by kernel_rfl) rfl rfl ⟨hx260_0,hx260_1⟩ (fun hHeld=>?_);refine with_tabW impl_merged_impl_Item__impl_cmpItem_impl_together_1.tab9 impl_merged_impl_Item__impl_cmpItem_impl_together_1.bits9 (fun HT_ HW_=>?_)
          generalize w16.drew=w17 at HO_0 HO_1 HO_9 HL257_0 HL258_0 HR257_0 HR258_0 HB HL260_0 HO268 HR260_0 hx260_0 hx260_1 hHeld ⊢
          refine pure_ (i:=0) (N:=some 52) (v:=?_) (a':=?_) #[Y,X,X,X,X,X,X,X,X,X] rfl rfl zan (fun _ _ _ h=>h) (Or.inl ⟨by rfl,?_⟩) ?_ ?_
          rotate_left
          ·intro w'
           go_simp
           with_reducible rfl
          rotate_left
          ·simp only [Act.put,zp1,zp2,zp3,i64_w,i32_w]
           rfl
          refine pure_ (i:=1) (N:=some 53) (v:=?_) (a':=?_) #[Y,Y,X,X,X,X,X,X,X,X] rfl rfl zan (fun _ _ _ h=>h) (Or.inl ⟨by rfl,?_⟩) ?_ ?_
          rotate_left
          ·intro w'
           go_simp
           with_reducible rfl
          rotate_left
          ·simp only [Act.put,zp1,zp2,zp3,i64_w,i32_w]
           rfl
          refine pure_ (i:=2) (N:=some 54) (v:=?_) (a':=?_) #[Y,Y,Y,X,X,X,X,X,X,X] rfl rfl zan (fun _ _ _ h=>h) (Or.inl ⟨by rfl,?_⟩) ?_ ?_
          rotate_left
          ·intro w'
           go_simp
           with_reducible rfl
          rotate_left
          ·simp only [Act.put,zp1,zp2,zp3,i64_w,i32_w]
           rfl
          refine pure_ (i:=6) (N:=some 58) (v:=?_) (a':=?_) #[Y,Y,Y,X,X,X,Y,X,X,X] rfl rfl zan (fun _ _ _ h=>h) (Or.inl ⟨by rfl,?_⟩) ?_ ?_
          rotate_left
          ·intro w'
           go_simp
           with_reducible rfl
          rotate_left
          ·simp only [Act.put,zp1,zp2,zp3,i64_w,i32_w]
           rfl
          refine pure_ (i:=7) (N:=some 59) (v:=?_) (a':=?_) #[Y,Y,Y,X,X,X,Y,Y,X,X] rfl rfl zan (fun _ _ _ h=>h) (Or.inl ⟨by rfl,?_⟩) ?_ ?_
          rotate_left
          ·intro w'
           go_simp
           with_reducible rfl
          rotate_left
          ·simp only [Act.put,zp1,zp2,zp3,i64_w,i32_w]
           rfl
          refine take_ (i:=3) (N:=some 55) (v:=?_) (a':=?_) #[Y,Y,Y,Y,X,X,Y,Y,X,X] rfl rfl ztw (fun _ _ _ h=>h) (Or.inl ⟨by rfl,?_⟩) hHeld ?_ ?_
          rotate_left
          ·rintro w' ⟨s0,s1⟩
           go_simp
           with_reducible rfl
          rotate_left
          ·simp only [Act.put,zp1,zp2,zp3,i64_w,i32_w]
           rfl
          refine last_ (i:=4) (N:=some 56) #[Y,Y,Y,Y,Y,X,Y,Y,X,X] rfl rfl (one_of HT_.out (by kernel_rfl)) (by decide) (fun K hK=>?_)
          refine value_ (w1:=?_) (v:=?_) (by rfl) rfl ?_ ?_
          rotate_left 2
          ·go_simp
           constructor
           ·rfl
           ·rfl
          refine hK.out _ _ ?_
          clear hK K
          refine norm_ (a':=?_) ?_ ?_
          rotate_left
          ·show Act.put _ (some 56) _=_
           simp only [Act.put,zp1,zp2,zp3,i64_w,i32_w]
           rfl
          refine last_ (i:=5) (N:=some 57) #[Y,Y,Y,Y,Y,Y,Y,Y,X,X] rfl rfl (one_of HT_.out (by kernel_rfl)) (by decide) (fun K hK=>?_)
          refine Kd.N_append_step k33 (w0:=w) w.heap.size (by rfl) (.tmp 52) (.tmp 56) 23 33 (.agg #[(.slice none 0 0),(.int .i64 0)]) 32 rfl Tryz.underlying23 info33 rfl (by decide) (by omega) u9 x9_1 (⟨(rd_T33 x0_1 0).f0,(rd_T33 x0_1 0).f1⟩:S33) [.slice A260_0 ((rd_T33 x0_1 0).f0).length c260_0,.int .i64 ((rd_T33 x0_1 0).f1)] (fun k_=>((P0_ k_∨P1_ k_)∨w.heap.size≤k_)) (fun k_=>((fun k_=>((P0_ k_∨P1_ k_)∨w.heap.size≤k_))) k_∧some k_≠(u9:Value).ownBlock) rfl rfl ?aP (fun _ hk=>hk) ?aF ?aO ?aB ?aS ?aL ?_
          (case aP=>exact (k33_mkF _ _ (⟨(rd_T33 x0_1 0).f0,(rd_T33 x0_1 0).f1⟩:S33) (Kd.V_reads' (Kd.V_mono (ok':=(fun k_=>((fun k_=>((P0_ k_∨P1_ k_)∨w.heap.size≤k_))) k_∧some k_≠(u9:Value).ownBlock)) (HL260_0.out) (fun k_ hk=>⟨hk.1,hk.2⟩))).2.1 (Kd.V_F (Kd.V_mono (ok':=(fun k_=>((fun k_=>((P0_ k_∨P1_ k_)∨w.heap.size≤k_))) k_∧some k_≠(u9:Value).ownBlock)) (HL260_0.out) (fun k_ hk=>⟨hk.1,hk.2⟩)))))
          (case aB=>exact zhb)
          (case aF=>exact (fun k_ hk=>(.inr (Nat.le_trans (below_size zhb) hk))))
          (case aO=>exact (zN HO_9.out))
          (case aS=>exact (below_size zhb))
          (case aL=>have:=LMc11.out;omega)
          intro v262 w19 ho hb hg hat
          rw [← Ny261.out] at ho
          have n0_:=Aside0.mk (Kd.V_afterv (ok:=(fun k_=>((P0_ k_∨P1_ k_)∨w.heap.size≤k_))) (zV HO_0.out) hg hat)
          have n1_:=Aside0.mk (Kd.V_afterv (ok:=(fun k_=>((P0_ k_∨P1_ k_)∨w.heap.size≤k_))) (zV HO_1.out) hg hat)
          have n2_:=Aside0.mk (Kd.V_afterv (ok:=(fun k_=>((P0_ k_∨P1_ k_)∨w.heap.size≤k_))) (zV HL257_0.out) hg hat)
          have n3_:=Aside0.mk (Kd.V_afterv (ok:=(fun k_=>((P0_ k_∨P1_ k_)∨w.heap.size≤k_))) (zV HL258_0.out) hg hat)
          have n4_:=Aside0.mk (Kd.V_afterv (ok:=(fun k_=>((P0_ k_∨P1_ k_)∨w.heap.size≤k_))) (zV HL260_0.out) hg hat)
          have n5_:=Aside0.mk (Kd.V_afterv (ok:=(fun k_=>((P0_ k_∨P1_ k_)∨w.heap.size≤k_))) (zV HO268.out) hg hat)
          have n6_:=Aside0.mk (hb)
          have n7_:=Aside0.mk (ho)
          clear HO_0
          clear HO_1
          clear HL257_0
          clear HL258_0
          clear HL260_0
          clear HO268
          clear HB
          clear HO_9
          have HO_0:=n0_
          have HO_1:=n1_
          have HL257_0:=n2_
          have HL258_0:=n3_
          have HL260_0:=n4_
          have HO268:=n5_
          have HB:=n6_
          have HO263:=n7_
          clear n0_ n1_ n2_ n3_ n4_ n5_ n6_ n7_
          clear ho hb hg hat
          refine hK.out _ _ ?_
          clear hK K
          refine norm_ (a':=?_) ?_ ?_
          rotate_left
          ·show Act.put _ (some 57) _=_
           simp only [Act.put,zp1,zp2,zp3,i64_w,i32_w]
           rfl
          refine pure_ (i:=8) (N:=some 9) (v:=?_) (a':=?_) #[Y,Y,Y,Y,Y,Y,Y,Y,Y,X] rfl rfl zan (fun _ _ _ h=>h) (Or.inl ⟨by rfl,?_⟩) ?_ ?_
          rotate_left
          ·intro w'
           go_simp
           with_reducible rfl
          rotate_left
          ·simp only [Act.put,zp1,zp2,zp3,i64_w,i32_w]
           rfl
          refine pure_ (i:=9) (N:=some 0) (v:=?_) (a':=?_) #[Y,Y,Y,Y,Y,Y,Y,Y,Y,Y] rfl rfl zan (fun _ _ _ h=>h) (Or.inl ⟨by rfl,?_⟩) ?_ ?_
          rotate_left
          ·intro w'
           go_simp
           with_reducible rfl
          rotate_left
          ·simp only [Act.put,zp1,zp2,zp3,i64_w,i32_w]
           rfl
          refine done_ (done_of HT_.out (by kernel_rfl)) ?_
          try go_wp2
          go_roundg k1
          case measure=>have:=HK1.out;omega
          case rel=>exact ⟨(y264),(x1_1),(y261),H',⟨by have:=HK1.out;omega⟩,⟨by (with_reducible repeat (first|apply Kd.V_alloc|apply Kd.V_drewN|apply Kd.V_drew));exact HO268.out⟩,⟨by (with_reducible repeat (first|apply Kd.V_alloc|apply Kd.V_drewN|apply Kd.V_drew));exact HO_1.out⟩,⟨by (with_reducible repeat (first|apply Kd.N_alloc|apply Kd.N_drewN|apply Kd.N_drew));exact HO263.out⟩,⟨zhb⟩⟩
         ·rw [if_neg c12] at H
          exact absurd H (by simp)
        ·rw [if_neg c11] at H
         exact absurd H (by simp)
       ·rw [if_neg c10] at H
        have c10b0:decide (t259 < 0)=false:=decide_eq_false c10
        clear c10
        by_cases c20:t259 > 0
        ·rw [if_pos c20] at H
         have c20b0:decide (0 < t259)=true:=decide_eq_true c20
         clear c20
         by_cases c21:x9_1.length < 4398046511104
         ·rw [if_pos c21] at H
          have LMc21:=Aside0.mk c21
          clear c21
          obtain ⟨y270,hy270⟩ : ∃ y_:List (S33),y_=(x9_1 ++ [(⟨(rd_T33 x1_1 0).f0,(rd_T33 x1_1 0).f1⟩:S33)]):=⟨_,rfl⟩
          replace H:(if 1≤(x1_1.length:Int) then (impl_merged_impl_Item__impl_cmpItem_impl_together_1.l0 k1 x0_1 (x1_1.drop 1) y270) else (none))=some r:=by first|(rw [hy270];with_reducible exact H)|(have H2_:=(Option.bind_some _ _).symm.trans H;rw [hy270];with_reducible exact H2_)|(have H2_:=(Option.bind_some _ _).symm.trans H;with_reducible exact H2_)|with_reducible exact H|(rw [hy270];exact H)|exact H
          have Ny270:=Aside0.mk hy270
          clear hy270
          by_cases c22:1≤(x1_1.length:Int)
          ·rw [if_pos c22] at H
           have c22b0:=eq_true c22
           have c22b1:decide (1≤(x1_1.length:Int))=true:=decide_eq_true c22
           clear c22
           obtain ⟨y273,hy273⟩ : ∃ y_:List (S33),y_=(x1_1.drop 1):=⟨_,rfl⟩
           replace H:(impl_merged_impl_Item__impl_cmpItem_impl_together_1.l0 k1 x0_1 y273 y270)=some r:=by first|(rw [hy273];with_reducible exact H)|(have H2_:=(Option.bind_some _ _).symm.trans H;rw [hy273];with_reducible exact H2_)|(have H2_:=(Option.bind_some _ _).symm.trans H;with_reducible exact H2_)|with_reducible exact H|(rw [hy273];exact H)|exact H
           have Ny273:=Aside0.mk hy273
           clear hy273
           have H':=Aside0.mk H
           clear H
           obtain ⟨Ao23,co23,eo23⟩:=Kd.V_slice HO_0.out
           subst eo23
           obtain ⟨Ao24,co24,eo24⟩:=Kd.V_slice HO_1.out
           subst eo24
           try go_wp2
           have n0_:=Aside0.mk (Kd.V_drew HO_0.out)
           have n1_:=Aside0.mk (Kd.V_drew HO_1.out)
           have n2_:=Aside0.mk (Kd.N_drew HO_9.out)
           have n3_:=Aside0.mk (below_drew1 HB.out)
           clear HO_0
           clear HO_1
           clear HO_9
           clear HB
           have HO_0:=n0_
           have HO_1:=n1_
           have HO_9:=n2_
           have HB:=n3_
           clear n0_ n1_ n2_ n3_
           have p257:0≤(0:Int):=(by omega)
           have q257:0 < (x0_1.length:Int):=zod
           obtain ⟨ad257,A257_0,c257_0,e257,hx257_0,hx257_1,hl257_0,hi257_0⟩:=at_T33 (Kd.V_reads' HO_0.out).2.2 0 p257 q257
           cases e257
           obtain ⟨ce257,hce257,hMe257,hcc257⟩:=Kd.V_get HO_0.out z33 0 p257 (by first|exact q257|exact zod|(have e_:=(Kd.V_reads' HO_0.out).1;omega))
           obtain ⟨ua257_0,uc257_0,rfl,ul257_0,ge257_0⟩:=k33_openF hMe257
           have hv257_0:=hcc257 0 _ rfl
           rw [Nat.add_zero] at hv257_0
           replace hv257_0:=Option.some.inj (hv257_0.symm.trans hx257_0)
           injection hv257_0 with hva_ hvn_ hvc_
           rw [hva_] at ge257_0
           rw [hvc_] at ul257_0
           have HL257_0:=Aside0.mk (show Kd.V (Kd.int .i64) 3 _ w.heap.size _ _ ((rd_T33 x0_1 0).f0) from Kd.V_mk ul257_0 ge257_0)
           clear hva_ hvn_ hvc_ ge257_0 ul257_0
           clear hcc257 hce257
           have qi257:(0 < x0_1.length)=True:=eq_true (by omega)
           (try rw [show ((0:Int)).toNat=0 from rfl] at hx257_0)
           (try rw [show 0 * 2=0 from rfl] at hx257_0)
           (try rw [Addr.add_zero'] at hx257_0)
           (try rw [show ((0:Int)).toNat=0 from rfl] at hx257_1)
           (try rw [show 0 * 2=0 from rfl] at hx257_1)
           (try rw [Addr.add_zero'] at hx257_1)
           have HR257_0:=Aside0.mk hi257_0
           have HC257_0:=Aside0.mk hl257_0
           clear hi257_0 hl257_0
           replace p257:=eq_true p257
           replace q257:=eq_true q257
           have p258:0≤(0:Int):=(by omega)
           have q258:0 < (x1_1.length:Int):=zod
           obtain ⟨ad258,A258_0,c258_0,e258,hx258_0,hx258_1,hl258_0,hi258_0⟩:=at_T33 (Kd.V_reads' HO_1.out).2.2 0 p258 q258
           cases e258
           obtain ⟨ce258,hce258,hMe258,hcc258⟩:=Kd.V_get HO_1.out z33 0 p258 (by first|exact q258|exact zod|(have e_:=(Kd.V_reads' HO_1.out).1;omega))
           obtain ⟨ua258_0,uc258_0,rfl,ul258_0,ge258_0⟩:=k33_openF hMe258
           have hv258_0:=hcc258 0 _ rfl
           rw [Nat.add_zero] at hv258_0
           replace hv258_0:=Option.some.inj (hv258_0.symm.trans hx258_0)
           injection hv258_0 with hva_ hvn_ hvc_
           rw [hva_] at ge258_0
           rw [hvc_] at ul258_0
           have HL258_0:=Aside0.mk (show Kd.V (Kd.int .i64) 3 _ w.heap.size _ _ ((rd_T33 x1_1 0).f0) from Kd.V_mk ul258_0 ge258_0)
           clear hva_ hvn_ hvc_ ge258_0 ul258_0
           clear hcc258 hce258
           have qi258:(0 < x1_1.length)=True:=eq_true (by omega)
           (try rw [show ((0:Int)).toNat=0 from rfl] at hx258_0)
           (try rw [show 0 * 2=0 from rfl] at hx258_0)
           (try rw [Addr.add_zero'] at hx258_0)
           (try rw [show ((0:Int)).toNat=0 from rfl] at hx258_1)
           (try rw [show 0 * 2=0 from rfl] at hx258_1)
           (try rw [Addr.add_zero'] at hx258_1)
           have HR258_0:=Aside0.mk hi258_0
           have HC258_0:=Aside0.mk hl258_0
           clear hi258_0 hl258_0
           replace p258:=eq_true p258
           replace q258:=eq_true q258
           refine start_ (n:=9) (S:=fun w'=>w'.cell? ad257=some (.slice A257_0 ((rd_T33 x0_1 0).f0).length c257_0)∧w'.cell? ⟨ad257.block,ad257.off + 1,none⟩=some (.int .i64 ((rd_T33 x0_1 0).f1))∧w'.cell? ad258=some (.slice A258_0 ((rd_T33 x1_1 0).f0).length c258_0)∧w'.cell? ⟨ad258.block,ad258.off + 1,none⟩=some (.int .i64 ((rd_T33 x1_1 0).f1))) (ds:=[]) #[X,X,X,X,X,X,X,X,X] (by kernel_rfl) rfl rfl ⟨hx257_0,hx257_1,hx258_0,hx258_1⟩ (fun hHeld=>?_);refine with_tabW impl_merged_impl_Item__impl_cmpItem_impl_together_1.tab3 impl_merged_impl_Item__impl_cmpItem_impl_together_1.bits3 (fun HT_ HW_=>?_)
           generalize wr.drew=w25 at HO_0 HO_1 HO_9 HB HL257_0 HL258_0 HR257_0 HR258_0 hx257_0 hx257_1 hx258_0 hx258_1 hHeld ⊢
           refine pure_ (i:=0) (N:=some 21) (v:=?_) (a':=?_) #[Y,X,X,X,X,X,X,X,X] rfl rfl zan (fun _ _ _ h=>h) (Or.inl ⟨by rfl,?_⟩) ?_ ?_
           rotate_left
           ·intro w'
            go_simp
            with_reducible rfl
           rotate_left
           ·simp only [Act.put,zp1,zp2,zp3,i64_w,i32_w]
            rfl
           refine pure_ (i:=1) (N:=some 22) (v:=?_) (a':=?_) #[Y,Y,X,X,X,X,X,X,X] rfl rfl zan (fun _ _ _ h=>h) (Or.inl ⟨by rfl,?_⟩) ?_ ?_
           rotate_left
           ·intro w'
            go_simp
            with_reducible rfl
           rotate_left
           ·simp only [Act.put,zp1,zp2,zp3,i64_w,i32_w]
            rfl
           refine pure_ (i:=2) (N:=some 23) (v:=?_) (a':=?_) #[Y,Y,Y,X,X,X,X,X,X] rfl rfl zan (fun _ _ _ h=>h) (Or.inl ⟨by rfl,?_⟩) ?_ ?_
           rotate_left
           ·intro w'
            go_simp
            with_reducible rfl
           rotate_left
           ·simp only [Act.put,zp1,zp2,zp3,i64_w,i32_w]
            rfl
           refine pure_ (i:=4) (N:=some 25) (v:=?_) (a':=?_) #[Y,Y,Y,X,Y,X,X,X,X] rfl rfl zan (fun _ _ _ h=>h) (Or.inl ⟨by rfl,?_⟩) ?_ ?_
           rotate_left
           ·intro w'
            go_simp
            with_reducible rfl
           rotate_left
           ·simp only [Act.put,zp1,zp2,zp3,i64_w,i32_w]
            rfl
           refine pure_ (i:=5) (N:=some 26) (v:=?_) (a':=?_) #[Y,Y,Y,X,Y,Y,X,X,X] rfl rfl zan (fun _ _ _ h=>h) (Or.inl ⟨by rfl,?_⟩) ?_ ?_
           rotate_left
           ·intro w'
            go_simp
            with_reducible rfl
           rotate_left
           ·simp only [Act.put,zp1,zp2,zp3,i64_w,i32_w]
            rfl
           refine take_ (i:=3) (N:=some 24) (v:=?_) (a':=?_) #[Y,Y,Y,Y,Y,Y,X,X,X] rfl rfl ztw (fun _ _ _ h=>h) (Or.inl ⟨by rfl,?_⟩) hHeld ?_ ?_
           rotate_left
           ·rintro w' ⟨s0,s1,s2,s3⟩
            go_simp
            with_reducible rfl
           rotate_left
           ·simp only [Act.put,zp1,zp2,zp3,i64_w,i32_w]
            rfl
           refine take_ (i:=6) (N:=some 27) (v:=?_) (a':=?_) #[Y,Y,Y,Y,Y,Y,Y,X,X] rfl rfl ztw (fun _ _ _ h=>h) (Or.inl ⟨by rfl,?_⟩) hHeld ?_ ?_
           rotate_left
           ·rintro w' ⟨s0,s1,s2,s3⟩
            go_simp
            with_reducible rfl
           rotate_left
           ·simp only [Act.put,zp1,zp2,zp3,i64_w,i32_w]
            rfl
           refine one_ (i:=7) (N:=some 28) #[Y,Y,Y,Y,Y,Y,Y,Y,X] rfl rfl (one_of HT_.out (by kernel_rfl)) (by decide) (fun K hK=>?_)
           refine goes_f (.tmp 21) Tryz.func64 (by kernel_rfl) rfl #[.agg #[.slice A257_0 ((rd_T33 x0_1 0).f0).length c257_0,.int .i64 ((rd_T33 x0_1 0).f1)],.agg #[.slice A258_0 ((rd_T33 x1_1 0).f0).length c258_0,.int .i64 ((rd_T33 x1_1 0).f1)]] (by rfl) rfl rfl rfl zar ?_
           with_reducible refine (impl_cmpItem.calls k1 _ _ ((rd_T33 x0_1 0).f0) ((rd_T33 x0_1 0).f1) _ _ ((rd_T33 x1_1 0).f0) ((rd_T33 x1_1 0).f1) t259 _ ?side1 ?side2 ?side3 ?side4 A9.out).mono ?_
           (case side1=>exact zC (zC HR257_0.out))
           (case side2=>exact HC257_0.out)
           (case side3=>exact zC (zC HR258_0.out))
           (case side4=>exact HC258_0.out)
           rintro e w26 ⟨rfl,hb⟩
           have HS0_:=zhs hb hHeld.1
           have HS1_:=zhs hb hHeld.2.1
           have HS2_:=zhs hb hHeld.2.2.1
           have HS3_:=zhs hb hHeld.2.2.2
           refine ⟨_,rfl,?_⟩
           have n0_:=Aside0.mk (Kd.V_below (zV HO_0.out) hb)
           have n1_:=Aside0.mk (Kd.V_below (zV HO_1.out) hb)
           have n2_:=Aside0.mk (Kd.N_below (zN HO_9.out) hb)
           have n3_:=Aside0.mk (Kd.V_below (zV HL257_0.out) hb)
           have n4_:=Aside0.mk (Kd.V_below (zV HL258_0.out) hb)
           have n5_:=Aside0.mk (Kd.C_below (zC HR257_0.out) hb)
           have n6_:=Aside0.mk (Kd.C_below (zC HR258_0.out) hb)
           have n7_:=Aside0.mk (below_step zhb hb)
           clear HO_0
           clear HO_1
           clear HO_9
           clear HL257_0
           clear HL258_0
           clear HR257_0
           clear HR258_0
           clear HB
           have HO_0:=n0_
           have HO_1:=n1_
           have HO_9:=n2_
           have HL257_0:=n3_
           have HL258_0:=n4_
           have HR257_0:=n5_
           have HR258_0:=n6_
           have HB:=n7_
           clear n0_ n1_ n2_ n3_ n4_ n5_ n6_ n7_
           (try clear hb)
           (try clear hb2)
           (try clear hk)
           (try clear hi)
           refine hK.out _ _ ⟨HS0_,HS1_,HS2_,HS3_⟩ (fun hHeld=>?_)
           clear hK K
           refine norm_ (a':=?_) ?_ ?_
           rotate_left
           ·show Act.put _ (some 28) _=_
            simp only [Act.put,zp1,zp2,zp3,i64_w,i32_w]
            rfl
           refine pure_ (i:=8) (N:=some 10) (v:=?_) (a':=?_) #[Y,Y,Y,Y,Y,Y,Y,Y,Y] rfl rfl zan (fun _ _ _ h=>h) (Or.inl ⟨by rfl,?_⟩) ?_ ?_
           rotate_left
           ·intro w'
            go_simp
            with_reducible rfl
           rotate_left
           ·simp only [Act.put,zp1,zp2,zp3,i64_w,i32_w]
            rfl
           refine done_ (done_of HT_.out (by kernel_rfl)) ?_
           try go_wp2
           have n0_:=Aside0.mk (Kd.V_drew HO_0.out)
           have n1_:=Aside0.mk (Kd.V_drew HO_1.out)
           have n2_:=Aside0.mk (Kd.N_drew HO_9.out)
           have n3_:=Aside0.mk (Kd.V_drew HL257_0.out)
           have n4_:=Aside0.mk (Kd.V_drew HL258_0.out)
           have n5_:=Aside0.mk (Kd.C_drew HR257_0.out)
           have n6_:=Aside0.mk (Kd.C_drew HR258_0.out)
           have n7_:=Aside0.mk (below_drew1 HB.out)
           clear HO_0
           clear HO_1
           clear HO_9
           clear HL257_0
           clear HL258_0
           clear HR257_0
           clear HR258_0
           clear HB
           have HO_0:=n0_
           have HO_1:=n1_
           have HO_9:=n2_
           have HL257_0:=n3_
           have HL258_0:=n4_
           have HR257_0:=n5_
           have HR258_0:=n6_
           have HB:=n7_
           clear n0_ n1_ n2_ n3_ n4_ n5_ n6_ n7_
           have p269:0≤(0:Int):=(by omega)
           have q269:0 < (x1_1.length:Int):=zod
           obtain ⟨ad269,A269_0,c269_0,e269,hx269_0,hx269_1,hl269_0,hi269_0⟩:=at_T33 (Kd.V_reads' HO_1.out).2.2 0 p269 q269
           obtain rfl:ad258=ad269:=(by injection e269)
           obtain ⟨ce269,hce269,hMe269,hcc269⟩:=Kd.V_get HO_1.out z33 0 p269 (by first|exact q269|exact zod|(have e_:=(Kd.V_reads' HO_1.out).1;omega))
           obtain ⟨ua269_0,uc269_0,rfl,ul269_0,ge269_0⟩:=k33_openF hMe269
           have hv269_0:=hcc269 0 _ rfl
           rw [Nat.add_zero] at hv269_0
           replace hv269_0:=Option.some.inj (hv269_0.symm.trans hx269_0)
           injection hv269_0 with hva_ hvn_ hvc_
           rw [hva_] at ge269_0
           rw [hvc_] at ul269_0
           have HL269_0:=Aside0.mk (show Kd.V (Kd.int .i64) 3 _ w.heap.size _ _ ((rd_T33 x1_1 0).f0) from Kd.V_mk ul269_0 ge269_0)
           clear hva_ hvn_ hvc_ ge269_0 ul269_0
           clear hcc269 hce269
           have qi269:(0 < x1_1.length)=True:=eq_true (by omega)
           (try rw [show ((0:Int)).toNat=0 from rfl] at hx269_0)
           (try rw [show 0 * 2=0 from rfl] at hx269_0)
           (try rw [Addr.add_zero'] at hx269_0)
           (try rw [show ((0:Int)).toNat=0 from rfl] at hx269_1)
           (try rw [show 0 * 2=0 from rfl] at hx269_1)
           (try rw [Addr.add_zero'] at hx269_1)
           have HR269_0:=Aside0.mk hi269_0
           have HC269_0:=Aside0.mk hl269_0
           clear hi269_0 hl269_0
           replace p269:=eq_true p269
           replace q269:=eq_true q269
           have q28:(1:Int)≤((x1_1.length:Int):Int):=zod
           obtain ⟨i028,hi028,_,hsz28,_⟩:=info_parts info33
           have hroom28:x1_1.length≤co24:=(Kd.V_reads' HO_1.out).2.1
           have hC28:Kd.F k33 _ _ (some ad258) x1_1.length x1_1:=(Kd.V_at (base:=w.heap.size) HO_1.out).2.2
           have hcut28:=cut_from (P:=Tryz.prog) 23 33 .i64 Tryz.underlying23 hi028 2 hsz28 (some ad258) x1_1.length co24 1 (by omega) q28
           have hr28:=Kd.F_cut (m:=(1:Int).toNat) (c:=co24) hC28 (by omega) hroom28
           obtain ⟨A28,hA28⟩ : ∃ A1,A1=(if co24=(1:Int).toNat then (some ad258) else ((some ad258):Option Addr).map (·.add ((1:Int).toNat * 2))):=⟨_,rfl⟩
           obtain ⟨c28,hc28⟩ : ∃ c1,c1=co24 - (1:Int).toNat:=⟨_,rfl⟩
           have hy28:y273.length=x1_1.length - (1:Int).toNat:=(by rw [Ny273.out,List.length_drop] <;> omega)
           rw [show (x1_1).drop (1:Int).toNat=y273 from Ny273.out.symm] at hr28
           replace hr28:Kd.F k33 _ _ A28 y273.length y273:=(by rw [hA28];exact hr28)
           rw [← hy28,← hA28,← hc28] at hcut28
           have HO277:=Aside0.mk (show Kd.V k33 33 _ w.heap.size _ (.slice A28 y273.length c28) y273 from Kd.V_mk (by rw [hy28,hc28];exact Nat.sub_le_sub_right hroom28 _) hr28)
           have HC277:=Aside0.mk (show y273.length≤c28 from by rw [hy28,hc28];exact Nat.sub_le_sub_right hroom28 _)
           clear hr28 hC28 hroom28 hi028 hsz28 hc28
           have KY28:=Aside0.mk hy28
           have KA28:=Aside0.mk hA28
           clear hy28 hA28
           replace q28:=eq_true q28
           refine start_ (n:=10) (S:=fun w'=>w'.cell? ad258=some (.slice A269_0 ((rd_T33 x1_1 0).f0).length c269_0)∧w'.cell? ⟨ad258.block,ad258.off + 1,none⟩=some (.int .i64 ((rd_T33 x1_1 0).f1))) (ds:=[4,5]) #[X,X,X,X,X,X,X,X,X,X] (by kernel_rfl) rfl rfl ⟨hx269_0,hx269_1⟩ (fun hHeld=>?_);refine with_tabW impl_merged_impl_Item__impl_cmpItem_impl_together_1.tab11 impl_merged_impl_Item__impl_cmpItem_impl_together_1.bits11 (fun HT_ HW_=>?_)
           generalize w26.drew=w27 at HO_0 HO_1 HO_9 HL257_0 HL258_0 HR257_0 HR258_0 HB HL269_0 HO277 HR269_0 hx269_0 hx269_1 hHeld ⊢
           refine pure_ (i:=0) (N:=some 63) (v:=?_) (a':=?_) #[Y,X,X,X,X,X,X,X,X,X] rfl rfl zan (fun _ _ _ h=>h) (Or.inl ⟨by rfl,?_⟩) ?_ ?_
           rotate_left
           ·intro w'
            go_simp
            with_reducible rfl
           rotate_left
           ·simp only [Act.put,zp1,zp2,zp3,i64_w,i32_w]
            rfl
           refine pure_ (i:=1) (N:=some 64) (v:=?_) (a':=?_) #[Y,Y,X,X,X,X,X,X,X,X] rfl rfl zan (fun _ _ _ h=>h) (Or.inl ⟨by rfl,?_⟩) ?_ ?_
           rotate_left
           ·intro w'
            go_simp
            with_reducible rfl
           rotate_left
           ·simp only [Act.put,zp1,zp2,zp3,i64_w,i32_w]
            rfl
           refine pure_ (i:=2) (N:=some 65) (v:=?_) (a':=?_) #[Y,Y,Y,X,X,X,X,X,X,X] rfl rfl zan (fun _ _ _ h=>h) (Or.inl ⟨by rfl,?_⟩) ?_ ?_
           rotate_left
           ·intro w'
            go_simp
            with_reducible rfl
           rotate_left
           ·simp only [Act.put,zp1,zp2,zp3,i64_w,i32_w]
            rfl
           refine pure_ (i:=6) (N:=some 69) (v:=?_) (a':=?_) #[Y,Y,Y,X,X,X,Y,X,X,X] rfl rfl zan (fun _ _ _ h=>h) (Or.inl ⟨by rfl,?_⟩) ?_ ?_
           rotate_left
           ·intro w'
            go_simp
            with_reducible rfl
           rotate_left
           ·simp only [Act.put,zp1,zp2,zp3,i64_w,i32_w]
            rfl
           refine pure_ (i:=7) (N:=some 70) (v:=?_) (a':=?_) #[Y,Y,Y,X,X,X,Y,Y,X,X] rfl rfl zan (fun _ _ _ h=>h) (Or.inl ⟨by rfl,?_⟩) ?_ ?_
           rotate_left
           ·intro w'
            go_simp
            with_reducible rfl
           rotate_left
           ·simp only [Act.put,zp1,zp2,zp3,i64_w,i32_w]
            rfl
           refine take_ (i:=3) (N:=some 66) (v:=?_) (a':=?_) #[Y,Y,Y,Y,X,X,Y,Y,X,X] rfl rfl ztw (fun _ _ _ h=>h) (Or.inl ⟨by rfl,?_⟩) hHeld ?_ ?_
           rotate_left
           ·rintro w' ⟨s0,s1⟩
            go_simp
            with_reducible rfl
           rotate_left
           ·simp only [Act.put,zp1,zp2,zp3,i64_w,i32_w]
            rfl
           refine last_ (i:=4) (N:=some 67) #[Y,Y,Y,Y,Y,X,Y,Y,X,X] rfl rfl (one_of HT_.out (by kernel_rfl)) (by decide) (fun K hK=>?_)
           refine value_ (w1:=?_) (v:=?_) (by rfl) rfl ?_ ?_
           rotate_left 2
           ·go_simp
            constructor
            ·rfl
            ·rfl
           refine hK.out _ _ ?_
           clear hK K
           refine norm_ (a':=?_) ?_ ?_
           rotate_left
           ·show Act.put _ (some 67) _=_
            simp only [Act.put,zp1,zp2,zp3,i64_w,i32_w]
            rfl
           refine last_ (i:=5) (N:=some 68) #[Y,Y,Y,Y,Y,Y,Y,Y,X,X] rfl rfl (one_of HT_.out (by kernel_rfl)) (by decide) (fun K hK=>?_)
           refine Kd.N_append_step k33 (w0:=w) w.heap.size (by rfl) (.tmp 63) (.tmp 67) 23 33 (.agg #[(.slice none 0 0),(.int .i64 0)]) 32 rfl Tryz.underlying23 info33 rfl (by decide) (by omega) u9 x9_1 (⟨(rd_T33 x1_1 0).f0,(rd_T33 x1_1 0).f1⟩:S33) [.slice A269_0 ((rd_T33 x1_1 0).f0).length c269_0,.int .i64 ((rd_T33 x1_1 0).f1)] (fun k_=>((P0_ k_∨P1_ k_)∨w.heap.size≤k_)) (fun k_=>((fun k_=>((P0_ k_∨P1_ k_)∨w.heap.size≤k_))) k_∧some k_≠(u9:Value).ownBlock) rfl rfl ?aP (fun _ hk=>hk) ?aF ?aO ?aB ?aS ?aL ?_
           (case aP=>exact (k33_mkF _ _ (⟨(rd_T33 x1_1 0).f0,(rd_T33 x1_1 0).f1⟩:S33) (Kd.V_reads' (Kd.V_mono (ok':=(fun k_=>((fun k_=>((P0_ k_∨P1_ k_)∨w.heap.size≤k_))) k_∧some k_≠(u9:Value).ownBlock)) (HL269_0.out) (fun k_ hk=>⟨hk.1,hk.2⟩))).2.1 (Kd.V_F (Kd.V_mono (ok':=(fun k_=>((fun k_=>((P0_ k_∨P1_ k_)∨w.heap.size≤k_))) k_∧some k_≠(u9:Value).ownBlock)) (HL269_0.out) (fun k_ hk=>⟨hk.1,hk.2⟩)))))
           (case aB=>exact zhb)
           (case aF=>exact (fun k_ hk=>(.inr (Nat.le_trans (below_size zhb) hk))))
           (case aO=>exact (zN HO_9.out))
           (case aS=>exact (below_size zhb))
           (case aL=>have:=LMc21.out;omega)
           intro v271 w29 ho hb hg hat
           rw [← Ny270.out] at ho
           have n0_:=Aside0.mk (Kd.V_afterv (ok:=(fun k_=>((P0_ k_∨P1_ k_)∨w.heap.size≤k_))) (zV HO_0.out) hg hat)
           have n1_:=Aside0.mk (Kd.V_afterv (ok:=(fun k_=>((P0_ k_∨P1_ k_)∨w.heap.size≤k_))) (zV HO_1.out) hg hat)
           have n2_:=Aside0.mk (Kd.V_afterv (ok:=(fun k_=>((P0_ k_∨P1_ k_)∨w.heap.size≤k_))) (zV HL257_0.out) hg hat)
           have n3_:=Aside0.mk (Kd.V_afterv (ok:=(fun k_=>((P0_ k_∨P1_ k_)∨w.heap.size≤k_))) (zV HL258_0.out) hg hat)
           have n4_:=Aside0.mk (Kd.V_afterv (ok:=(fun k_=>((P0_ k_∨P1_ k_)∨w.heap.size≤k_))) (zV HL269_0.out) hg hat)
           have n5_:=Aside0.mk (Kd.V_afterv (ok:=(fun k_=>((P0_ k_∨P1_ k_)∨w.heap.size≤k_))) (zV HO277.out) hg hat)
           have n6_:=Aside0.mk (hb)
           have n7_:=Aside0.mk (ho)
           clear HO_0
           clear HO_1
           clear HL257_0
           clear HL258_0
           clear HL269_0
           clear HO277
           clear HB
           clear HO_9
           have HO_0:=n0_
           have HO_1:=n1_
           have HL257_0:=n2_
           have HL258_0:=n3_
           have HL269_0:=n4_
           have HO277:=n5_
           have HB:=n6_
           have HO272:=n7_
           clear n0_ n1_ n2_ n3_ n4_ n5_ n6_ n7_
           clear ho hb hg hat
           refine hK.out _ _ ?_
           clear hK K
           refine norm_ (a':=?_) ?_ ?_
           rotate_left
           ·show Act.put _ (some 68) _=_
            simp only [Act.put,zp1,zp2,zp3,i64_w,i32_w]
            rfl
           refine pure_ (i:=8) (N:=some 9) (v:=?_) (a':=?_) #[Y,Y,Y,Y,Y,Y,Y,Y,Y,X] rfl rfl zan (fun _ _ _ h=>h) (Or.inl ⟨by rfl,?_⟩) ?_ ?_
           rotate_left
           ·intro w'
            go_simp
            with_reducible rfl
           rotate_left
           ·simp only [Act.put,zp1,zp2,zp3,i64_w,i32_w]
            rfl
           refine pure_ (i:=9) (N:=some 1) (v:=?_) (a':=?_) #[Y,Y,Y,Y,Y,Y,Y,Y,Y,Y] rfl rfl zan (fun _ _ _ h=>h) (Or.inl ⟨by rfl,?_⟩) ?_ ?_
           rotate_left
           ·intro w'
            go_simp
            with_reducible rfl
           rotate_left
           ·simp only [Act.put,zp1,zp2,zp3,i64_w,i32_w]
            rfl
           refine done_ (done_of HT_.out (by kernel_rfl)) ?_
           try go_wp2
           go_roundg k1
           case measure=>have:=HK1.out;omega
           case rel=>exact ⟨(x0_1),(y273),(y270),H',⟨by have:=HK1.out;omega⟩,⟨by (with_reducible repeat (first|apply Kd.V_alloc|apply Kd.V_drewN|apply Kd.V_drew));exact HO_0.out⟩,⟨by (with_reducible repeat (first|apply Kd.V_alloc|apply Kd.V_drewN|apply Kd.V_drew));exact HO277.out⟩,⟨by (with_reducible repeat (first|apply Kd.N_alloc|apply Kd.N_drewN|apply Kd.N_drew));exact HO272.out⟩,⟨zhb⟩⟩
          ·rw [if_neg c22] at H
           exact absurd H (by simp)
         ·rw [if_neg c21] at H
          exact absurd H (by simp)
        ·rw [if_neg c20] at H
         have c20b0:decide (0 < t259)=false:=decide_eq_false c20
         clear c20
         replace H:=Option.bind_eq_some_iff.mp H
         obtain ⟨⟨t280,t283,t284⟩,A300,H⟩:=H
         (try dsimp only at H)
         have A30:=Aside0.mk A300
         clear A300
         by_cases c31:t284=true
         ·subst c31
          have H1:(if x9_1.length < 4398046511104 then (if 1≤(x0_1.length:Int) then (if 1≤(x1_1.length:Int) then (impl_merged_impl_Item__impl_cmpItem_impl_together_1.l0 k1 (x0_1.drop 1) (x1_1.drop 1) (x9_1 ++ [(⟨t280,t283⟩:S33)])) else (none)) else (none)) else (none))=some r:=by rw [if_pos rfl] at H;exact H
          clear H
          have H:=H1
          clear H1
          by_cases c32:x9_1.length < 4398046511104
          ·rw [if_pos c32] at H
           have LMc32:=Aside0.mk c32
           clear c32
           obtain ⟨y286,hy286⟩ : ∃ y_:List (S33),y_=(x9_1 ++ [(⟨t280,t283⟩:S33)]):=⟨_,rfl⟩
           replace H:(if 1≤(x0_1.length:Int) then (if 1≤(x1_1.length:Int) then (impl_merged_impl_Item__impl_cmpItem_impl_together_1.l0 k1 (x0_1.drop 1) (x1_1.drop 1) y286) else (none)) else (none))=some r:=by first|(rw [hy286];with_reducible exact H)|(have H2_:=(Option.bind_some _ _).symm.trans H;rw [hy286];with_reducible exact H2_)|(have H2_:=(Option.bind_some _ _).symm.trans H;with_reducible exact H2_)|with_reducible exact H|(rw [hy286];exact H)|exact H
           have Ny286:=Aside0.mk hy286
           clear hy286
           by_cases c33:1≤(x0_1.length:Int)
           ·rw [if_pos c33] at H
            have c33b0:=eq_true c33
            have c33b1:decide (1≤(x0_1.length:Int))=true:=decide_eq_true c33
            clear c33
            obtain ⟨y289,hy289⟩ : ∃ y_:List (S33),y_=(x0_1.drop 1):=⟨_,rfl⟩
            replace H:(if 1≤(x1_1.length:Int) then (impl_merged_impl_Item__impl_cmpItem_impl_together_1.l0 k1 y289 (x1_1.drop 1) y286) else (none))=some r:=by first|(rw [hy289];with_reducible exact H)|(have H2_:=(Option.bind_some _ _).symm.trans H;rw [hy289];with_reducible exact H2_)|(have H2_:=(Option.bind_some _ _).symm.trans H;with_reducible exact H2_)|with_reducible exact H|(rw [hy289];exact H)|exact H
            have Ny289:=Aside0.mk hy289
            clear hy289
            by_cases c34:1≤(x1_1.length:Int)
            ·rw [if_pos c34] at H
             have c34b0:=eq_true c34
             have c34b1:decide (1≤(x1_1.length:Int))=true:=decide_eq_true c34
             clear c34
             obtain ⟨y294,hy294⟩ : ∃ y_:List (S33),y_=(x1_1.drop 1):=⟨_,rfl⟩
             replace H:(impl_merged_impl_Item__impl_cmpItem_impl_together_1.l0 k1 y289 y294 y286)=some r:=by first|(rw [hy294];with_reducible exact H)|(have H2_:=(Option.bind_some _ _).symm.trans H;rw [hy294];with_reducible exact H2_)|(have H2_:=(Option.bind_some _ _).symm.trans H;with_reducible exact H2_)|with_reducible exact H|(rw [hy294];exact H)|exact H
             have Ny294:=Aside0.mk hy294
             clear hy294
             have H':=Aside0.mk H
             clear H
             obtain ⟨Ao35,co35,eo35⟩:=Kd.V_slice HO_0.out
             subst eo35
             obtain ⟨Ao36,co36,eo36⟩:=Kd.V_slice HO_1.out
             subst eo36
             try go_wp2
             have n0_:=Aside0.mk (Kd.V_drew HO_0.out)
             have n1_:=Aside0.mk (Kd.V_drew HO_1.out)
             have n2_:=Aside0.mk (Kd.N_drew HO_9.out)
             have n3_:=Aside0.mk (below_drew1 HB.out)
             clear HO_0
             clear HO_1
             clear HO_9
             clear HB
             have HO_0:=n0_
             have HO_1:=n1_
             have HO_9:=n2_
             have HB:=n3_
             clear n0_ n1_ n2_ n3_
             have p257:0≤(0:Int):=(by omega)
             have q257:0 < (x0_1.length:Int):=zod
             obtain ⟨ad257,A257_0,c257_0,e257,hx257_0,hx257_1,hl257_0,hi257_0⟩:=at_T33 (Kd.V_reads' HO_0.out).2.2 0 p257 q257
             cases e257
             obtain ⟨ce257,hce257,hMe257,hcc257⟩:=Kd.V_get HO_0.out z33 0 p257 (by first|exact q257|exact zod|(have e_:=(Kd.V_reads' HO_0.out).1;omega))
             obtain ⟨ua257_0,uc257_0,rfl,ul257_0,ge257_0⟩:=k33_openF hMe257
             have hv257_0:=hcc257 0 _ rfl
             rw [Nat.add_zero] at hv257_0
             replace hv257_0:=Option.some.inj (hv257_0.symm.trans hx257_0)
             injection hv257_0 with hva_ hvn_ hvc_
             rw [hva_] at ge257_0
             rw [hvc_] at ul257_0
             have HL257_0:=Aside0.mk (show Kd.V (Kd.int .i64) 3 _ w.heap.size _ _ ((rd_T33 x0_1 0).f0) from Kd.V_mk ul257_0 ge257_0)
             clear hva_ hvn_ hvc_ ge257_0 ul257_0
             clear hcc257 hce257
             have qi257:(0 < x0_1.length)=True:=eq_true (by omega)
             (try rw [show ((0:Int)).toNat=0 from rfl] at hx257_0)
             (try rw [show 0 * 2=0 from rfl] at hx257_0)
             (try rw [Addr.add_zero'] at hx257_0)
             (try rw [show ((0:Int)).toNat=0 from rfl] at hx257_1)
             (try rw [show 0 * 2=0 from rfl] at hx257_1)
             (try rw [Addr.add_zero'] at hx257_1)
             have HR257_0:=Aside0.mk hi257_0
             have HC257_0:=Aside0.mk hl257_0
             clear hi257_0 hl257_0
             replace p257:=eq_true p257
             replace q257:=eq_true q257
             have p258:0≤(0:Int):=(by omega)
             have q258:0 < (x1_1.length:Int):=zod
             obtain ⟨ad258,A258_0,c258_0,e258,hx258_0,hx258_1,hl258_0,hi258_0⟩:=at_T33 (Kd.V_reads' HO_1.out).2.2 0 p258 q258
             cases e258
             obtain ⟨ce258,hce258,hMe258,hcc258⟩:=Kd.V_get HO_1.out z33 0 p258 (by first|exact q258|exact zod|(have e_:=(Kd.V_reads' HO_1.out).1;omega))
             obtain ⟨ua258_0,uc258_0,rfl,ul258_0,ge258_0⟩:=k33_openF hMe258
             have hv258_0:=hcc258 0 _ rfl
             rw [Nat.add_zero] at hv258_0
             replace hv258_0:=Option.some.inj (hv258_0.symm.trans hx258_0)
             injection hv258_0 with hva_ hvn_ hvc_
             rw [hva_] at ge258_0
             rw [hvc_] at ul258_0
             have HL258_0:=Aside0.mk (show Kd.V (Kd.int .i64) 3 _ w.heap.size _ _ ((rd_T33 x1_1 0).f0) from Kd.V_mk ul258_0 ge258_0)
             clear hva_ hvn_ hvc_ ge258_0 ul258_0
             clear hcc258 hce258
             have qi258:(0 < x1_1.length)=True:=eq_true (by omega)
             (try rw [show ((0:Int)).toNat=0 from rfl] at hx258_0)
             (try rw [show 0 * 2=0 from rfl] at hx258_0)
             (try rw [Addr.add_zero'] at hx258_0)
             (try rw [show ((0:Int)).toNat=0 from rfl] at hx258_1)
             (try rw [show 0 * 2=0 from rfl] at hx258_1)
             (try rw [Addr.add_zero'] at hx258_1)
             have HR258_0:=Aside0.mk hi258_0
             have HC258_0:=Aside0.mk hl258_0
             clear hi258_0 hl258_0
             replace p258:=eq_true p258
             replace q258:=eq_true q258
             refine start_ (n:=9) (S:=fun w'=>w'.cell? ad257=some (.slice A257_0 ((rd_T33 x0_1 0).f0).length c257_0)∧w'.cell? ⟨ad257.block,ad257.off + 1,none⟩=some (.int .i64 ((rd_T33 x0_1 0).f1))∧w'.cell? ad258=some (.slice A258_0 ((rd_T33 x1_1 0).f0).length c258_0)∧w'.cell? ⟨ad258.block,ad258.off + 1,none⟩=some (.int .i64 ((rd_T33 x1_1 0).f1))) (ds:=[]) #[X,X,X,X,X,X,X,X,X] (by kernel_rfl) rfl rfl ⟨hx257_0,hx257_1,hx258_0,hx258_1⟩ (fun hHeld=>?_);refine with_tabW impl_merged_impl_Item__impl_cmpItem_impl_together_1.tab3 impl_merged_impl_Item__impl_cmpItem_impl_together_1.bits3 (fun HT_ HW_=>?_)
             generalize wr.drew=w37 at HO_0 HO_1 HO_9 HB HL257_0 HL258_0 HR257_0 HR258_0 hx257_0 hx257_1 hx258_0 hx258_1 hHeld ⊢
             refine pure_ (i:=0) (N:=some 21) (v:=?_) (a':=?_) #[Y,X,X,X,X,X,X,X,X] rfl rfl zan (fun _ _ _ h=>h) (Or.inl ⟨by rfl,?_⟩) ?_ ?_
             rotate_left
             ·intro w'
              go_simp
              with_reducible rfl
             rotate_left
             ·simp only [Act.put,zp1,zp2,zp3,i64_w,i32_w]
              rfl
             refine pure_ (i:=1) (N:=some 22) (v:=?_) (a':=?_) #[Y,Y,X,X,X,X,X,X,X] rfl rfl zan (fun _ _ _ h=>h) (Or.inl ⟨by rfl,?_⟩) ?_ ?_
             rotate_left
             ·intro w'
              go_simp
              with_reducible rfl
             rotate_left
             ·simp only [Act.put,zp1,zp2,zp3,i64_w,i32_w]
              rfl
             refine pure_ (i:=2) (N:=some 23) (v:=?_) (a':=?_) #[Y,Y,Y,X,X,X,X,X,X] rfl rfl zan (fun _ _ _ h=>h) (Or.inl ⟨by rfl,?_⟩) ?_ ?_
             rotate_left
             ·intro w'
              go_simp
              with_reducible rfl
             rotate_left
             ·simp only [Act.put,zp1,zp2,zp3,i64_w,i32_w]
              rfl
             refine pure_ (i:=4) (N:=some 25) (v:=?_) (a':=?_) #[Y,Y,Y,X,Y,X,X,X,X] rfl rfl zan (fun _ _ _ h=>h) (Or.inl ⟨by rfl,?_⟩) ?_ ?_
             rotate_left
             ·intro w'
              go_simp
              with_reducible rfl
             rotate_left
             ·simp only [Act.put,zp1,zp2,zp3,i64_w,i32_w]
              rfl
             refine pure_ (i:=5) (N:=some 26) (v:=?_) (a':=?_) #[Y,Y,Y,X,Y,Y,X,X,X] rfl rfl zan (fun _ _ _ h=>h) (Or.inl ⟨by rfl,?_⟩) ?_ ?_
             rotate_left
             ·intro w'
              go_simp
              with_reducible rfl
             rotate_left
             ·simp only [Act.put,zp1,zp2,zp3,i64_w,i32_w]
              rfl
             refine take_ (i:=3) (N:=some 24) (v:=?_) (a':=?_) #[Y,Y,Y,Y,Y,Y,X,X,X] rfl rfl ztw (fun _ _ _ h=>h) (Or.inl ⟨by rfl,?_⟩) hHeld ?_ ?_
             rotate_left
             ·rintro w' ⟨s0,s1,s2,s3⟩
              go_simp
              with_reducible rfl
             rotate_left
             ·simp only [Act.put,zp1,zp2,zp3,i64_w,i32_w]
              rfl
             refine take_ (i:=6) (N:=some 27) (v:=?_) (a':=?_) #[Y,Y,Y,Y,Y,Y,Y,X,X] rfl rfl ztw (fun _ _ _ h=>h) (Or.inl ⟨by rfl,?_⟩) hHeld ?_ ?_
             rotate_left
             ·rintro w' ⟨s0,s1,s2,s3⟩
              go_simp
              with_reducible rfl
             rotate_left
             ·simp only [Act.put,zp1,zp2,zp3,i64_w,i32_w]
              rfl
             refine one_ (i:=7) (N:=some 28) #[Y,Y,Y,Y,Y,Y,Y,Y,X] rfl rfl (one_of HT_.out (by kernel_rfl)) (by decide) (fun K hK=>?_)
             refine goes_f (.tmp 21) Tryz.func64 (by kernel_rfl) rfl #[.agg #[.slice A257_0 ((rd_T33 x0_1 0).f0).length c257_0,.int .i64 ((rd_T33 x0_1 0).f1)],.agg #[.slice A258_0 ((rd_T33 x1_1 0).f0).length c258_0,.int .i64 ((rd_T33 x1_1 0).f1)]] (by rfl) rfl rfl rfl zar ?_
             with_reducible refine (impl_cmpItem.calls k1 _ _ ((rd_T33 x0_1 0).f0) ((rd_T33 x0_1 0).f1) _ _ ((rd_T33 x1_1 0).f0) ((rd_T33 x1_1 0).f1) t259 _ ?side1 ?side2 ?side3 ?side4 A9.out).mono ?_
             (case side1=>exact zC (zC HR257_0.out))
             (case side2=>exact HC257_0.out)
             (case side3=>exact zC (zC HR258_0.out))
             (case side4=>exact HC258_0.out)
             rintro e w38 ⟨rfl,hb⟩
             have HS0_:=zhs hb hHeld.1
             have HS1_:=zhs hb hHeld.2.1
             have HS2_:=zhs hb hHeld.2.2.1
             have HS3_:=zhs hb hHeld.2.2.2
             refine ⟨_,rfl,?_⟩
             have n0_:=Aside0.mk (Kd.V_below (zV HO_0.out) hb)
             have n1_:=Aside0.mk (Kd.V_below (zV HO_1.out) hb)
             have n2_:=Aside0.mk (Kd.N_below (zN HO_9.out) hb)
             have n3_:=Aside0.mk (Kd.V_below (zV HL257_0.out) hb)
             have n4_:=Aside0.mk (Kd.V_below (zV HL258_0.out) hb)
             have n5_:=Aside0.mk (Kd.C_below (zC HR257_0.out) hb)
             have n6_:=Aside0.mk (Kd.C_below (zC HR258_0.out) hb)
             have n7_:=Aside0.mk (below_step zhb hb)
             clear HO_0
             clear HO_1
             clear HO_9
             clear HL257_0
             clear HL258_0
             clear HR257_0
             clear HR258_0
             clear HB
             have HO_0:=n0_
             have HO_1:=n1_
             have HO_9:=n2_
             have HL257_0:=n3_
             have HL258_0:=n4_
             have HR257_0:=n5_
             have HR258_0:=n6_
             have HB:=n7_
             clear n0_ n1_ n2_ n3_ n4_ n5_ n6_ n7_
             (try clear hb)
             (try clear hb2)
             (try clear hk)
             (try clear hi)
             refine hK.out _ _ ⟨HS0_,HS1_,HS2_,HS3_⟩ (fun hHeld=>?_)
             clear hK K
             refine norm_ (a':=?_) ?_ ?_
             rotate_left
             ·show Act.put _ (some 28) _=_
              simp only [Act.put,zp1,zp2,zp3,i64_w,i32_w]
              rfl
             refine pure_ (i:=8) (N:=some 10) (v:=?_) (a':=?_) #[Y,Y,Y,Y,Y,Y,Y,Y,Y] rfl rfl zan (fun _ _ _ h=>h) (Or.inl ⟨by rfl,?_⟩) ?_ ?_
             rotate_left
             ·intro w'
              go_simp
              with_reducible rfl
             rotate_left
             ·simp only [Act.put,zp1,zp2,zp3,i64_w,i32_w]
              rfl
             refine done_ (done_of HT_.out (by kernel_rfl)) ?_
             try go_wp2
             have n0_:=Aside0.mk (Kd.V_drew HO_0.out)
             have n1_:=Aside0.mk (Kd.V_drew HO_1.out)
             have n2_:=Aside0.mk (Kd.N_drew HO_9.out)
             have n3_:=Aside0.mk (Kd.V_drew HL257_0.out)
             have n4_:=Aside0.mk (Kd.V_drew HL258_0.out)
             have n5_:=Aside0.mk (Kd.C_drew HR257_0.out)
             have n6_:=Aside0.mk (Kd.C_drew HR258_0.out)
             have n7_:=Aside0.mk (below_drew1 HB.out)
             clear HO_0
             clear HO_1
             clear HO_9
             clear HL257_0
             clear HL258_0
             clear HR257_0
             clear HR258_0
             clear HB
             have HO_0:=n0_
             have HO_1:=n1_
             have HO_9:=n2_
             have HL257_0:=n3_
             have HL258_0:=n4_
             have HR257_0:=n5_
             have HR258_0:=n6_
             have HB:=n7_
             clear n0_ n1_ n2_ n3_ n4_ n5_ n6_ n7_
             have p278:0≤(0:Int):=(by omega)
             have q278:0 < (x0_1.length:Int):=zod
             obtain ⟨ad278,A278_0,c278_0,e278,hx278_0,hx278_1,hl278_0,hi278_0⟩:=at_T33 (Kd.V_reads' HO_0.out).2.2 0 p278 q278
             obtain rfl:ad257=ad278:=(by injection e278)
             obtain ⟨ce278,hce278,hMe278,hcc278⟩:=Kd.V_get HO_0.out z33 0 p278 (by first|exact q278|exact zod|(have e_:=(Kd.V_reads' HO_0.out).1;omega))
             obtain ⟨ua278_0,uc278_0,rfl,ul278_0,ge278_0⟩:=k33_openF hMe278
             have hv278_0:=hcc278 0 _ rfl
             rw [Nat.add_zero] at hv278_0
             replace hv278_0:=Option.some.inj (hv278_0.symm.trans hx278_0)
             injection hv278_0 with hva_ hvn_ hvc_
             rw [hva_] at ge278_0
             rw [hvc_] at ul278_0
             have HL278_0:=Aside0.mk (show Kd.V (Kd.int .i64) 3 _ w.heap.size _ _ ((rd_T33 x0_1 0).f0) from Kd.V_mk ul278_0 ge278_0)
             clear hva_ hvn_ hvc_ ge278_0 ul278_0
             clear hcc278 hce278
             have qi278:(0 < x0_1.length)=True:=eq_true (by omega)
             (try rw [show ((0:Int)).toNat=0 from rfl] at hx278_0)
             (try rw [show 0 * 2=0 from rfl] at hx278_0)
             (try rw [Addr.add_zero'] at hx278_0)
             (try rw [show ((0:Int)).toNat=0 from rfl] at hx278_1)
             (try rw [show 0 * 2=0 from rfl] at hx278_1)
             (try rw [Addr.add_zero'] at hx278_1)
             have HR278_0:=Aside0.mk hi278_0
             have HC278_0:=Aside0.mk hl278_0
             clear hi278_0 hl278_0
             replace p278:=eq_true p278
             replace q278:=eq_true q278
             have p279:0≤(0:Int):=(by omega)
             have q279:0 < (x1_1.length:Int):=zod
             obtain ⟨ad279,A279_0,c279_0,e279,hx279_0,hx279_1,hl279_0,hi279_0⟩:=at_T33 (Kd.V_reads' HO_1.out).2.2 0 p279 q279
             obtain rfl:ad258=ad279:=(by injection e279)
             obtain ⟨ce279,hce279,hMe279,hcc279⟩:=Kd.V_get HO_1.out z33 0 p279 (by first|exact q279|exact zod|(have e_:=(Kd.V_reads' HO_1.out).1;omega))
             obtain ⟨ua279_0,uc279_0,rfl,ul279_0,ge279_0⟩:=k33_openF hMe279
             have hv279_0:=hcc279 0 _ rfl
             rw [Nat.add_zero] at hv279_0
             replace hv279_0:=Option.some.inj (hv279_0.symm.trans hx279_0)
             injection hv279_0 with hva_ hvn_ hvc_
             rw [hva_] at ge279_0
             rw [hvc_] at ul279_0
             have HL279_0:=Aside0.mk (show Kd.V (Kd.int .i64) 3 _ w.heap.size _ _ ((rd_T33 x1_1 0).f0) from Kd.V_mk ul279_0 ge279_0)
             clear hva_ hvn_ hvc_ ge279_0 ul279_0
             clear hcc279 hce279
             have qi279:(0 < x1_1.length)=True:=eq_true (by omega)
             (try rw [show ((0:Int)).toNat=0 from rfl] at hx279_0)
             (try rw [show 0 * 2=0 from rfl] at hx279_0)
             (try rw [Addr.add_zero'] at hx279_0)
             (try rw [show ((0:Int)).toNat=0 from rfl] at hx279_1)
             (try rw [show 0 * 2=0 from rfl] at hx279_1)
             (try rw [Addr.add_zero'] at hx279_1)
             have HR279_0:=Aside0.mk hi279_0
             have HC279_0:=Aside0.mk hl279_0
             clear hi279_0 hl279_0
             replace p279:=eq_true p279
             replace q279:=eq_true q279
             refine start_ (n:=14) (S:=fun w'=>w'.cell? ad257=some (.slice A278_0 ((rd_T33 x0_1 0).f0).length c278_0)∧w'.cell? ⟨ad257.block,ad257.off + 1,none⟩=some (.int .i64 ((rd_T33 x0_1 0).f1))∧w'.cell? ad258=some (.slice A279_0 ((rd_T33 x1_1 0).f0).length c279_0)∧w'.cell? ⟨ad258.block,ad258.off + 1,none⟩=some (.int .i64 ((rd_T33 x1_1 0).f1))) (ds:=[]) #[X,X,X,X,X,X,X,X,X,X,X,X,X,X] (by kernel_rfl) rfl rfl ⟨hx278_0,hx278_1,hx279_0,hx279_1⟩ (fun hHeld=>?_);refine with_tabW impl_merged_impl_Item__impl_cmpItem_impl_together_1.tab4 impl_merged_impl_Item__impl_cmpItem_impl_together_1.bits4 (fun HT_ HW_=>?_)
             generalize w38.drew=w39 at HO_0 HO_1 HO_9 HL257_0 HL258_0 HR257_0 HR258_0 HB HL278_0 HL279_0 HR278_0 HR279_0 hx278_0 hx278_1 hx279_0 hx279_1 hHeld ⊢
             refine pure_ (i:=0) (N:=some 30) (v:=?_) (a':=?_) #[Y,X,X,X,X,X,X,X,X,X,X,X,X,X] rfl rfl zan (fun _ _ _ h=>h) (Or.inl ⟨by rfl,?_⟩) ?_ ?_
             rotate_left
             ·intro w'
              go_simp
              with_reducible rfl
             rotate_left
             ·simp only [Act.put,zp1,zp2,zp3,i64_w,i32_w]
              rfl
             refine pure_ (i:=1) (N:=some 31) (v:=?_) (a':=?_) #[Y,Y,X,X,X,X,X,X,X,X,X,X,X,X] rfl rfl zan (fun _ _ _ h=>h) (Or.inl ⟨by rfl,?_⟩) ?_ ?_
             rotate_left
             ·intro w'
              go_simp
              with_reducible rfl
             rotate_left
             ·simp only [Act.put,zp1,zp2,zp3,i64_w,i32_w]
              rfl
             refine pure_ (i:=2) (N:=some 32) (v:=?_) (a':=?_) #[Y,Y,Y,X,X,X,X,X,X,X,X,X,X,X] rfl rfl zan (fun _ _ _ h=>h) (Or.inl ⟨by rfl,?_⟩) ?_ ?_
             rotate_left
             ·intro w'
              go_simp
              with_reducible rfl
             rotate_left
             ·simp only [Act.put,zp1,zp2,zp3,i64_w,i32_w]
              rfl
             refine pure_ (i:=4) (N:=some 34) (v:=?_) (a':=?_) #[Y,Y,Y,X,Y,X,X,X,X,X,X,X,X,X] rfl rfl zan (fun _ _ _ h=>h) (Or.inl ⟨by rfl,?_⟩) ?_ ?_
             rotate_left
             ·intro w'
              go_simp
              with_reducible rfl
             rotate_left
             ·simp only [Act.put,zp1,zp2,zp3,i64_w,i32_w]
              rfl
             refine pure_ (i:=5) (N:=some 35) (v:=?_) (a':=?_) #[Y,Y,Y,X,Y,Y,X,X,X,X,X,X,X,X] rfl rfl zan (fun _ _ _ h=>h) (Or.inl ⟨by rfl,?_⟩) ?_ ?_
             rotate_left
             ·intro w'
              go_simp
              with_reducible rfl
             rotate_left
             ·simp only [Act.put,zp1,zp2,zp3,i64_w,i32_w]
              rfl
             refine take_ (i:=3) (N:=some 33) (v:=?_) (a':=?_) #[Y,Y,Y,Y,Y,Y,X,X,X,X,X,X,X,X] rfl rfl ztw (fun _ _ _ h=>h) (Or.inl ⟨by rfl,?_⟩) hHeld ?_ ?_
             rotate_left
             ·rintro w' ⟨s0,s1,s2,s3⟩
              go_simp
              with_reducible rfl
             rotate_left
             ·simp only [Act.put,zp1,zp2,zp3,i64_w,i32_w]
              rfl
             refine take_ (i:=6) (N:=some 36) (v:=?_) (a':=?_) #[Y,Y,Y,Y,Y,Y,Y,X,X,X,X,X,X,X] rfl rfl ztw (fun _ _ _ h=>h) (Or.inl ⟨by rfl,?_⟩) hHeld ?_ ?_
             rotate_left
             ·rintro w' ⟨s0,s1,s2,s3⟩
              go_simp
              with_reducible rfl
             rotate_left
             ·simp only [Act.put,zp1,zp2,zp3,i64_w,i32_w]
              rfl
             refine join_ (σ:=Value × Nat) 2 #[Y,Y,Y,Y,Y,Y,Y,Y,Y,Y,Y,Y,X,X] (fun s_=>[(37,.tuple #[.agg #[s_.1,.int .i64 t283],.bool true]),(11,.pointer (some ⟨s_.2,0,none⟩)),(29,.tuple #[.agg #[s_.1,.int .i64 t283],.bool true]),(38,.agg #[s_.1,.int .i64 t283]),(39,.bool true)]) (fun s_ w'=>(w'.cell? ad257=some (.slice A278_0 ((rd_T33 x0_1 0).f0).length c278_0)∧w'.cell? ⟨ad257.block,ad257.off + 1,none⟩=some (.int .i64 ((rd_T33 x0_1 0).f1))∧w'.cell? ad258=some (.slice A279_0 ((rd_T33 x1_1 0).f0).length c279_0)∧w'.cell? ⟨ad258.block,ad258.off + 1,none⟩=some (.int .i64 ((rd_T33 x1_1 0).f1)))∧(Kd.V (Kd.int .i64) 3 w' w.heap.size (fun k_=>((P0_ k_∨P1_ k_)∨w.heap.size≤k_)∧some k_≠(u9:Value).ownBlock∧k_≠s_.2) (.slice A257_0 ((rd_T33 x0_1 0).f0).length c257_0) ((rd_T33 x0_1 0).f0))∧(Kd.V (Kd.int .i64) 3 w' w.heap.size (fun k_=>((P0_ k_∨P1_ k_)∨w.heap.size≤k_)∧some k_≠(u9:Value).ownBlock∧k_≠s_.2) (.slice A258_0 ((rd_T33 x1_1 0).f0).length c258_0) ((rd_T33 x1_1 0).f0))∧(Kd.V (Kd.int .i64) 3 w' w.heap.size (fun k_=>((P0_ k_∨P1_ k_)∨w.heap.size≤k_)∧some k_≠(u9:Value).ownBlock∧k_≠s_.2) (.slice A278_0 ((rd_T33 x0_1 0).f0).length c278_0) ((rd_T33 x0_1 0).f0))∧(Kd.V (Kd.int .i64) 3 w' w.heap.size (fun k_=>((P0_ k_∨P1_ k_)∨w.heap.size≤k_)∧some k_≠(u9:Value).ownBlock∧k_≠s_.2) (.slice A279_0 ((rd_T33 x1_1 0).f0).length c279_0) ((rd_T33 x1_1 0).f0))∧(Kd.V (Kd.int .i64) 3 w' w.heap.size (fun k_=>((P0_ k_∨P1_ k_)∨w.heap.size≤k_)∧some k_≠(u9:Value).ownBlock∧k_≠s_.2) s_.1 t280)∧(Kd.V k33 33 w' w.heap.size (fun k_=>((P0_ k_∨P1_ k_)∨w.heap.size≤k_)∧some k_≠(u9:Value).ownBlock∧k_≠s_.2) (.slice (some ad257) x0_1.length co35) x0_1)∧(Kd.V k33 33 w' w.heap.size (fun k_=>((P0_ k_∨P1_ k_)∨w.heap.size≤k_)∧some k_≠(u9:Value).ownBlock∧k_≠s_.2) (.slice (some ad258) x1_1.length co36) x1_1)∧(Kd.N k33 33 w' w.heap.size (fun k_=>((P0_ k_∨P1_ k_)∨w.heap.size≤k_)∧k_≠s_.2) u9 x9_1)∧(w'.heap[s_.2]?=some (.cells #[.slice none 0 0,.int .i64 0] 33 (0,0)))∧(w.heap.size≤s_.2)∧(w.heap.size≤s_.2)∧(Below w.heap.size w w')) ?_ ?_
             rotate_left
             ·intro hCont
              refine two_ (i:=7) (j:=11) (Ni:=some 37) (Nj:=some 11) #[Y,Y,Y,Y,Y,Y,Y,Y,X,X,X,X,X,X] #[Y,Y,Y,Y,Y,Y,Y,X,X,X,X,Y,X,X] rfl rfl rfl rfl (two_of HT_.out (by kernel_rfl)) (by decide) (by decide) (fun K hK=>?_) (fun K hK=>?_)
              ·skip
               refine goes_f (.tmp 30) Tryz.func65 (by kernel_rfl) rfl #[.agg #[.slice A278_0 ((rd_T33 x0_1 0).f0).length c278_0,.int .i64 ((rd_T33 x0_1 0).f1)],.agg #[.slice A279_0 ((rd_T33 x1_1 0).f0).length c279_0,.int .i64 ((rd_T33 x1_1 0).f1)]] (by rfl) rfl rfl rfl zar ?_
               with_reducible refine (impl_together_1.calls (fun k_=>(((P0_ k_∨P1_ k_)∨w.heap.size≤k_)∧some k_≠(u9:Value).ownBlock)) _ _ ((rd_T33 x0_1 0).f0) ((rd_T33 x0_1 0).f1) _ _ ((rd_T33 x1_1 0).f0) ((rd_T33 x1_1 0).f1) t280 t283 true _ ?side1 ?side2 ?side3 A30.out).mono ?_
               (case side1=>exact HL278_0.out)
               (case side2=>exact zC (zC HR279_0.out))
               (case side3=>exact HC279_0.out)
               rintro e w40 ⟨v281,rfl,ho0,hb⟩
               have HS0_:=zhs hb hHeld.1
               have HS1_:=zhs hb hHeld.2.1
               have HS2_:=zhs hb hHeld.2.2.1
               have HS3_:=zhs hb hHeld.2.2.2
               refine ⟨_,rfl,?_⟩
               have n0_:=Aside0.mk (Kd.V_below (zV HO_0.out) hb)
               have n1_:=Aside0.mk (Kd.V_below (zV HO_1.out) hb)
               have n2_:=Aside0.mk (Kd.N_below (zN HO_9.out) hb)
               have n3_:=Aside0.mk (Kd.V_below (zV HL257_0.out) hb)
               have n4_:=Aside0.mk (Kd.V_below (zV HL258_0.out) hb)
               have n5_:=Aside0.mk (Kd.V_below (zV HL278_0.out) hb)
               have n6_:=Aside0.mk (Kd.V_below (zV HL279_0.out) hb)
               have n7_:=Aside0.mk (Kd.V_lower (Kd.V_mono (ok':=fun k_=>((P0_ k_∨P1_ k_)∨w.heap.size≤k_)∧some k_≠(u9:Value).ownBlock) ho0 (fun k_ hk_=>⟨Or.elim hk_ (fun hs_=>hs_.1) (fun hn_=>(.inr (Nat.le_trans (below_size zhb) hn_))),Or.elim hk_ (fun hs_=>hs_.2) (fun hn_=>(Kd.fresh' (Kd.N_lt (zN HO_9.out)) k_ hn_))⟩)) (below_size zhb))
               have n8_:=Aside0.mk (Kd.C_below (zC HR257_0.out) hb)
               have n9_:=Aside0.mk (Kd.C_below (zC HR258_0.out) hb)
               have n10_:=Aside0.mk (Kd.C_below (zC HR278_0.out) hb)
               have n11_:=Aside0.mk (Kd.C_below (zC HR279_0.out) hb)
               have n12_:=Aside0.mk (below_step zhb hb)
               clear HO_0
               clear HO_1
               clear HO_9
               clear HL257_0
               clear HL258_0
               clear HL278_0
               clear HL279_0
               clear HR257_0
               clear HR258_0
               clear HR278_0
               clear HR279_0
               clear HB
               have HO_0:=n0_
               have HO_1:=n1_
               have HO_9:=n2_
               have HL257_0:=n3_
               have HL258_0:=n4_
               have HL278_0:=n5_
               have HL279_0:=n6_
               have HO282:=n7_
               have HR257_0:=n8_
               have HR258_0:=n9_
               have HR278_0:=n10_
               have HR279_0:=n11_
               have HB:=n12_
               clear n0_ n1_ n2_ n3_ n4_ n5_ n6_ n7_ n8_ n9_ n10_ n11_ n12_
               (try clear hb)
               (try clear hb2)
               (try clear hk)
               (try clear hi)
               (try clear ho0)
               refine hK.out _ _ ⟨HS0_,HS1_,HS2_,HS3_⟩ (fun hHeld=>?_)
               clear hK K
               refine norm_ (a':=?_) ?_ ?_
               rotate_left
               ·show Act.put _ (some 37) _=_
                simp only [Act.put,zp1,zp2,zp3,i64_w,i32_w]
                rfl
               refine pure_ (i:=8) (N:=some 29) (v:=?_) (a':=?_) #[Y,Y,Y,Y,Y,Y,Y,Y,Y,X,X,X,X,X] rfl rfl zan (fun _ _ _ h=>h) (Or.inl ⟨by rfl,?_⟩) ?_ ?_
               rotate_left
               ·intro w'
                go_simp
                with_reducible rfl
               rotate_left
               ·simp only [Act.put,zp1,zp2,zp3,i64_w,i32_w]
                rfl
               refine pure_ (i:=9) (N:=some 38) (v:=?_) (a':=?_) #[Y,Y,Y,Y,Y,Y,Y,Y,Y,Y,X,X,X,X] rfl rfl zan (fun _ _ _ h=>h) (Or.inl ⟨by rfl,?_⟩) ?_ ?_
               rotate_left
               ·intro w'
                go_simp
                with_reducible rfl
               rotate_left
               ·simp only [Act.put,zp1,zp2,zp3,i64_w,i32_w]
                rfl
               refine pure_ (i:=10) (N:=some 39) (v:=?_) (a':=?_) #[Y,Y,Y,Y,Y,Y,Y,Y,Y,Y,Y,X,X,X] rfl rfl zan (fun _ _ _ h=>h) (Or.inl ⟨by rfl,?_⟩) ?_ ?_
               rotate_left
               ·intro w'
                go_simp
                with_reducible rfl
               rotate_left
               ·simp only [Act.put,zp1,zp2,zp3,i64_w,i32_w]
                rfl
               refine one_ (i:=11) (N:=some 11) #[Y,Y,Y,Y,Y,Y,Y,Y,Y,Y,Y,Y,X,X] rfl rfl (one_of HT_.out (by kernel_rfl)) (by decide) (fun K hK=>?_)
               refine box_step ?hg (N:=11) ?hd (cs:=#[.slice none 0 0,.int .i64 0]) (t:=33) ?hr ?_;(case hd=>rfl);(case hg=>rfl);(case hr=>first|(go_simp;done)|(go_simp;rfl))
               intro gb285 hg w41 hbox hb
               have HS0_:=zhs hb hHeld.1
               have HS1_:=zhs hb hHeld.2.1
               have HS2_:=zhs hb hHeld.2.2.1
               have HS3_:=zhs hb hHeld.2.2.2
               have n0_:=Aside0.mk (Kd.V_below (Kd.V_elderB (zV HO_0.out) gb285 (Nat.le_of_eq hg.symm)) hb)
               have n1_:=Aside0.mk (Kd.V_below (Kd.V_elderB (zV HO_1.out) gb285 (Nat.le_of_eq hg.symm)) hb)
               have n2_:=Aside0.mk (Kd.N_below (Kd.N_elderB (zN HO_9.out) gb285 (Nat.le_of_eq hg.symm)) hb)
               have n3_:=Aside0.mk (Kd.V_below (Kd.V_elderB (zV HL257_0.out) gb285 (Nat.le_of_eq hg.symm)) hb)
               have n4_:=Aside0.mk (Kd.V_below (Kd.V_elderB (zV HL258_0.out) gb285 (Nat.le_of_eq hg.symm)) hb)
               have n5_:=Aside0.mk (Kd.V_below (Kd.V_elderB (zV HL278_0.out) gb285 (Nat.le_of_eq hg.symm)) hb)
               have n6_:=Aside0.mk (Kd.V_below (Kd.V_elderB (zV HL279_0.out) gb285 (Nat.le_of_eq hg.symm)) hb)
               have n7_:=Aside0.mk (Kd.V_below (Kd.V_elderB (zV HO282.out) gb285 (Nat.le_of_eq hg.symm)) hb)
               have n8_:=Aside0.mk (Kd.C_below (zC HR257_0.out) hb)
               have n9_:=Aside0.mk (Kd.C_below (zC HR258_0.out) hb)
               have n10_:=Aside0.mk (Kd.C_below (zC HR278_0.out) hb)
               have n11_:=Aside0.mk (Kd.C_below (zC HR279_0.out) hb)
               have n12_:=Aside0.mk (below_step zhb hb)
               have n13_:=Aside0.mk (hbox)
               have n14_:=Aside0.mk ((by rw [hg];exact (below_size zhb):w.heap.size≤gb285))
               have n15_:=Aside0.mk ((by rw [hg];exact (below_size zhb):w.heap.size≤gb285))
               clear HO_0
               clear HO_1
               clear HO_9
               clear HL257_0
               clear HL258_0
               clear HL278_0
               clear HL279_0
               clear HO282
               clear HR257_0
               clear HR258_0
               clear HR278_0
               clear HR279_0
               clear HB
               have HO_0:=n0_
               have HO_1:=n1_
               have HO_9:=n2_
               have HL257_0:=n3_
               have HL258_0:=n4_
               have HL278_0:=n5_
               have HL279_0:=n6_
               have HO282:=n7_
               have HR257_0:=n8_
               have HR258_0:=n9_
               have HR278_0:=n10_
               have HR279_0:=n11_
               have HB:=n12_
               have BK285:=n13_
               have GW285:=n14_
               have GE285:=n15_
               clear n0_ n1_ n2_ n3_ n4_ n5_ n6_ n7_ n8_ n9_ n10_ n11_ n12_ n13_ n14_ n15_
               clear hb hbox hg
               refine hK.out _ _ ⟨HS0_,HS1_,HS2_,HS3_⟩ (fun hHeld=>?_)
               clear hK K
               refine norm_ (a':=?_) ?_ ?_
               rotate_left
               ·show Act.put _ (some 11) _=_
                simp only [Act.put,zp1,zp2,zp3,i64_w,i32_w]
                rfl
               exact norm_ (by simp only [putAll,Act.put,zp1,zp2,zp3]) (hCont (v281,gb285) _ ⟨hHeld,(by (with_reducible repeat (first|apply Kd.V_alloc|apply Kd.V_drewN|apply Kd.V_drew));exact Kd.V_mono HL257_0.out (fun _ hk=>⟨hk.1.1,⟨hk.1.2,hk.2⟩⟩)),(by (with_reducible repeat (first|apply Kd.V_alloc|apply Kd.V_drewN|apply Kd.V_drew));exact Kd.V_mono HL258_0.out (fun _ hk=>⟨hk.1.1,⟨hk.1.2,hk.2⟩⟩)),(by (with_reducible repeat (first|apply Kd.V_alloc|apply Kd.V_drewN|apply Kd.V_drew));exact Kd.V_mono HL278_0.out (fun _ hk=>⟨hk.1.1,⟨hk.1.2,hk.2⟩⟩)),(by (with_reducible repeat (first|apply Kd.V_alloc|apply Kd.V_drewN|apply Kd.V_drew));exact Kd.V_mono HL279_0.out (fun _ hk=>⟨hk.1.1,⟨hk.1.2,hk.2⟩⟩)),(by (with_reducible repeat (first|apply Kd.V_alloc|apply Kd.V_drewN|apply Kd.V_drew));exact Kd.V_mono HO282.out (fun _ hk=>⟨hk.1.1,⟨hk.1.2,hk.2⟩⟩)),(by (with_reducible repeat (first|apply Kd.V_alloc|apply Kd.V_drewN|apply Kd.V_drew));exact Kd.V_mono HO_0.out (fun _ hk=>⟨hk.1.1,⟨hk.1.2,hk.2⟩⟩)),(by (with_reducible repeat (first|apply Kd.V_alloc|apply Kd.V_drewN|apply Kd.V_drew));exact Kd.V_mono HO_1.out (fun _ hk=>⟨hk.1.1,⟨hk.1.2,hk.2⟩⟩)),(zN HO_9.out),(by (with_reducible repeat (first|refine blk_drewN ?_ _|refine blk_drew ?_|refine blk_alloc ?_ _));exact BK285.out),GW285.out,GE285.out,(by repeat (first|(with_reducible first|exact HB.out|apply below_alloc|apply pw_below_drewN|apply below_drew1|refine below_set ?_ GE285.out)|exact HB.out))⟩)
              ·skip
               refine box_step ?hg (N:=11) ?hd (cs:=#[.slice none 0 0,.int .i64 0]) (t:=33) ?hr ?_;(case hd=>rfl);(case hg=>rfl);(case hr=>first|(go_simp;done)|(go_simp;rfl))
               intro gb285 hg w40 hbox hb
               have HS0_:=zhs hb hHeld.1
               have HS1_:=zhs hb hHeld.2.1
               have HS2_:=zhs hb hHeld.2.2.1
               have HS3_:=zhs hb hHeld.2.2.2
               have n0_:=Aside0.mk (Kd.V_below (Kd.V_elderB (zV HO_0.out) gb285 (Nat.le_of_eq hg.symm)) hb)
               have n1_:=Aside0.mk (Kd.V_below (Kd.V_elderB (zV HO_1.out) gb285 (Nat.le_of_eq hg.symm)) hb)
               have n2_:=Aside0.mk (Kd.N_below (Kd.N_elderB (zN HO_9.out) gb285 (Nat.le_of_eq hg.symm)) hb)
               have n3_:=Aside0.mk (Kd.V_below (Kd.V_elderB (zV HL257_0.out) gb285 (Nat.le_of_eq hg.symm)) hb)
               have n4_:=Aside0.mk (Kd.V_below (Kd.V_elderB (zV HL258_0.out) gb285 (Nat.le_of_eq hg.symm)) hb)
               have n5_:=Aside0.mk (Kd.V_below (Kd.V_elderB (zV HL278_0.out) gb285 (Nat.le_of_eq hg.symm)) hb)
               have n6_:=Aside0.mk (Kd.V_below (Kd.V_elderB (zV HL279_0.out) gb285 (Nat.le_of_eq hg.symm)) hb)
               have n7_:=Aside0.mk (Kd.C_below (zC HR257_0.out) hb)
               have n8_:=Aside0.mk (Kd.C_below (zC HR258_0.out) hb)
               have n9_:=Aside0.mk (Kd.C_below (zC HR278_0.out) hb)
               have n10_:=Aside0.mk (Kd.C_below (zC HR279_0.out) hb)
               have n11_:=Aside0.mk (below_step zhb hb)
               have n12_:=Aside0.mk (hbox)
               have n13_:=Aside0.mk ((by rw [hg];exact (below_size zhb):w.heap.size≤gb285))
               have n14_:=Aside0.mk ((by rw [hg];exact (below_size zhb):w.heap.size≤gb285))
               clear HO_0
               clear HO_1
               clear HO_9
               clear HL257_0
               clear HL258_0
               clear HL278_0
               clear HL279_0
               clear HR257_0
               clear HR258_0
               clear HR278_0
               clear HR279_0
               clear HB
               have HO_0:=n0_
               have HO_1:=n1_
               have HO_9:=n2_
               have HL257_0:=n3_
               have HL258_0:=n4_
               have HL278_0:=n5_
               have HL279_0:=n6_
               have HR257_0:=n7_
               have HR258_0:=n8_
               have HR278_0:=n9_
               have HR279_0:=n10_
               have HB:=n11_
               have BK285:=n12_
               have GW285:=n13_
               have GE285:=n14_
               clear n0_ n1_ n2_ n3_ n4_ n5_ n6_ n7_ n8_ n9_ n10_ n11_ n12_ n13_ n14_
               clear hb hbox hg
               refine hK.out _ _ ⟨HS0_,HS1_,HS2_,HS3_⟩ (fun hHeld=>?_)
               clear hK K
               refine norm_ (a':=?_) ?_ ?_
               rotate_left
               ·show Act.put _ (some 11) _=_
                simp only [Act.put,zp1,zp2,zp3,i64_w,i32_w]
                rfl
               refine one_ (i:=7) (N:=some 37) #[Y,Y,Y,Y,Y,Y,Y,Y,X,X,X,Y,X,X] rfl rfl (one_of HT_.out (by kernel_rfl)) (by decide) (fun K hK=>?_)
               refine goes_f (.tmp 30) Tryz.func65 (by kernel_rfl) rfl #[.agg #[.slice A278_0 ((rd_T33 x0_1 0).f0).length c278_0,.int .i64 ((rd_T33 x0_1 0).f1)],.agg #[.slice A279_0 ((rd_T33 x1_1 0).f0).length c279_0,.int .i64 ((rd_T33 x1_1 0).f1)]] (by rfl) rfl rfl rfl zar ?_
               with_reducible refine (impl_together_1.calls (fun k_=>((((P0_ k_∨P1_ k_)∨w.heap.size≤k_)∧some k_≠(u9:Value).ownBlock)∧k_≠gb285)) _ _ ((rd_T33 x0_1 0).f0) ((rd_T33 x0_1 0).f1) _ _ ((rd_T33 x1_1 0).f0) ((rd_T33 x1_1 0).f1) t280 t283 true _ ?side1 ?side2 ?side3 A30.out).mono ?_
               (case side1=>exact HL278_0.out)
               (case side2=>exact zC (zC HR279_0.out))
               (case side3=>exact HC279_0.out)
               rintro e w41 ⟨v281,rfl,ho0,hb⟩
               have HS0_:=zhs hb hHeld.1
               have HS1_:=zhs hb hHeld.2.1
               have HS2_:=zhs hb hHeld.2.2.1
               have HS3_:=zhs hb hHeld.2.2.2
               refine ⟨_,rfl,?_⟩
               have n0_:=Aside0.mk (Kd.V_below (zV HO_0.out) hb)
               have n1_:=Aside0.mk (Kd.V_below (zV HO_1.out) hb)
               have n2_:=Aside0.mk (Kd.N_below (zN HO_9.out) hb)
               have n3_:=Aside0.mk (Kd.V_below (zV HL257_0.out) hb)
               have n4_:=Aside0.mk (Kd.V_below (zV HL258_0.out) hb)
               have n5_:=Aside0.mk (Kd.V_below (zV HL278_0.out) hb)
               have n6_:=Aside0.mk (Kd.V_below (zV HL279_0.out) hb)
               have n7_:=Aside0.mk (Kd.V_lower (Kd.V_mono (ok':=fun k_=>((P0_ k_∨P1_ k_)∨w.heap.size≤k_)∧some k_≠(u9:Value).ownBlock∧k_≠gb285) ho0 (fun k_ hk_=>⟨Or.elim hk_ (fun hs_=>hs_.1.1) (fun hn_=>(.inr (Nat.le_trans (below_size (by repeat (first|(with_reducible first|exact HB.out|apply below_alloc|apply pw_below_drewN|apply below_drew1|refine below_set ?_ GE285.out)|exact HB.out))) hn_))),Or.elim hk_ (fun hs_=>hs_.1.2) (fun hn_=>(Kd.fresh' (Kd.N_lt (zN HO_9.out)) k_ hn_)),Or.elim hk_ (fun hs_=>hs_.2) (fun hn_=>(Kd.freshB (g:=gb285) (o:=.cells #[.slice none 0 0,.int .i64 0] 33 (0,0)) (by (with_reducible repeat (first|refine blk_drewN ?_ _|refine blk_drew ?_|refine blk_alloc ?_ _));exact BK285.out) k_ hn_))⟩)) (below_size (by repeat (first|(with_reducible first|exact HB.out|apply below_alloc|apply pw_below_drewN|apply below_drew1|refine below_set ?_ GE285.out)|exact HB.out))))
               have n8_:=Aside0.mk (Kd.C_below (zC HR257_0.out) hb)
               have n9_:=Aside0.mk (Kd.C_below (zC HR258_0.out) hb)
               have n10_:=Aside0.mk (Kd.C_below (zC HR278_0.out) hb)
               have n11_:=Aside0.mk (Kd.C_below (zC HR279_0.out) hb)
               have n12_:=Aside0.mk (blk_below (g:=gb285) (o:=.cells #[.slice none 0 0,.int .i64 0] 33 (0,0)) (by (with_reducible repeat (first|refine blk_drewN ?_ _|refine blk_drew ?_|refine blk_alloc ?_ _));exact BK285.out) hb)
               have n13_:=Aside0.mk (below_step (by repeat (first|(with_reducible first|exact HB.out|apply below_alloc|apply pw_below_drewN|apply below_drew1|refine below_set ?_ GE285.out)|exact HB.out)) hb)
               clear HO_0
               clear HO_1
               clear HO_9
               clear HL257_0
               clear HL258_0
               clear HL278_0
               clear HL279_0
               clear HR257_0
               clear HR258_0
               clear HR278_0
               clear HR279_0
               clear BK285
               clear HB
               have HO_0:=n0_
               have HO_1:=n1_
               have HO_9:=n2_
               have HL257_0:=n3_
               have HL258_0:=n4_
               have HL278_0:=n5_
               have HL279_0:=n6_
               have HO282:=n7_
               have HR257_0:=n8_
               have HR258_0:=n9_
               have HR278_0:=n10_
               have HR279_0:=n11_
               have BK285:=n12_
               have HB:=n13_
               clear n0_ n1_ n2_ n3_ n4_ n5_ n6_ n7_ n8_ n9_ n10_ n11_ n12_ n13_
               (try clear hb)
               (try clear hb2)
               (try clear hk)
               (try clear hi)
               (try clear ho0)
               refine hK.out _ _ ⟨HS0_,HS1_,HS2_,HS3_⟩ (fun hHeld=>?_)
               clear hK K
               refine norm_ (a':=?_) ?_ ?_
               rotate_left
               ·show Act.put _ (some 37) _=_
                simp only [Act.put,zp1,zp2,zp3,i64_w,i32_w]
                rfl
               refine pure_ (i:=8) (N:=some 29) (v:=?_) (a':=?_) #[Y,Y,Y,Y,Y,Y,Y,Y,Y,X,X,Y,X,X] rfl rfl zan (fun _ _ _ h=>h) (Or.inl ⟨by rfl,?_⟩) ?_ ?_
               rotate_left
               ·intro w'
                go_simp
                with_reducible rfl
               rotate_left
               ·simp only [Act.put,zp1,zp2,zp3,i64_w,i32_w]
                rfl
               refine pure_ (i:=9) (N:=some 38) (v:=?_) (a':=?_) #[Y,Y,Y,Y,Y,Y,Y,Y,Y,Y,X,Y,X,X] rfl rfl zan (fun _ _ _ h=>h) (Or.inl ⟨by rfl,?_⟩) ?_ ?_
               rotate_left
               ·intro w'
                go_simp
                with_reducible rfl
               rotate_left
               ·simp only [Act.put,zp1,zp2,zp3,i64_w,i32_w]
                rfl
               refine pure_ (i:=10) (N:=some 39) (v:=?_) (a':=?_) #[Y,Y,Y,Y,Y,Y,Y,Y,Y,Y,Y,Y,X,X] rfl rfl zan (fun _ _ _ h=>h) (Or.inl ⟨by rfl,?_⟩) ?_ ?_
               rotate_left
               ·intro w'
                go_simp
                with_reducible rfl
               rotate_left
               ·simp only [Act.put,zp1,zp2,zp3,i64_w,i32_w]
                rfl
               exact norm_ (by simp only [putAll,Act.put,zp1,zp2,zp3]) (hCont (v281,gb285) _ ⟨hHeld,(by (with_reducible repeat (first|apply Kd.V_alloc|apply Kd.V_drewN|apply Kd.V_drew));exact Kd.V_mono HL257_0.out (fun _ hk=>⟨hk.1.1,⟨hk.1.2,hk.2⟩⟩)),(by (with_reducible repeat (first|apply Kd.V_alloc|apply Kd.V_drewN|apply Kd.V_drew));exact Kd.V_mono HL258_0.out (fun _ hk=>⟨hk.1.1,⟨hk.1.2,hk.2⟩⟩)),(by (with_reducible repeat (first|apply Kd.V_alloc|apply Kd.V_drewN|apply Kd.V_drew));exact Kd.V_mono HL278_0.out (fun _ hk=>⟨hk.1.1,⟨hk.1.2,hk.2⟩⟩)),(by (with_reducible repeat (first|apply Kd.V_alloc|apply Kd.V_drewN|apply Kd.V_drew));exact Kd.V_mono HL279_0.out (fun _ hk=>⟨hk.1.1,⟨hk.1.2,hk.2⟩⟩)),(zV HO282.out),(by (with_reducible repeat (first|apply Kd.V_alloc|apply Kd.V_drewN|apply Kd.V_drew));exact Kd.V_mono HO_0.out (fun _ hk=>⟨hk.1.1,⟨hk.1.2,hk.2⟩⟩)),(by (with_reducible repeat (first|apply Kd.V_alloc|apply Kd.V_drewN|apply Kd.V_drew));exact Kd.V_mono HO_1.out (fun _ hk=>⟨hk.1.1,⟨hk.1.2,hk.2⟩⟩)),(zN HO_9.out),(by (with_reducible repeat (first|refine blk_drewN ?_ _|refine blk_drew ?_|refine blk_alloc ?_ _));exact BK285.out),GW285.out,GE285.out,(by repeat (first|(with_reducible first|exact HB.out|apply below_alloc|apply pw_below_drewN|apply below_drew1|refine below_set ?_ GE285.out)|exact HB.out))⟩)
             rintro ⟨v281,gb285⟩ w42 ⟨hS_,h0_,h1_,h2_,h3_,h4_,h5_,h6_,h7_,h8_,h9_,h10_,h11_⟩
             have n0_:Aside0 (Kd.V (Kd.int .i64) 3 w42 w.heap.size (fun k_=>((P0_ k_∨P1_ k_)∨w.heap.size≤k_)∧some k_≠(u9:Value).ownBlock∧k_≠gb285) (.slice A257_0 ((rd_T33 x0_1 0).f0).length c257_0) ((rd_T33 x0_1 0).f0)):=⟨h0_⟩
             have n1_:Aside0 (Kd.V (Kd.int .i64) 3 w42 w.heap.size (fun k_=>((P0_ k_∨P1_ k_)∨w.heap.size≤k_)∧some k_≠(u9:Value).ownBlock∧k_≠gb285) (.slice A258_0 ((rd_T33 x1_1 0).f0).length c258_0) ((rd_T33 x1_1 0).f0)):=⟨h1_⟩
             have n2_:Aside0 (Kd.V (Kd.int .i64) 3 w42 w.heap.size (fun k_=>((P0_ k_∨P1_ k_)∨w.heap.size≤k_)∧some k_≠(u9:Value).ownBlock∧k_≠gb285) (.slice A278_0 ((rd_T33 x0_1 0).f0).length c278_0) ((rd_T33 x0_1 0).f0)):=⟨h2_⟩
             have n3_:Aside0 (Kd.V (Kd.int .i64) 3 w42 w.heap.size (fun k_=>((P0_ k_∨P1_ k_)∨w.heap.size≤k_)∧some k_≠(u9:Value).ownBlock∧k_≠gb285) (.slice A279_0 ((rd_T33 x1_1 0).f0).length c279_0) ((rd_T33 x1_1 0).f0)):=⟨h3_⟩
             have n4_:Aside0 (Kd.V (Kd.int .i64) 3 w42 w.heap.size (fun k_=>((P0_ k_∨P1_ k_)∨w.heap.size≤k_)∧some k_≠(u9:Value).ownBlock∧k_≠gb285) v281 t280):=⟨h4_⟩
             have n5_:Aside0 (Kd.V k33 33 w42 w.heap.size (fun k_=>((P0_ k_∨P1_ k_)∨w.heap.size≤k_)∧some k_≠(u9:Value).ownBlock∧k_≠gb285) (.slice (some ad257) x0_1.length co35) x0_1):=⟨h5_⟩
             have n6_:Aside0 (Kd.V k33 33 w42 w.heap.size (fun k_=>((P0_ k_∨P1_ k_)∨w.heap.size≤k_)∧some k_≠(u9:Value).ownBlock∧k_≠gb285) (.slice (some ad258) x1_1.length co36) x1_1):=⟨h6_⟩
             have n7_:Aside0 (Kd.N k33 33 w42 w.heap.size (fun k_=>((P0_ k_∨P1_ k_)∨w.heap.size≤k_)∧k_≠gb285) u9 x9_1):=⟨h7_⟩
             have n8_:Aside0 (w42.heap[gb285]?=some (.cells #[.slice none 0 0,.int .i64 0] 33 (0,0))):=⟨h8_⟩
             have n9_:Aside0 (w.heap.size≤gb285):=⟨h9_⟩
             have n10_:Aside0 (w.heap.size≤gb285):=⟨h10_⟩
             have n11_:Aside0 (Below w.heap.size w w42):=⟨h11_⟩
             clear HO_0
             clear HO_1
             clear HO_9
             clear HL257_0
             clear HL258_0
             clear HR257_0
             clear HR258_0
             clear HB
             clear h0_ h1_ h2_ h3_ h4_ h5_ h6_ h7_ h8_ h9_ h10_ h11_
             have HL257_0:=n0_
             have HL258_0:=n1_
             have HL278_0:=n2_
             have HL279_0:=n3_
             have HO282:=n4_
             have HO_0:=n5_
             have HO_1:=n6_
             have HO_9:=n7_
             have BK285:=n8_
             have GW285:=n9_
             have GE285:=n10_
             have HB:=n11_
             clear n0_ n1_ n2_ n3_ n4_ n5_ n6_ n7_ n8_ n9_ n10_ n11_
             have hHeld:w42.cell? ad257=some (.slice A278_0 ((rd_T33 x0_1 0).f0).length c278_0)∧w42.cell? ⟨ad257.block,ad257.off + 1,none⟩=some (.int .i64 ((rd_T33 x0_1 0).f1))∧w42.cell? ad258=some (.slice A279_0 ((rd_T33 x1_1 0).f0).length c279_0)∧w42.cell? ⟨ad258.block,ad258.off + 1,none⟩=some (.int .i64 ((rd_T33 x1_1 0).f1)):=hS_
             obtain ⟨Ao43,co43,eo43⟩:=Kd.V_slice HO282.out
             (first|subst eo43|(injection eo43 with f1_ f2_ f3_;have f4_:=f1_.symm;have f5_:=f3_.symm;clear f1_ f2_ f3_;subst f4_;subst f5_))
             refine norm_ (a':=?_) ?_ ?_
             rotate_left
             ·simp only [putAll,Act.put,zp1,zp2,zp3]
              rfl
             refine one_ (i:=12) (N:=none) #[Y,Y,Y,Y,Y,Y,Y,Y,Y,Y,Y,Y,Y,X] rfl rfl (one_of HT_.out (by kernel_rfl)) (by decide) (fun K hK=>?_)
             have hs44:w42.cell? ⟨gb285,0,none⟩=some (.slice none 0 0):=(blk_cell BK285.out 0).trans rfl
             have hfs44:=blk_frozen BK285.out 0
             have hs45:w42.cell? ⟨gb285,1,none⟩=some (.int .i64 0):=(blk_cell BK285.out 1).trans rfl
             have hfs45:=blk_frozen BK285.out 1
             refine skip_ (w1:=?_) (by rfl) rfl ?_ ?_
             rotate_left
             ·go_simp
              rfl
             refine hK.out _ _ ⟨((cell_far (p:=⟨gb285,_,none⟩) (by first|exact Kd.own_blk (Kd.V_away HO_0.out (fun _ hk=>hk.2.2))|(rw [add_block];exact Kd.own_blk (Kd.V_away HO_0.out (fun _ hk=>hk.2.2)))|(show (Addr.add _ _).block≠_;rw [add_block];exact Kd.own_blk (Kd.V_away HO_0.out (fun _ hk=>hk.2.2)))|(dsimp only;exact Kd.own_blk (Kd.V_away HO_0.out (fun _ hk=>hk.2.2)))) _).trans (((cell_far (p:=⟨gb285,_,none⟩) (by first|exact Kd.own_blk (Kd.V_away HO_0.out (fun _ hk=>hk.2.2))|(rw [add_block];exact Kd.own_blk (Kd.V_away HO_0.out (fun _ hk=>hk.2.2)))|(show (Addr.add _ _).block≠_;rw [add_block];exact Kd.own_blk (Kd.V_away HO_0.out (fun _ hk=>hk.2.2)))|(dsimp only;exact Kd.own_blk (Kd.V_away HO_0.out (fun _ hk=>hk.2.2)))) _).trans (hHeld.1)))),((cell_far (p:=⟨gb285,_,none⟩) (by first|exact Kd.own_blk (Kd.V_away HO_0.out (fun _ hk=>hk.2.2))|(rw [add_block];exact Kd.own_blk (Kd.V_away HO_0.out (fun _ hk=>hk.2.2)))|(show (Addr.add _ _).block≠_;rw [add_block];exact Kd.own_blk (Kd.V_away HO_0.out (fun _ hk=>hk.2.2)))|(dsimp only;exact Kd.own_blk (Kd.V_away HO_0.out (fun _ hk=>hk.2.2)))) _).trans (((cell_far (p:=⟨gb285,_,none⟩) (by first|exact Kd.own_blk (Kd.V_away HO_0.out (fun _ hk=>hk.2.2))|(rw [add_block];exact Kd.own_blk (Kd.V_away HO_0.out (fun _ hk=>hk.2.2)))|(show (Addr.add _ _).block≠_;rw [add_block];exact Kd.own_blk (Kd.V_away HO_0.out (fun _ hk=>hk.2.2)))|(dsimp only;exact Kd.own_blk (Kd.V_away HO_0.out (fun _ hk=>hk.2.2)))) _).trans (hHeld.2.1)))),((cell_far (p:=⟨gb285,_,none⟩) (by first|exact Kd.own_blk (Kd.V_away HO_1.out (fun _ hk=>hk.2.2))|(rw [add_block];exact Kd.own_blk (Kd.V_away HO_1.out (fun _ hk=>hk.2.2)))|(show (Addr.add _ _).block≠_;rw [add_block];exact Kd.own_blk (Kd.V_away HO_1.out (fun _ hk=>hk.2.2)))|(dsimp only;exact Kd.own_blk (Kd.V_away HO_1.out (fun _ hk=>hk.2.2)))) _).trans (((cell_far (p:=⟨gb285,_,none⟩) (by first|exact Kd.own_blk (Kd.V_away HO_1.out (fun _ hk=>hk.2.2))|(rw [add_block];exact Kd.own_blk (Kd.V_away HO_1.out (fun _ hk=>hk.2.2)))|(show (Addr.add _ _).block≠_;rw [add_block];exact Kd.own_blk (Kd.V_away HO_1.out (fun _ hk=>hk.2.2)))|(dsimp only;exact Kd.own_blk (Kd.V_away HO_1.out (fun _ hk=>hk.2.2)))) _).trans (hHeld.2.2.1)))),((cell_far (p:=⟨gb285,_,none⟩) (by first|exact Kd.own_blk (Kd.V_away HO_1.out (fun _ hk=>hk.2.2))|(rw [add_block];exact Kd.own_blk (Kd.V_away HO_1.out (fun _ hk=>hk.2.2)))|(show (Addr.add _ _).block≠_;rw [add_block];exact Kd.own_blk (Kd.V_away HO_1.out (fun _ hk=>hk.2.2)))|(dsimp only;exact Kd.own_blk (Kd.V_away HO_1.out (fun _ hk=>hk.2.2)))) _).trans (((cell_far (p:=⟨gb285,_,none⟩) (by first|exact Kd.own_blk (Kd.V_away HO_1.out (fun _ hk=>hk.2.2))|(rw [add_block];exact Kd.own_blk (Kd.V_away HO_1.out (fun _ hk=>hk.2.2)))|(show (Addr.add _ _).block≠_;rw [add_block];exact Kd.own_blk (Kd.V_away HO_1.out (fun _ hk=>hk.2.2)))|(dsimp only;exact Kd.own_blk (Kd.V_away HO_1.out (fun _ hk=>hk.2.2)))) _).trans (hHeld.2.2.2))))⟩ (fun hHeld=>?_)
             clear hK K
             refine pure_ (i:=13) (N:=some 12) (v:=?_) (a':=?_) #[Y,Y,Y,Y,Y,Y,Y,Y,Y,Y,Y,Y,Y,Y] rfl rfl zan (fun _ _ _ h=>h) (Or.inl ⟨by rfl,?_⟩) ?_ ?_
             rotate_left
             ·intro w'
              go_simp
              with_reducible rfl
             rotate_left
             ·simp only [Act.put,zp1,zp2,zp3,i64_w,i32_w]
              rfl
             refine done_ (done_of HT_.out (by kernel_rfl)) ?_
             have n0_:Aside0 (Kd.V k33 33 ((w42.setCell ⟨gb285,0,none⟩ (.slice Ao43 t280.length co43)).setCell ⟨gb285,1,none⟩ (.int .i64 t283)) w.heap.size (fun k_=>((P0_ k_∨P1_ k_)∨w.heap.size≤k_)∧some k_≠(u9:Value).ownBlock∧k_≠gb285) (.slice (some ad257) x0_1.length co35) x0_1):=⟨by (with_reducible repeat (first|apply Kd.V_alloc|apply Kd.V_drewN|apply Kd.V_drew));exact Kd.V_mono (Kd.V_far (p:=⟨gb285,1,none⟩) (Kd.V_far (p:=⟨gb285,0,none⟩) (Kd.V_mono HO_0.out (fun k_ hk=>(⟨hk,hk.2.2⟩:_∧k_≠gb285))) (fun _ hk=>hk.2) (.slice Ao43 t280.length co43)) (fun _ hk=>hk.2) (.int .i64 t283)) (fun _ hk=>⟨hk.1.1,⟨hk.1.2.1,hk.1.2.2⟩⟩)⟩
             have n1_:Aside0 (Kd.V k33 33 ((w42.setCell ⟨gb285,0,none⟩ (.slice Ao43 t280.length co43)).setCell ⟨gb285,1,none⟩ (.int .i64 t283)) w.heap.size (fun k_=>((P0_ k_∨P1_ k_)∨w.heap.size≤k_)∧some k_≠(u9:Value).ownBlock∧k_≠gb285) (.slice (some ad258) x1_1.length co36) x1_1):=⟨by (with_reducible repeat (first|apply Kd.V_alloc|apply Kd.V_drewN|apply Kd.V_drew));exact Kd.V_mono (Kd.V_far (p:=⟨gb285,1,none⟩) (Kd.V_far (p:=⟨gb285,0,none⟩) (Kd.V_mono HO_1.out (fun k_ hk=>(⟨hk,hk.2.2⟩:_∧k_≠gb285))) (fun _ hk=>hk.2) (.slice Ao43 t280.length co43)) (fun _ hk=>hk.2) (.int .i64 t283)) (fun _ hk=>⟨hk.1.1,⟨hk.1.2.1,hk.1.2.2⟩⟩)⟩
             have n2_:Aside0 (Kd.N k33 33 ((w42.setCell ⟨gb285,0,none⟩ (.slice Ao43 t280.length co43)).setCell ⟨gb285,1,none⟩ (.int .i64 t283)) w.heap.size (fun k_=>((P0_ k_∨P1_ k_)∨w.heap.size≤k_)∧k_≠gb285) u9 x9_1):=⟨by (with_reducible repeat (first|apply Kd.N_alloc|apply Kd.N_drewN|apply Kd.N_drew));exact Kd.N_mono (Kd.N_far (p:=⟨gb285,1,none⟩) (Kd.N_far (p:=⟨gb285,0,none⟩) (Kd.N_mono HO_9.out (fun k_ hk=>(⟨hk,hk.2⟩:_∧k_≠gb285))) (fun _ hk=>hk.2) (.slice Ao43 t280.length co43)) (fun _ hk=>hk.2) (.int .i64 t283)) (fun _ hk=>⟨hk.1.1,hk.1.2⟩)⟩
             have n3_:Aside0 (Kd.V (Kd.int .i64) 3 ((w42.setCell ⟨gb285,0,none⟩ (.slice Ao43 t280.length co43)).setCell ⟨gb285,1,none⟩ (.int .i64 t283)) w.heap.size (fun k_=>((P0_ k_∨P1_ k_)∨w.heap.size≤k_)∧some k_≠(u9:Value).ownBlock∧k_≠gb285) (.slice A257_0 ((rd_T33 x0_1 0).f0).length c257_0) ((rd_T33 x0_1 0).f0)):=⟨by (with_reducible repeat (first|apply Kd.V_alloc|apply Kd.V_drewN|apply Kd.V_drew));exact Kd.V_mono (Kd.V_far (p:=⟨gb285,1,none⟩) (Kd.V_far (p:=⟨gb285,0,none⟩) (Kd.V_mono HL257_0.out (fun k_ hk=>(⟨hk,hk.2.2⟩:_∧k_≠gb285))) (fun _ hk=>hk.2) (.slice Ao43 t280.length co43)) (fun _ hk=>hk.2) (.int .i64 t283)) (fun _ hk=>⟨hk.1.1,⟨hk.1.2.1,hk.1.2.2⟩⟩)⟩
             have n4_:Aside0 (Kd.V (Kd.int .i64) 3 ((w42.setCell ⟨gb285,0,none⟩ (.slice Ao43 t280.length co43)).setCell ⟨gb285,1,none⟩ (.int .i64 t283)) w.heap.size (fun k_=>((P0_ k_∨P1_ k_)∨w.heap.size≤k_)∧some k_≠(u9:Value).ownBlock∧k_≠gb285) (.slice A258_0 ((rd_T33 x1_1 0).f0).length c258_0) ((rd_T33 x1_1 0).f0)):=⟨by (with_reducible repeat (first|apply Kd.V_alloc|apply Kd.V_drewN|apply Kd.V_drew));exact Kd.V_mono (Kd.V_far (p:=⟨gb285,1,none⟩) (Kd.V_far (p:=⟨gb285,0,none⟩) (Kd.V_mono HL258_0.out (fun k_ hk=>(⟨hk,hk.2.2⟩:_∧k_≠gb285))) (fun _ hk=>hk.2) (.slice Ao43 t280.length co43)) (fun _ hk=>hk.2) (.int .i64 t283)) (fun _ hk=>⟨hk.1.1,⟨hk.1.2.1,hk.1.2.2⟩⟩)⟩
             have n5_:Aside0 (Kd.V (Kd.int .i64) 3 ((w42.setCell ⟨gb285,0,none⟩ (.slice Ao43 t280.length co43)).setCell ⟨gb285,1,none⟩ (.int .i64 t283)) w.heap.size (fun k_=>((P0_ k_∨P1_ k_)∨w.heap.size≤k_)∧some k_≠(u9:Value).ownBlock∧k_≠gb285) (.slice A278_0 ((rd_T33 x0_1 0).f0).length c278_0) ((rd_T33 x0_1 0).f0)):=⟨by (with_reducible repeat (first|apply Kd.V_alloc|apply Kd.V_drewN|apply Kd.V_drew));exact Kd.V_mono (Kd.V_far (p:=⟨gb285,1,none⟩) (Kd.V_far (p:=⟨gb285,0,none⟩) (Kd.V_mono HL278_0.out (fun k_ hk=>(⟨hk,hk.2.2⟩:_∧k_≠gb285))) (fun _ hk=>hk.2) (.slice Ao43 t280.length co43)) (fun _ hk=>hk.2) (.int .i64 t283)) (fun _ hk=>⟨hk.1.1,⟨hk.1.2.1,hk.1.2.2⟩⟩)⟩
             have n6_:Aside0 (Kd.V (Kd.int .i64) 3 ((w42.setCell ⟨gb285,0,none⟩ (.slice Ao43 t280.length co43)).setCell ⟨gb285,1,none⟩ (.int .i64 t283)) w.heap.size (fun k_=>((P0_ k_∨P1_ k_)∨w.heap.size≤k_)∧some k_≠(u9:Value).ownBlock∧k_≠gb285) (.slice A279_0 ((rd_T33 x1_1 0).f0).length c279_0) ((rd_T33 x1_1 0).f0)):=⟨by (with_reducible repeat (first|apply Kd.V_alloc|apply Kd.V_drewN|apply Kd.V_drew));exact Kd.V_mono (Kd.V_far (p:=⟨gb285,1,none⟩) (Kd.V_far (p:=⟨gb285,0,none⟩) (Kd.V_mono HL279_0.out (fun k_ hk=>(⟨hk,hk.2.2⟩:_∧k_≠gb285))) (fun _ hk=>hk.2) (.slice Ao43 t280.length co43)) (fun _ hk=>hk.2) (.int .i64 t283)) (fun _ hk=>⟨hk.1.1,⟨hk.1.2.1,hk.1.2.2⟩⟩)⟩
             have n7_:Aside0 (Kd.V (Kd.int .i64) 3 ((w42.setCell ⟨gb285,0,none⟩ (.slice Ao43 t280.length co43)).setCell ⟨gb285,1,none⟩ (.int .i64 t283)) w.heap.size (fun k_=>((P0_ k_∨P1_ k_)∨w.heap.size≤k_)∧some k_≠(u9:Value).ownBlock∧k_≠gb285) (.slice Ao43 t280.length co43) t280):=⟨by (with_reducible repeat (first|apply Kd.V_alloc|apply Kd.V_drewN|apply Kd.V_drew));exact Kd.V_mono (Kd.V_far (p:=⟨gb285,1,none⟩) (Kd.V_far (p:=⟨gb285,0,none⟩) (Kd.V_mono HO282.out (fun k_ hk=>(⟨hk,hk.2.2⟩:_∧k_≠gb285))) (fun _ hk=>hk.2) (.slice Ao43 t280.length co43)) (fun _ hk=>hk.2) (.int .i64 t283)) (fun _ hk=>⟨hk.1.1,⟨hk.1.2.1,hk.1.2.2⟩⟩)⟩
             have n8_:Aside0 (((w42.setCell ⟨gb285,0,none⟩ (.slice Ao43 t280.length co43)).setCell ⟨gb285,1,none⟩ (.int .i64 t283)).heap[gb285]?=some (.cells #[.slice Ao43 t280.length co43,.int .i64 t283] 33 (0,0))):=⟨by (with_reducible repeat (first|refine blk_drewN ?_ _|refine blk_drew ?_|refine blk_alloc ?_ _));refine blk_put (cs:=#[.slice Ao43 t280.length co43,.int .i64 0]) ?_ 1 _ rfl;(with_reducible repeat (first|refine blk_drewN ?_ _|refine blk_drew ?_|refine blk_alloc ?_ _));refine blk_put (cs:=#[.slice none 0 0,.int .i64 0]) ?_ 0 _ rfl;(with_reducible repeat (first|refine blk_drewN ?_ _|refine blk_drew ?_|refine blk_alloc ?_ _));exact BK285.out⟩
             have n9_:Aside0 (Below w.heap.size w ((w42.setCell ⟨gb285,0,none⟩ (.slice Ao43 t280.length co43)).setCell ⟨gb285,1,none⟩ (.int .i64 t283))):=⟨by repeat (first|(with_reducible first|exact HB.out|apply below_alloc|apply pw_below_drewN|apply below_drew1|refine below_set ?_ GE285.out)|exact HB.out)⟩
             (try clear HO_0)
             (try clear HO_1)
             (try clear HO_9)
             (try clear HL257_0)
             (try clear HL258_0)
             (try clear HL278_0)
             (try clear HL279_0)
             (try clear HO282)
             (try clear BK285)
             (try clear HB)
             generalize ((w42.setCell ⟨gb285,0,none⟩ (.slice Ao43 t280.length co43)).setCell ⟨gb285,1,none⟩ (.int .i64 t283))=w46 at n0_ n1_ n2_ n3_ n4_ n5_ n6_ n7_ n8_ n9_ ⊢
             have HO_0:=n0_
             have HO_1:=n1_
             have HO_9:=n2_
             have HL257_0:=n3_
             have HL258_0:=n4_
             have HL278_0:=n5_
             have HL279_0:=n6_
             have HO282:=n7_
             have BK285:=n8_
             have HB:=n9_
             clear n0_ n1_ n2_ n3_ n4_ n5_ n6_ n7_ n8_ n9_
             have hcz47_0:w46.cell? ⟨gb285,0,none⟩=some (.slice Ao43 t280.length co43):=(blk_cell BK285.out 0).trans rfl
             have hcz47_1:w46.cell? ⟨gb285,1,none⟩=some (.int .i64 t283):=(blk_cell BK285.out 1).trans rfl
             have hfz47_0:=blk_frozen BK285.out 0
             have hfz47_1:=blk_frozen BK285.out 1
             try go_wp2_with (first|((with_reducible refine gate_builtin (b:=.append) (xs:=#[.tmp 41,.tmp 43]) rfl ?_);(try (refine gate_guard (by rfl) ?_;dsimp only));at_builtin;refine Kd.N_append k33 (w0:=w) w.heap.size rfl (.tmp 41) (.tmp 43) 23 33 (.agg #[(.slice none 0 0),(.int .i64 0)]) 32 rfl Tryz.underlying23 info33 rfl (by decide) (by omega) u9 x9_1 (⟨t280,t283⟩:S33) [.slice Ao43 t280.length co43,.int .i64 t283] (fun k_=>((P0_ k_∨P1_ k_)∨w.heap.size≤k_)∧k_≠gb285) (fun k_=>((fun k_=>((P0_ k_∨P1_ k_)∨w.heap.size≤k_)∧k_≠gb285)) k_∧some k_≠(u9:Value).ownBlock) rfl rfl ?aP (fun _ hk=>hk) ?aF ?aO ?aB ?aS ?aL ?_;(case aP=>exact (k33_mkF _ _ (⟨t280,t283⟩:S33) (Kd.V_reads' (Kd.V_mono (ok':=(fun k_=>((fun k_=>((P0_ k_∨P1_ k_)∨w.heap.size≤k_)∧k_≠gb285)) k_∧some k_≠(u9:Value).ownBlock)) (HO282.out) (fun k_ hk=>⟨⟨hk.1,hk.2.2⟩,hk.2.1⟩))).2.1 (Kd.V_F (Kd.V_mono (ok':=(fun k_=>((fun k_=>((P0_ k_∨P1_ k_)∨w.heap.size≤k_)∧k_≠gb285)) k_∧some k_≠(u9:Value).ownBlock)) (HO282.out) (fun k_ hk=>⟨⟨hk.1,hk.2.2⟩,hk.2.1⟩)))));(case aB=>exact (by repeat (first|(with_reducible first|exact HB.out|apply below_alloc|apply pw_below_drewN|apply below_drew1|refine below_set ?_ GE285.out)|exact HB.out)));(case aF=>exact (fun k_ hk=>⟨(.inr (Nat.le_trans (below_size (by repeat (first|(with_reducible first|exact HB.out|apply below_alloc|apply pw_below_drewN|apply below_drew1|refine below_set ?_ GE285.out)|exact HB.out))) hk)),Kd.freshB (g:=gb285) (o:=.cells #[.slice Ao43 t280.length co43,.int .i64 t283] 33 (0,0)) (by (with_reducible repeat (first|refine blk_drewN ?_ _|refine blk_drew ?_|refine blk_alloc ?_ _));exact BK285.out) k_ hk⟩));(case aO=>exact (zN HO_9.out));(case aS=>exact (below_size (by repeat (first|(with_reducible first|exact HB.out|apply below_alloc|apply pw_below_drewN|apply below_drew1|refine below_set ?_ GE285.out)|exact HB.out))));(case aL=>have:=LMc32.out;omega);intro v287 w48 ho hb hg hat;rw [← Ny286.out] at ho;have n0_:=Aside0.mk (Kd.V_afterv (ok:=(fun k_=>((P0_ k_∨P1_ k_)∨w.heap.size≤k_)∧k_≠gb285)) (by (with_reducible repeat (first|apply Kd.V_alloc|apply Kd.V_drewN|apply Kd.V_drew));exact Kd.V_mono HO_0.out (fun _ hk=>⟨⟨hk.1,hk.2.2⟩,hk.2.1⟩)) hg hat);have n1_:=Aside0.mk (Kd.V_afterv (ok:=(fun k_=>((P0_ k_∨P1_ k_)∨w.heap.size≤k_)∧k_≠gb285)) (by (with_reducible repeat (first|apply Kd.V_alloc|apply Kd.V_drewN|apply Kd.V_drew));exact Kd.V_mono HO_1.out (fun _ hk=>⟨⟨hk.1,hk.2.2⟩,hk.2.1⟩)) hg hat);have n2_:=Aside0.mk (Kd.V_afterv (ok:=(fun k_=>((P0_ k_∨P1_ k_)∨w.heap.size≤k_)∧k_≠gb285)) (by (with_reducible repeat (first|apply Kd.V_alloc|apply Kd.V_drewN|apply Kd.V_drew));exact Kd.V_mono HL257_0.out (fun _ hk=>⟨⟨hk.1,hk.2.2⟩,hk.2.1⟩)) hg hat);have n3_:=Aside0.mk (Kd.V_afterv (ok:=(fun k_=>((P0_ k_∨P1_ k_)∨w.heap.size≤k_)∧k_≠gb285)) (by (with_reducible repeat (first|apply Kd.V_alloc|apply Kd.V_drewN|apply Kd.V_drew));exact Kd.V_mono HL258_0.out (fun _ hk=>⟨⟨hk.1,hk.2.2⟩,hk.2.1⟩)) hg hat);have n4_:=Aside0.mk (Kd.V_afterv (ok:=(fun k_=>((P0_ k_∨P1_ k_)∨w.heap.size≤k_)∧k_≠gb285)) (by (with_reducible repeat (first|apply Kd.V_alloc|apply Kd.V_drewN|apply Kd.V_drew));exact Kd.V_mono HL278_0.out (fun _ hk=>⟨⟨hk.1,hk.2.2⟩,hk.2.1⟩)) hg hat);have n5_:=Aside0.mk (Kd.V_afterv (ok:=(fun k_=>((P0_ k_∨P1_ k_)∨w.heap.size≤k_)∧k_≠gb285)) (by (with_reducible repeat (first|apply Kd.V_alloc|apply Kd.V_drewN|apply Kd.V_drew));exact Kd.V_mono HL279_0.out (fun _ hk=>⟨⟨hk.1,hk.2.2⟩,hk.2.1⟩)) hg hat);have n6_:=Aside0.mk (Kd.V_afterv (ok:=(fun k_=>((P0_ k_∨P1_ k_)∨w.heap.size≤k_)∧k_≠gb285)) (by (with_reducible repeat (first|apply Kd.V_alloc|apply Kd.V_drewN|apply Kd.V_drew));exact Kd.V_mono HO282.out (fun _ hk=>⟨⟨hk.1,hk.2.2⟩,hk.2.1⟩)) hg hat);have n7_:=Aside0.mk (blk_grown (g:=gb285) (o:=.cells #[.slice Ao43 t280.length co43,.int .i64 t283] 33 (0,0)) (by (with_reducible repeat (first|refine blk_drewN ?_ _|refine blk_drew ?_|refine blk_alloc ?_ _));exact BK285.out) hg (Kd.N_away HO_9.out (fun _ hk=>hk.2)));have n8_:=Aside0.mk (hb);have n9_:=Aside0.mk (ho);clear HO_0;clear HO_1;clear HL257_0;clear HL258_0;clear HL278_0;clear HL279_0;clear HO282;clear BK285;clear HB;clear HO_9;have HO_0:=n0_;have HO_1:=n1_;have HL257_0:=n2_;have HL258_0:=n3_;have HL278_0:=n4_;have HL279_0:=n5_;have HO282:=n6_;have BK285:=n7_;have HB:=n8_;have HO288:=n9_;clear n0_ n1_ n2_ n3_ n4_ n5_ n6_ n7_ n8_ n9_;clear ho hb hg hat))
             have n0_:=Aside0.mk (Kd.V_drew HO_0.out)
             have n1_:=Aside0.mk (Kd.V_drew HO_1.out)
             have n2_:=Aside0.mk (Kd.V_drew HL257_0.out)
             have n3_:=Aside0.mk (Kd.V_drew HL258_0.out)
             have n4_:=Aside0.mk (Kd.V_drew HL278_0.out)
             have n5_:=Aside0.mk (Kd.V_drew HL279_0.out)
             have n6_:=Aside0.mk (Kd.V_drew HO282.out)
             have n7_:=Aside0.mk (Kd.N_drew HO288.out)
             have n8_:=Aside0.mk (blk_drew BK285.out)
             have n9_:=Aside0.mk (below_drew1 HB.out)
             clear HO_0
             clear HO_1
             clear HL257_0
             clear HL258_0
             clear HL278_0
             clear HL279_0
             clear HO282
             clear HO288
             clear BK285
             clear HB
             have HO_0:=n0_
             have HO_1:=n1_
             have HL257_0:=n2_
             have HL258_0:=n3_
             have HL278_0:=n4_
             have HL279_0:=n5_
             have HO282:=n6_
             have HO288:=n7_
             have BK285:=n8_
             have HB:=n9_
             clear n0_ n1_ n2_ n3_ n4_ n5_ n6_ n7_ n8_ n9_
             have q50:(1:Int)≤((x0_1.length:Int):Int):=zod
             obtain ⟨i050,hi050,_,hsz50,_⟩:=info_parts info33
             have hroom50:x0_1.length≤co35:=(Kd.V_reads' HO_0.out).2.1
             have hC50:Kd.F k33 _ _ (some ad257) x0_1.length x0_1:=(Kd.V_at (base:=w.heap.size) HO_0.out).2.2
             have hcut50:=cut_from (P:=Tryz.prog) 23 33 .i64 Tryz.underlying23 hi050 2 hsz50 (some ad257) x0_1.length co35 1 (by omega) q50
             have hr50:=Kd.F_cut (m:=(1:Int).toNat) (c:=co35) hC50 (by omega) hroom50
             obtain ⟨A50,hA50⟩ : ∃ A1,A1=(if co35=(1:Int).toNat then (some ad257) else ((some ad257):Option Addr).map (·.add ((1:Int).toNat * 2))):=⟨_,rfl⟩
             obtain ⟨c50,hc50⟩ : ∃ c1,c1=co35 - (1:Int).toNat:=⟨_,rfl⟩
             have hy50:y289.length=x0_1.length - (1:Int).toNat:=(by rw [Ny289.out,List.length_drop] <;> omega)
             rw [show (x0_1).drop (1:Int).toNat=y289 from Ny289.out.symm] at hr50
             replace hr50:Kd.F k33 _ _ A50 y289.length y289:=(by rw [hA50];exact hr50)
             rw [← hy50,← hA50,← hc50] at hcut50
             have HO293:=Aside0.mk (show Kd.V k33 33 _ w.heap.size _ (.slice A50 y289.length c50) y289 from Kd.V_mk (by rw [hy50,hc50];exact Nat.sub_le_sub_right hroom50 _) hr50)
             have HC293:=Aside0.mk (show y289.length≤c50 from by rw [hy50,hc50];exact Nat.sub_le_sub_right hroom50 _)
             clear hr50 hC50 hroom50 hi050 hsz50 hc50
             have KY50:=Aside0.mk hy50
             have KA50:=Aside0.mk hA50
             clear hy50 hA50
             replace q50:=eq_true q50
             have q51:(1:Int)≤((x1_1.length:Int):Int):=zod
             obtain ⟨i051,hi051,_,hsz51,_⟩:=info_parts info33
             have hroom51:x1_1.length≤co36:=(Kd.V_reads' HO_1.out).2.1
             have hC51:Kd.F k33 _ _ (some ad258) x1_1.length x1_1:=(Kd.V_at (base:=w.heap.size) HO_1.out).2.2
             have hcut51:=cut_from (P:=Tryz.prog) 23 33 .i64 Tryz.underlying23 hi051 2 hsz51 (some ad258) x1_1.length co36 1 (by omega) q51
             have hr51:=Kd.F_cut (m:=(1:Int).toNat) (c:=co36) hC51 (by omega) hroom51
             obtain ⟨A51,hA51⟩ : ∃ A1,A1=(if co36=(1:Int).toNat then (some ad258) else ((some ad258):Option Addr).map (·.add ((1:Int).toNat * 2))):=⟨_,rfl⟩
             obtain ⟨c51,hc51⟩ : ∃ c1,c1=co36 - (1:Int).toNat:=⟨_,rfl⟩
             have hy51:y294.length=x1_1.length - (1:Int).toNat:=(by rw [Ny294.out,List.length_drop] <;> omega)
             rw [show (x1_1).drop (1:Int).toNat=y294 from Ny294.out.symm] at hr51
             replace hr51:Kd.F k33 _ _ A51 y294.length y294:=(by rw [hA51];exact hr51)
             rw [← hy51,← hA51,← hc51] at hcut51
             have HO298:=Aside0.mk (show Kd.V k33 33 _ w.heap.size _ (.slice A51 y294.length c51) y294 from Kd.V_mk (by rw [hy51,hc51];exact Nat.sub_le_sub_right hroom51 _) hr51)
             have HC298:=Aside0.mk (show y294.length≤c51 from by rw [hy51,hc51];exact Nat.sub_le_sub_right hroom51 _)
             clear hr51 hC51 hroom51 hi051 hsz51 hc51
             have KY51:=Aside0.mk hy51
             have KA51:=Aside0.mk hA51
             clear hy51 hA51
             replace q51:=eq_true q51
             refine start_ (n:=6) (S:=fun w'=>True) (ds:=[]) #[X,X,X,X,X,X] (by kernel_rfl) rfl rfl trivial (fun hHeld=>?_)
             generalize w48.drew=w49 at HO_0 HO_1 HL257_0 HL258_0 HL278_0 HL279_0 HO282 HO288 BK285 HB HO293 HO298 hHeld ⊢
             refine pure_ (i:=0) (N:=some 45) (v:=?_) (a':=?_) #[Y,X,X,X,X,X] rfl rfl (by kernel_rfl) (fun _ _ _ h=>h) (Or.inl ⟨by rfl,?_⟩) ?_ ?_
             rotate_left
             ·intro w'
              go_simp
              with_reducible rfl
             rotate_left
             ·simp only [Act.put,zp1,zp2,zp3,i64_w,i32_w]
              rfl
             refine pure_ (i:=1) (N:=some 46) (v:=?_) (a':=?_) #[Y,Y,X,X,X,X] rfl rfl (by kernel_rfl) (fun _ _ _ h=>h) (Or.inl ⟨by rfl,?_⟩) ?_ ?_
             rotate_left
             ·intro w'
              go_simp
              with_reducible rfl
             rotate_left
             ·simp only [Act.put,zp1,zp2,zp3,i64_w,i32_w]
              rfl
             refine pure_ (i:=2) (N:=some 47) (v:=?_) (a':=?_) #[Y,Y,Y,X,X,X] rfl rfl (by kernel_rfl) (fun _ _ _ h=>h) (Or.inl ⟨by rfl,?_⟩) ?_ ?_
             rotate_left
             ·intro w'
              go_simp
              with_reducible rfl
             rotate_left
             ·simp only [Act.put,zp1,zp2,zp3,i64_w,i32_w]
              rfl
             refine pure_ (i:=3) (N:=some 48) (v:=?_) (a':=?_) #[Y,Y,Y,Y,X,X] rfl rfl (by kernel_rfl) (fun _ _ _ h=>h) (Or.inl ⟨by rfl,?_⟩) ?_ ?_
             rotate_left
             ·intro w'
              go_simp
              with_reducible rfl
             rotate_left
             ·simp only [Act.put,zp1,zp2,zp3,i64_w,i32_w]
              rfl
             refine pure_ (i:=4) (N:=some 0) (v:=?_) (a':=?_) #[Y,Y,Y,Y,Y,X] rfl rfl (by kernel_rfl) (fun _ _ _ h=>h) (Or.inl ⟨by rfl,?_⟩) ?_ ?_
             rotate_left
             ·intro w'
              go_simp
              with_reducible rfl
             rotate_left
             ·simp only [Act.put,zp1,zp2,zp3,i64_w,i32_w]
              rfl
             refine pure_ (i:=5) (N:=some 1) (v:=?_) (a':=?_) #[Y,Y,Y,Y,Y,Y] rfl rfl (by kernel_rfl) (fun _ _ _ h=>h) (Or.inl ⟨by rfl,?_⟩) ?_ ?_
             rotate_left
             ·intro w'
              go_simp
              with_reducible rfl
             rotate_left
             ·simp only [Act.put,zp1,zp2,zp3,i64_w,i32_w]
              rfl
             refine done_ (by kernel_rfl) ?_
             try go_wp2
             go_roundg k1
             case measure=>have:=HK1.out;omega
             case rel=>exact ⟨(y289),(y294),(y286),H',⟨by have:=HK1.out;omega⟩,⟨by (with_reducible repeat (first|apply Kd.V_alloc|apply Kd.V_drewN|apply Kd.V_drew));exact Kd.V_mono HO293.out (fun _ hk=>⟨hk.1.1,hk.2⟩)⟩,⟨by (with_reducible repeat (first|apply Kd.V_alloc|apply Kd.V_drewN|apply Kd.V_drew));exact Kd.V_mono HO298.out (fun _ hk=>⟨hk.1.1,hk.2⟩)⟩,⟨by (with_reducible repeat (first|apply Kd.N_alloc|apply Kd.N_drewN|apply Kd.N_drew));exact Kd.N_mono HO288.out (fun _ hk=>hk.1)⟩,⟨by repeat (first|(with_reducible first|exact HB.out|apply below_alloc|apply pw_below_drewN|apply below_drew1|refine below_set ?_ GE285.out)|exact HB.out)⟩⟩
            ·rw [if_neg c34] at H
             exact absurd H (by simp)
           ·rw [if_neg c33] at H
            exact absurd H (by simp)
          ·rw [if_neg c32] at H
           exact absurd H (by simp)
         ·replace c31:=Bool.eq_false_iff.mpr c31
          subst c31
          have H1:(if 1≤(x0_1.length:Int) then (if 1≤(x1_1.length:Int) then (impl_merged_impl_Item__impl_cmpItem_impl_together_1.l0 k1 (x0_1.drop 1) (x1_1.drop 1) x9_1) else (none)) else (none))=some r:=by rw [if_neg (show ¬ (false=true) by decide)] at H;exact H
          clear H
          have H:=H1
          clear H1
          by_cases c52:1≤(x0_1.length:Int)
          ·rw [if_pos c52] at H
           have c52b0:=eq_true c52
           have c52b1:decide (1≤(x0_1.length:Int))=true:=decide_eq_true c52
           clear c52
           obtain ⟨y299,hy299⟩ : ∃ y_:List (S33),y_=(x0_1.drop 1):=⟨_,rfl⟩
           replace H:(if 1≤(x1_1.length:Int) then (impl_merged_impl_Item__impl_cmpItem_impl_together_1.l0 k1 y299 (x1_1.drop 1) x9_1) else (none))=some r:=by first|(rw [hy299];with_reducible exact H)|(have H2_:=(Option.bind_some _ _).symm.trans H;rw [hy299];with_reducible exact H2_)|(have H2_:=(Option.bind_some _ _).symm.trans H;with_reducible exact H2_)|with_reducible exact H|(rw [hy299];exact H)|exact H
           have Ny299:=Aside0.mk hy299
           clear hy299
           by_cases c53:1≤(x1_1.length:Int)
           ·rw [if_pos c53] at H
            have c53b0:=eq_true c53
            have c53b1:decide (1≤(x1_1.length:Int))=true:=decide_eq_true c53
            clear c53
            obtain ⟨y304,hy304⟩ : ∃ y_:List (S33),y_=(x1_1.drop 1):=⟨_,rfl⟩
            replace H:(impl_merged_impl_Item__impl_cmpItem_impl_together_1.l0 k1 y299 y304 x9_1)=some r:=by first|(rw [hy304];with_reducible exact H)|(have H2_:=(Option.bind_some _ _).symm.trans H;rw [hy304];with_reducible exact H2_)|(have H2_:=(Option.bind_some _ _).symm.trans H;with_reducible exact H2_)|with_reducible exact H|(rw [hy304];exact H)|exact H
            have Ny304:=Aside0.mk hy304
            clear hy304
            have H':=Aside0.mk H
            clear H
            obtain ⟨Ao54,co54,eo54⟩:=Kd.V_slice HO_0.out
            subst eo54
            obtain ⟨Ao55,co55,eo55⟩:=Kd.V_slice HO_1.out
            subst eo55
            try go_wp2
            have n0_:=Aside0.mk (Kd.V_drew HO_0.out)
            have n1_:=Aside0.mk (Kd.V_drew HO_1.out)
            have n2_:=Aside0.mk (Kd.N_drew HO_9.out)
            have n3_:=Aside0.mk (below_drew1 HB.out)
            clear HO_0
            clear HO_1
            clear HO_9
            clear HB
            have HO_0:=n0_
            have HO_1:=n1_
            have HO_9:=n2_
            have HB:=n3_
            clear n0_ n1_ n2_ n3_
            have p257:0≤(0:Int):=(by omega)
            have q257:0 < (x0_1.length:Int):=zod
            obtain ⟨ad257,A257_0,c257_0,e257,hx257_0,hx257_1,hl257_0,hi257_0⟩:=at_T33 (Kd.V_reads' HO_0.out).2.2 0 p257 q257
            cases e257
            obtain ⟨ce257,hce257,hMe257,hcc257⟩:=Kd.V_get HO_0.out z33 0 p257 (by first|exact q257|exact zod|(have e_:=(Kd.V_reads' HO_0.out).1;omega))
            obtain ⟨ua257_0,uc257_0,rfl,ul257_0,ge257_0⟩:=k33_openF hMe257
            have hv257_0:=hcc257 0 _ rfl
            rw [Nat.add_zero] at hv257_0
            replace hv257_0:=Option.some.inj (hv257_0.symm.trans hx257_0)
            injection hv257_0 with hva_ hvn_ hvc_
            rw [hva_] at ge257_0
            rw [hvc_] at ul257_0
            have HL257_0:=Aside0.mk (show Kd.V (Kd.int .i64) 3 _ w.heap.size _ _ ((rd_T33 x0_1 0).f0) from Kd.V_mk ul257_0 ge257_0)
            clear hva_ hvn_ hvc_ ge257_0 ul257_0
            clear hcc257 hce257
            have qi257:(0 < x0_1.length)=True:=eq_true (by omega)
            (try rw [show ((0:Int)).toNat=0 from rfl] at hx257_0)
            (try rw [show 0 * 2=0 from rfl] at hx257_0)
            (try rw [Addr.add_zero'] at hx257_0)
            (try rw [show ((0:Int)).toNat=0 from rfl] at hx257_1)
            (try rw [show 0 * 2=0 from rfl] at hx257_1)
            (try rw [Addr.add_zero'] at hx257_1)
            have HR257_0:=Aside0.mk hi257_0
            have HC257_0:=Aside0.mk hl257_0
            clear hi257_0 hl257_0
            replace p257:=eq_true p257
            replace q257:=eq_true q257
            have p258:0≤(0:Int):=(by omega)
            have q258:0 < (x1_1.length:Int):=zod
            obtain ⟨ad258,A258_0,c258_0,e258,hx258_0,hx258_1,hl258_0,hi258_0⟩:=at_T33 (Kd.V_reads' HO_1.out).2.2 0 p258 q258
            cases e258
            obtain ⟨ce258,hce258,hMe258,hcc258⟩:=Kd.V_get HO_1.out z33 0 p258 (by first|exact q258|exact zod|(have e_:=(Kd.V_reads' HO_1.out).1;omega))
            obtain ⟨ua258_0,uc258_0,rfl,ul258_0,ge258_0⟩:=k33_openF hMe258
            have hv258_0:=hcc258 0 _ rfl
            rw [Nat.add_zero] at hv258_0
            replace hv258_0:=Option.some.inj (hv258_0.symm.trans hx258_0)
            injection hv258_0 with hva_ hvn_ hvc_
            rw [hva_] at ge258_0
            rw [hvc_] at ul258_0
            have HL258_0:=Aside0.mk (show Kd.V (Kd.int .i64) 3 _ w.heap.size _ _ ((rd_T33 x1_1 0).f0) from Kd.V_mk ul258_0 ge258_0)
            clear hva_ hvn_ hvc_ ge258_0 ul258_0
            clear hcc258 hce258
            have qi258:(0 < x1_1.length)=True:=eq_true (by omega)
            (try rw [show ((0:Int)).toNat=0 from rfl] at hx258_0)
            (try rw [show 0 * 2=0 from rfl] at hx258_0)
            (try rw [Addr.add_zero'] at hx258_0)
            (try rw [show ((0:Int)).toNat=0 from rfl] at hx258_1)
            (try rw [show 0 * 2=0 from rfl] at hx258_1)
            (try rw [Addr.add_zero'] at hx258_1)
            have HR258_0:=Aside0.mk hi258_0
            have HC258_0:=Aside0.mk hl258_0
            clear hi258_0 hl258_0
            replace p258:=eq_true p258
            replace q258:=eq_true q258
            refine start_ (n:=9) (S:=fun w'=>w'.cell? ad257=some (.slice A257_0 ((rd_T33 x0_1 0).f0).length c257_0)∧w'.cell? ⟨ad257.block,ad257.off + 1,none⟩=some (.int .i64 ((rd_T33 x0_1 0).f1))∧w'.cell? ad258=some (.slice A258_0 ((rd_T33 x1_1 0).f0).length c258_0)∧w'.cell? ⟨ad258.block,ad258.off + 1,none⟩=some (.int .i64 ((rd_T33 x1_1 0).f1))) (ds:=[]) #[X,X,X,X,X,X,X,X,X] (by kernel_rfl) rfl rfl ⟨hx257_0,hx257_1,hx258_0,hx258_1⟩ (fun hHeld=>?_);refine with_tabW impl_merged_impl_Item__impl_cmpItem_impl_together_1.tab3 impl_merged_impl_Item__impl_cmpItem_impl_together_1.bits3 (fun HT_ HW_=>?_)
            generalize wr.drew=w56 at HO_0 HO_1 HO_9 HB HL257_0 HL258_0 HR257_0 HR258_0 hx257_0 hx257_1 hx258_0 hx258_1 hHeld ⊢
            refine pure_ (i:=0) (N:=some 21) (v:=?_) (a':=?_) #[Y,X,X,X,X,X,X,X,X] rfl rfl zan (fun _ _ _ h=>h) (Or.inl ⟨by rfl,?_⟩) ?_ ?_
            rotate_left
            ·intro w'
             go_simp
             with_reducible rfl
            rotate_left
            ·simp only [Act.put,zp1,zp2,zp3,i64_w,i32_w]
             rfl
            refine pure_ (i:=1) (N:=some 22) (v:=?_) (a':=?_) #[Y,Y,X,X,X,X,X,X,X] rfl rfl zan (fun _ _ _ h=>h) (Or.inl ⟨by rfl,?_⟩) ?_ ?_
            rotate_left
            ·intro w'
             go_simp
             with_reducible rfl
            rotate_left
            ·simp only [Act.put,zp1,zp2,zp3,i64_w,i32_w]
             rfl
            refine pure_ (i:=2) (N:=some 23) (v:=?_) (a':=?_) #[Y,Y,Y,X,X,X,X,X,X] rfl rfl zan (fun _ _ _ h=>h) (Or.inl ⟨by rfl,?_⟩) ?_ ?_
            rotate_left
            ·intro w'
             go_simp
             with_reducible rfl
            rotate_left
            ·simp only [Act.put,zp1,zp2,zp3,i64_w,i32_w]
             rfl
            refine pure_ (i:=4) (N:=some 25) (v:=?_) (a':=?_) #[Y,Y,Y,X,Y,X,X,X,X] rfl rfl zan (fun _ _ _ h=>h) (Or.inl ⟨by rfl,?_⟩) ?_ ?_
            rotate_left
            ·intro w'
             go_simp
             with_reducible rfl
            rotate_left
            ·simp only [Act.put,zp1,zp2,zp3,i64_w,i32_w]
             rfl
            refine pure_ (i:=5) (N:=some 26) (v:=?_) (a':=?_) #[Y,Y,Y,X,Y,Y,X,X,X] rfl rfl zan (fun _ _ _ h=>h) (Or.inl ⟨by rfl,?_⟩) ?_ ?_
            rotate_left
            ·intro w'
             go_simp
             with_reducible rfl
            rotate_left
            ·simp only [Act.put,zp1,zp2,zp3,i64_w,i32_w]
             rfl
            refine take_ (i:=3) (N:=some 24) (v:=?_) (a':=?_) #[Y,Y,Y,Y,Y,Y,X,X,X] rfl rfl ztw (fun _ _ _ h=>h) (Or.inl ⟨by rfl,?_⟩) hHeld ?_ ?_
            rotate_left
            ·rintro w' ⟨s0,s1,s2,s3⟩
             go_simp
             with_reducible rfl
            rotate_left
            ·simp only [Act.put,zp1,zp2,zp3,i64_w,i32_w]
             rfl
            refine take_ (i:=6) (N:=some 27) (v:=?_) (a':=?_) #[Y,Y,Y,Y,Y,Y,Y,X,X] rfl rfl ztw (fun _ _ _ h=>h) (Or.inl ⟨by rfl,?_⟩) hHeld ?_ ?_
            rotate_left
            ·rintro w' ⟨s0,s1,s2,s3⟩
             go_simp
             with_reducible rfl
            rotate_left
            ·simp only [Act.put,zp1,zp2,zp3,i64_w,i32_w]
             rfl
            refine one_ (i:=7) (N:=some 28) #[Y,Y,Y,Y,Y,Y,Y,Y,X] rfl rfl (one_of HT_.out (by kernel_rfl)) (by decide) (fun K hK=>?_)
            refine goes_f (.tmp 21) Tryz.func64 (by kernel_rfl) rfl #[.agg #[.slice A257_0 ((rd_T33 x0_1 0).f0).length c257_0,.int .i64 ((rd_T33 x0_1 0).f1)],.agg #[.slice A258_0 ((rd_T33 x1_1 0).f0).length c258_0,.int .i64 ((rd_T33 x1_1 0).f1)]] (by rfl) rfl rfl rfl zar ?_
            with_reducible refine (impl_cmpItem.calls k1 _ _ ((rd_T33 x0_1 0).f0) ((rd_T33 x0_1 0).f1) _ _ ((rd_T33 x1_1 0).f0) ((rd_T33 x1_1 0).f1) t259 _ ?side1 ?side2 ?side3 ?side4 A9.out).mono ?_
            (case side1=>exact zC (zC HR257_0.out))
            (case side2=>exact HC257_0.out)
            (case side3=>exact zC (zC HR258_0.out))
            (case side4=>exact HC258_0.out)
            rintro e w57 ⟨rfl,hb⟩
            have HS0_:=zhs hb hHeld.1
            have HS1_:=zhs hb hHeld.2.1
            have HS2_:=zhs hb hHeld.2.2.1
            have HS3_:=zhs hb hHeld.2.2.2
            refine ⟨_,rfl,?_⟩
            have n0_:=Aside0.mk (Kd.V_below (zV HO_0.out) hb)
            have n1_:=Aside0.mk (Kd.V_below (zV HO_1.out) hb)
            have n2_:=Aside0.mk (Kd.N_below (zN HO_9.out) hb)
            have n3_:=Aside0.mk (Kd.V_below (zV HL257_0.out) hb)
            have n4_:=Aside0.mk (Kd.V_below (zV HL258_0.out) hb)
            have n5_:=Aside0.mk (Kd.C_below (zC HR257_0.out) hb)
            have n6_:=Aside0.mk (Kd.C_below (zC HR258_0.out) hb)
            have n7_:=Aside0.mk (below_step zhb hb)
            clear HO_0
            clear HO_1
            clear HO_9
            clear HL257_0
            clear HL258_0
            clear HR257_0
            clear HR258_0
            clear HB
            have HO_0:=n0_
            have HO_1:=n1_
            have HO_9:=n2_
            have HL257_0:=n3_
            have HL258_0:=n4_
            have HR257_0:=n5_
            have HR258_0:=n6_
            have HB:=n7_
            clear n0_ n1_ n2_ n3_ n4_ n5_ n6_ n7_
            (try clear hb)
            (try clear hb2)
            (try clear hk)
            (try clear hi)
            refine hK.out _ _ ⟨HS0_,HS1_,HS2_,HS3_⟩ (fun hHeld=>?_)
            clear hK K
            refine norm_ (a':=?_) ?_ ?_
            rotate_left
            ·show Act.put _ (some 28) _=_
             simp only [Act.put,zp1,zp2,zp3,i64_w,i32_w]
             rfl
            refine pure_ (i:=8) (N:=some 10) (v:=?_) (a':=?_) #[Y,Y,Y,Y,Y,Y,Y,Y,Y] rfl rfl zan (fun _ _ _ h=>h) (Or.inl ⟨by rfl,?_⟩) ?_ ?_
            rotate_left
            ·intro w'
             go_simp
             with_reducible rfl
            rotate_left
            ·simp only [Act.put,zp1,zp2,zp3,i64_w,i32_w]
             rfl
            refine done_ (done_of HT_.out (by kernel_rfl)) ?_
            try go_wp2
            have n0_:=Aside0.mk (Kd.V_drew HO_0.out)
            have n1_:=Aside0.mk (Kd.V_drew HO_1.out)
            have n2_:=Aside0.mk (Kd.N_drew HO_9.out)
            have n3_:=Aside0.mk (Kd.V_drew HL257_0.out)
            have n4_:=Aside0.mk (Kd.V_drew HL258_0.out)
            have n5_:=Aside0.mk (Kd.C_drew HR257_0.out)
            have n6_:=Aside0.mk (Kd.C_drew HR258_0.out)
            have n7_:=Aside0.mk (below_drew1 HB.out)
            clear HO_0
            clear HO_1
            clear HO_9
            clear HL257_0
            clear HL258_0
            clear HR257_0
            clear HR258_0
            clear HB
            have HO_0:=n0_
            have HO_1:=n1_
            have HO_9:=n2_
            have HL257_0:=n3_
            have HL258_0:=n4_
            have HR257_0:=n5_
            have HR258_0:=n6_
            have HB:=n7_
            clear n0_ n1_ n2_ n3_ n4_ n5_ n6_ n7_
            have p278:0≤(0:Int):=(by omega)
            have q278:0 < (x0_1.length:Int):=zod
            obtain ⟨ad278,A278_0,c278_0,e278,hx278_0,hx278_1,hl278_0,hi278_0⟩:=at_T33 (Kd.V_reads' HO_0.out).2.2 0 p278 q278
            obtain rfl:ad257=ad278:=(by injection e278)
            obtain ⟨ce278,hce278,hMe278,hcc278⟩:=Kd.V_get HO_0.out z33 0 p278 (by first|exact q278|exact zod|(have e_:=(Kd.V_reads' HO_0.out).1;omega))
            obtain ⟨ua278_0,uc278_0,rfl,ul278_0,ge278_0⟩:=k33_openF hMe278
            have hv278_0:=hcc278 0 _ rfl
            rw [Nat.add_zero] at hv278_0
            replace hv278_0:=Option.some.inj (hv278_0.symm.trans hx278_0)
            injection hv278_0 with hva_ hvn_ hvc_
            rw [hva_] at ge278_0
            rw [hvc_] at ul278_0
            have HL278_0:=Aside0.mk (show Kd.V (Kd.int .i64) 3 _ w.heap.size _ _ ((rd_T33 x0_1 0).f0) from Kd.V_mk ul278_0 ge278_0)
            clear hva_ hvn_ hvc_ ge278_0 ul278_0
            clear hcc278 hce278
            have qi278:(0 < x0_1.length)=True:=eq_true (by omega)
            (try rw [show ((0:Int)).toNat=0 from rfl] at hx278_0)
            (try rw [show 0 * 2=0 from rfl] at hx278_0)
            (try rw [Addr.add_zero'] at hx278_0)
            (try rw [show ((0:Int)).toNat=0 from rfl] at hx278_1)
            (try rw [show 0 * 2=0 from rfl] at hx278_1)
            (try rw [Addr.add_zero'] at hx278_1)
            have HR278_0:=Aside0.mk hi278_0
            have HC278_0:=Aside0.mk hl278_0
            clear hi278_0 hl278_0
            replace p278:=eq_true p278
            replace q278:=eq_true q278
            have p279:0≤(0:Int):=(by omega)
            have q279:0 < (x1_1.length:Int):=zod
            obtain ⟨ad279,A279_0,c279_0,e279,hx279_0,hx279_1,hl279_0,hi279_0⟩:=at_T33 (Kd.V_reads' HO_1.out).2.2 0 p279 q279
            obtain rfl:ad258=ad279:=(by injection e279)
            obtain ⟨ce279,hce279,hMe279,hcc279⟩:=Kd.V_get HO_1.out z33 0 p279 (by first|exact q279|exact zod|(have e_:=(Kd.V_reads' HO_1.out).1;omega))
            obtain ⟨ua279_0,uc279_0,rfl,ul279_0,ge279_0⟩:=k33_openF hMe279
            have hv279_0:=hcc279 0 _ rfl
            rw [Nat.add_zero] at hv279_0
            replace hv279_0:=Option.some.inj (hv279_0.symm.trans hx279_0)
            injection hv279_0 with hva_ hvn_ hvc_
            rw [hva_] at ge279_0
            rw [hvc_] at ul279_0
            have HL279_0:=Aside0.mk (show Kd.V (Kd.int .i64) 3 _ w.heap.size _ _ ((rd_T33 x1_1 0).f0) from Kd.V_mk ul279_0 ge279_0)
            clear hva_ hvn_ hvc_ ge279_0 ul279_0
            clear hcc279 hce279
            have qi279:(0 < x1_1.length)=True:=eq_true (by omega)
            (try rw [show ((0:Int)).toNat=0 from rfl] at hx279_0)
            (try rw [show 0 * 2=0 from rfl] at hx279_0)
            (try rw [Addr.add_zero'] at hx279_0)
            (try rw [show ((0:Int)).toNat=0 from rfl] at hx279_1)
            (try rw [show 0 * 2=0 from rfl] at hx279_1)
            (try rw [Addr.add_zero'] at hx279_1)
            have HR279_0:=Aside0.mk hi279_0
            have HC279_0:=Aside0.mk hl279_0
            clear hi279_0 hl279_0
            replace p279:=eq_true p279
            replace q279:=eq_true q279
            refine start_ (n:=14) (S:=fun w'=>w'.cell? ad257=some (.slice A278_0 ((rd_T33 x0_1 0).f0).length c278_0)∧w'.cell? ⟨ad257.block,ad257.off + 1,none⟩=some (.int .i64 ((rd_T33 x0_1 0).f1))∧w'.cell? ad258=some (.slice A279_0 ((rd_T33 x1_1 0).f0).length c279_0)∧w'.cell? ⟨ad258.block,ad258.off + 1,none⟩=some (.int .i64 ((rd_T33 x1_1 0).f1))) (ds:=[]) #[X,X,X,X,X,X,X,X,X,X,X,X,X,X] (by kernel_rfl) rfl rfl ⟨hx278_0,hx278_1,hx279_0,hx279_1⟩ (fun hHeld=>?_);refine with_tabW impl_merged_impl_Item__impl_cmpItem_impl_together_1.tab4 impl_merged_impl_Item__impl_cmpItem_impl_together_1.bits4 (fun HT_ HW_=>?_)
            generalize w57.drew=w58 at HO_0 HO_1 HO_9 HL257_0 HL258_0 HR257_0 HR258_0 HB HL278_0 HL279_0 HR278_0 HR279_0 hx278_0 hx278_1 hx279_0 hx279_1 hHeld ⊢
            refine pure_ (i:=0) (N:=some 30) (v:=?_) (a':=?_) #[Y,X,X,X,X,X,X,X,X,X,X,X,X,X] rfl rfl zan (fun _ _ _ h=>h) (Or.inl ⟨by rfl,?_⟩) ?_ ?_
            rotate_left
            ·intro w'
             go_simp
             with_reducible rfl
            rotate_left
            ·simp only [Act.put,zp1,zp2,zp3,i64_w,i32_w]
             rfl
            refine pure_ (i:=1) (N:=some 31) (v:=?_) (a':=?_) #[Y,Y,X,X,X,X,X,X,X,X,X,X,X,X] rfl rfl zan (fun _ _ _ h=>h) (Or.inl ⟨by rfl,?_⟩) ?_ ?_
            rotate_left
            ·intro w'
             go_simp
             with_reducible rfl
            rotate_left
            ·simp only [Act.put,zp1,zp2,zp3,i64_w,i32_w]
             rfl
            refine pure_ (i:=2) (N:=some 32) (v:=?_) (a':=?_) #[Y,Y,Y,X,X,X,X,X,X,X,X,X,X,X] rfl rfl zan (fun _ _ _ h=>h) (Or.inl ⟨by rfl,?_⟩) ?_ ?_
            rotate_left
            ·intro w'
             go_simp
             with_reducible rfl
            rotate_left
            ·simp only [Act.put,zp1,zp2,zp3,i64_w,i32_w]
             rfl
            refine pure_ (i:=4) (N:=some 34) (v:=?_) (a':=?_) #[Y,Y,Y,X,Y,X,X,X,X,X,X,X,X,X] rfl rfl zan (fun _ _ _ h=>h) (Or.inl ⟨by rfl,?_⟩) ?_ ?_
            rotate_left
            ·intro w'
             go_simp
             with_reducible rfl
            rotate_left
            ·simp only [Act.put,zp1,zp2,zp3,i64_w,i32_w]
             rfl
            refine pure_ (i:=5) (N:=some 35) (v:=?_) (a':=?_) #[Y,Y,Y,X,Y,Y,X,X,X,X,X,X,X,X] rfl rfl zan (fun _ _ _ h=>h) (Or.inl ⟨by rfl,?_⟩) ?_ ?_
            rotate_left
            ·intro w'
             go_simp
             with_reducible rfl
            rotate_left
            ·simp only [Act.put,zp1,zp2,zp3,i64_w,i32_w]
             rfl
            refine take_ (i:=3) (N:=some 33) (v:=?_) (a':=?_) #[Y,Y,Y,Y,Y,Y,X,X,X,X,X,X,X,X] rfl rfl ztw (fun _ _ _ h=>h) (Or.inl ⟨by rfl,?_⟩) hHeld ?_ ?_
            rotate_left
            ·rintro w' ⟨s0,s1,s2,s3⟩
             go_simp
             with_reducible rfl
            rotate_left
            ·simp only [Act.put,zp1,zp2,zp3,i64_w,i32_w]
             rfl
            refine take_ (i:=6) (N:=some 36) (v:=?_) (a':=?_) #[Y,Y,Y,Y,Y,Y,Y,X,X,X,X,X,X,X] rfl rfl ztw (fun _ _ _ h=>h) (Or.inl ⟨by rfl,?_⟩) hHeld ?_ ?_
            rotate_left
            ·rintro w' ⟨s0,s1,s2,s3⟩
             go_simp
             with_reducible rfl
            rotate_left
            ·simp only [Act.put,zp1,zp2,zp3,i64_w,i32_w]
             rfl
            refine join_ (σ:=Value × Nat) 2 #[Y,Y,Y,Y,Y,Y,Y,Y,Y,Y,Y,Y,X,X] (fun s_=>[(37,.tuple #[.agg #[s_.1,.int .i64 t283],.bool false]),(11,.pointer (some ⟨s_.2,0,none⟩)),(29,.tuple #[.agg #[s_.1,.int .i64 t283],.bool false]),(38,.agg #[s_.1,.int .i64 t283]),(39,.bool false)]) (fun s_ w'=>(w'.cell? ad257=some (.slice A278_0 ((rd_T33 x0_1 0).f0).length c278_0)∧w'.cell? ⟨ad257.block,ad257.off + 1,none⟩=some (.int .i64 ((rd_T33 x0_1 0).f1))∧w'.cell? ad258=some (.slice A279_0 ((rd_T33 x1_1 0).f0).length c279_0)∧w'.cell? ⟨ad258.block,ad258.off + 1,none⟩=some (.int .i64 ((rd_T33 x1_1 0).f1)))∧(Kd.V (Kd.int .i64) 3 w' w.heap.size (fun k_=>((P0_ k_∨P1_ k_)∨w.heap.size≤k_)∧some k_≠(u9:Value).ownBlock∧k_≠s_.2) (.slice A257_0 ((rd_T33 x0_1 0).f0).length c257_0) ((rd_T33 x0_1 0).f0))∧(Kd.V (Kd.int .i64) 3 w' w.heap.size (fun k_=>((P0_ k_∨P1_ k_)∨w.heap.size≤k_)∧some k_≠(u9:Value).ownBlock∧k_≠s_.2) (.slice A258_0 ((rd_T33 x1_1 0).f0).length c258_0) ((rd_T33 x1_1 0).f0))∧(Kd.V (Kd.int .i64) 3 w' w.heap.size (fun k_=>((P0_ k_∨P1_ k_)∨w.heap.size≤k_)∧some k_≠(u9:Value).ownBlock∧k_≠s_.2) (.slice A278_0 ((rd_T33 x0_1 0).f0).length c278_0) ((rd_T33 x0_1 0).f0))∧(Kd.V (Kd.int .i64) 3 w' w.heap.size (fun k_=>((P0_ k_∨P1_ k_)∨w.heap.size≤k_)∧some k_≠(u9:Value).ownBlock∧k_≠s_.2) (.slice A279_0 ((rd_T33 x1_1 0).f0).length c279_0) ((rd_T33 x1_1 0).f0))∧(Kd.V (Kd.int .i64) 3 w' w.heap.size (fun k_=>((P0_ k_∨P1_ k_)∨w.heap.size≤k_)∧some k_≠(u9:Value).ownBlock∧k_≠s_.2) s_.1 t280)∧(Kd.V k33 33 w' w.heap.size (fun k_=>((P0_ k_∨P1_ k_)∨w.heap.size≤k_)∧some k_≠(u9:Value).ownBlock∧k_≠s_.2) (.slice (some ad257) x0_1.length co54) x0_1)∧(Kd.V k33 33 w' w.heap.size (fun k_=>((P0_ k_∨P1_ k_)∨w.heap.size≤k_)∧some k_≠(u9:Value).ownBlock∧k_≠s_.2) (.slice (some ad258) x1_1.length co55) x1_1)∧(Kd.N k33 33 w' w.heap.size (fun k_=>((P0_ k_∨P1_ k_)∨w.heap.size≤k_)∧k_≠s_.2) u9 x9_1)∧(w'.heap[s_.2]?=some (.cells #[.slice none 0 0,.int .i64 0] 33 (0,0)))∧(w.heap.size≤s_.2)∧(w.heap.size≤s_.2)∧(Below w.heap.size w w')) ?_ ?_
            rotate_left
            ·intro hCont
             refine two_ (i:=7) (j:=11) (Ni:=some 37) (Nj:=some 11) #[Y,Y,Y,Y,Y,Y,Y,Y,X,X,X,X,X,X] #[Y,Y,Y,Y,Y,Y,Y,X,X,X,X,Y,X,X] rfl rfl rfl rfl (two_of HT_.out (by kernel_rfl)) (by decide) (by decide) (fun K hK=>?_) (fun K hK=>?_)
             ·skip
              refine goes_f (.tmp 30) Tryz.func65 (by kernel_rfl) rfl #[.agg #[.slice A278_0 ((rd_T33 x0_1 0).f0).length c278_0,.int .i64 ((rd_T33 x0_1 0).f1)],.agg #[.slice A279_0 ((rd_T33 x1_1 0).f0).length c279_0,.int .i64 ((rd_T33 x1_1 0).f1)]] (by rfl) rfl rfl rfl zar ?_
              with_reducible refine (impl_together_1.calls (fun k_=>(((P0_ k_∨P1_ k_)∨w.heap.size≤k_)∧some k_≠(u9:Value).ownBlock)) _ _ ((rd_T33 x0_1 0).f0) ((rd_T33 x0_1 0).f1) _ _ ((rd_T33 x1_1 0).f0) ((rd_T33 x1_1 0).f1) t280 t283 false _ ?side1 ?side2 ?side3 A30.out).mono ?_
              (case side1=>exact HL278_0.out)
              (case side2=>exact zC (zC HR279_0.out))
              (case side3=>exact HC279_0.out)
              rintro e w59 ⟨v281,rfl,ho0,hb⟩
              have HS0_:=zhs hb hHeld.1
              have HS1_:=zhs hb hHeld.2.1
              have HS2_:=zhs hb hHeld.2.2.1
              have HS3_:=zhs hb hHeld.2.2.2
              refine ⟨_,rfl,?_⟩
              have n0_:=Aside0.mk (Kd.V_below (zV HO_0.out) hb)
              have n1_:=Aside0.mk (Kd.V_below (zV HO_1.out) hb)
              have n2_:=Aside0.mk (Kd.N_below (zN HO_9.out) hb)
              have n3_:=Aside0.mk (Kd.V_below (zV HL257_0.out) hb)
              have n4_:=Aside0.mk (Kd.V_below (zV HL258_0.out) hb)
              have n5_:=Aside0.mk (Kd.V_below (zV HL278_0.out) hb)
              have n6_:=Aside0.mk (Kd.V_below (zV HL279_0.out) hb)
              have n7_:=Aside0.mk (Kd.V_lower (Kd.V_mono (ok':=fun k_=>((P0_ k_∨P1_ k_)∨w.heap.size≤k_)∧some k_≠(u9:Value).ownBlock) ho0 (fun k_ hk_=>⟨Or.elim hk_ (fun hs_=>hs_.1) (fun hn_=>(.inr (Nat.le_trans (below_size zhb) hn_))),Or.elim hk_ (fun hs_=>hs_.2) (fun hn_=>(Kd.fresh' (Kd.N_lt (zN HO_9.out)) k_ hn_))⟩)) (below_size zhb))
              have n8_:=Aside0.mk (Kd.C_below (zC HR257_0.out) hb)
              have n9_:=Aside0.mk (Kd.C_below (zC HR258_0.out) hb)
              have n10_:=Aside0.mk (Kd.C_below (zC HR278_0.out) hb)
              have n11_:=Aside0.mk (Kd.C_below (zC HR279_0.out) hb)
              have n12_:=Aside0.mk (below_step zhb hb)
              clear HO_0
              clear HO_1
              clear HO_9
              clear HL257_0
              clear HL258_0
              clear HL278_0
              clear HL279_0
              clear HR257_0
              clear HR258_0
              clear HR278_0
              clear HR279_0
              clear HB
              have HO_0:=n0_
              have HO_1:=n1_
              have HO_9:=n2_
              have HL257_0:=n3_
              have HL258_0:=n4_
              have HL278_0:=n5_
              have HL279_0:=n6_
              have HO282:=n7_
              have HR257_0:=n8_
              have HR258_0:=n9_
              have HR278_0:=n10_
              have HR279_0:=n11_
              have HB:=n12_
              clear n0_ n1_ n2_ n3_ n4_ n5_ n6_ n7_ n8_ n9_ n10_ n11_ n12_
              (try clear hb)
              (try clear hb2)
              (try clear hk)
              (try clear hi)
              (try clear ho0)
              refine hK.out _ _ ⟨HS0_,HS1_,HS2_,HS3_⟩ (fun hHeld=>?_)
              clear hK K
              refine norm_ (a':=?_) ?_ ?_
              rotate_left
              ·show Act.put _ (some 37) _=_
               simp only [Act.put,zp1,zp2,zp3,i64_w,i32_w]
               rfl
              refine pure_ (i:=8) (N:=some 29) (v:=?_) (a':=?_) #[Y,Y,Y,Y,Y,Y,Y,Y,Y,X,X,X,X,X] rfl rfl zan (fun _ _ _ h=>h) (Or.inl ⟨by rfl,?_⟩) ?_ ?_
              rotate_left
              ·intro w'
               go_simp
               with_reducible rfl
              rotate_left
              ·simp only [Act.put,zp1,zp2,zp3,i64_w,i32_w]
               rfl
              refine pure_ (i:=9) (N:=some 38) (v:=?_) (a':=?_) #[Y,Y,Y,Y,Y,Y,Y,Y,Y,Y,X,X,X,X] rfl rfl zan (fun _ _ _ h=>h) (Or.inl ⟨by rfl,?_⟩) ?_ ?_
              rotate_left
              ·intro w'
               go_simp
               with_reducible rfl
              rotate_left
              ·simp only [Act.put,zp1,zp2,zp3,i64_w,i32_w]
               rfl
              refine pure_ (i:=10) (N:=some 39) (v:=?_) (a':=?_) #[Y,Y,Y,Y,Y,Y,Y,Y,Y,Y,Y,X,X,X] rfl rfl zan (fun _ _ _ h=>h) (Or.inl ⟨by rfl,?_⟩) ?_ ?_
              rotate_left
              ·intro w'
               go_simp
               with_reducible rfl
              rotate_left
              ·simp only [Act.put,zp1,zp2,zp3,i64_w,i32_w]
               rfl
              refine one_ (i:=11) (N:=some 11) #[Y,Y,Y,Y,Y,Y,Y,Y,Y,Y,Y,Y,X,X] rfl rfl (one_of HT_.out (by kernel_rfl)) (by decide) (fun K hK=>?_)
              refine box_step ?hg (N:=11) ?hd (cs:=#[.slice none 0 0,.int .i64 0]) (t:=33) ?hr ?_;(case hd=>rfl);(case hg=>rfl);(case hr=>first|(go_simp;done)|(go_simp;rfl))
              intro gb285 hg w60 hbox hb
              have HS0_:=zhs hb hHeld.1
              have HS1_:=zhs hb hHeld.2.1
              have HS2_:=zhs hb hHeld.2.2.1
              have HS3_:=zhs hb hHeld.2.2.2
              have n0_:=Aside0.mk (Kd.V_below (Kd.V_elderB (zV HO_0.out) gb285 (Nat.le_of_eq hg.symm)) hb)
              have n1_:=Aside0.mk (Kd.V_below (Kd.V_elderB (zV HO_1.out) gb285 (Nat.le_of_eq hg.symm)) hb)
              have n2_:=Aside0.mk (Kd.N_below (Kd.N_elderB (zN HO_9.out) gb285 (Nat.le_of_eq hg.symm)) hb)
              have n3_:=Aside0.mk (Kd.V_below (Kd.V_elderB (zV HL257_0.out) gb285 (Nat.le_of_eq hg.symm)) hb)
              have n4_:=Aside0.mk (Kd.V_below (Kd.V_elderB (zV HL258_0.out) gb285 (Nat.le_of_eq hg.symm)) hb)
              have n5_:=Aside0.mk (Kd.V_below (Kd.V_elderB (zV HL278_0.out) gb285 (Nat.le_of_eq hg.symm)) hb)
              have n6_:=Aside0.mk (Kd.V_below (Kd.V_elderB (zV HL279_0.out) gb285 (Nat.le_of_eq hg.symm)) hb)
              have n7_:=Aside0.mk (Kd.V_below (Kd.V_elderB (zV HO282.out) gb285 (Nat.le_of_eq hg.symm)) hb)
              have n8_:=Aside0.mk (Kd.C_below (zC HR257_0.out) hb)
              have n9_:=Aside0.mk (Kd.C_below (zC HR258_0.out) hb)
              have n10_:=Aside0.mk (Kd.C_below (zC HR278_0.out) hb)
              have n11_:=Aside0.mk (Kd.C_below (zC HR279_0.out) hb)
              have n12_:=Aside0.mk (below_step zhb hb)
              have n13_:=Aside0.mk (hbox)
              have n14_:=Aside0.mk ((by rw [hg];exact (below_size zhb):w.heap.size≤gb285))
              have n15_:=Aside0.mk ((by rw [hg];exact (below_size zhb):w.heap.size≤gb285))
              clear HO_0
              clear HO_1
              clear HO_9
              clear HL257_0
              clear HL258_0
              clear HL278_0
              clear HL279_0
              clear HO282
              clear HR257_0
              clear HR258_0
              clear HR278_0
              clear HR279_0
              clear HB
              have HO_0:=n0_
              have HO_1:=n1_
              have HO_9:=n2_
              have HL257_0:=n3_
              have HL258_0:=n4_
              have HL278_0:=n5_
              have HL279_0:=n6_
              have HO282:=n7_
              have HR257_0:=n8_
              have HR258_0:=n9_
              have HR278_0:=n10_
              have HR279_0:=n11_
              have HB:=n12_
              have BK285:=n13_
              have GW285:=n14_
              have GE285:=n15_
              clear n0_ n1_ n2_ n3_ n4_ n5_ n6_ n7_ n8_ n9_ n10_ n11_ n12_ n13_ n14_ n15_
              clear hb hbox hg
              refine hK.out _ _ ⟨HS0_,HS1_,HS2_,HS3_⟩ (fun hHeld=>?_)
              clear hK K
              refine norm_ (a':=?_) ?_ ?_
              rotate_left
              ·show Act.put _ (some 11) _=_
               simp only [Act.put,zp1,zp2,zp3,i64_w,i32_w]
               rfl
              exact norm_ (by simp only [putAll,Act.put,zp1,zp2,zp3]) (hCont (v281,gb285) _ ⟨hHeld,(by (with_reducible repeat (first|apply Kd.V_alloc|apply Kd.V_drewN|apply Kd.V_drew));exact Kd.V_mono HL257_0.out (fun _ hk=>⟨hk.1.1,⟨hk.1.2,hk.2⟩⟩)),(by (with_reducible repeat (first|apply Kd.V_alloc|apply Kd.V_drewN|apply Kd.V_drew));exact Kd.V_mono HL258_0.out (fun _ hk=>⟨hk.1.1,⟨hk.1.2,hk.2⟩⟩)),(by (with_reducible repeat (first|apply Kd.V_alloc|apply Kd.V_drewN|apply Kd.V_drew));exact Kd.V_mono HL278_0.out (fun _ hk=>⟨hk.1.1,⟨hk.1.2,hk.2⟩⟩)),(by (with_reducible repeat (first|apply Kd.V_alloc|apply Kd.V_drewN|apply Kd.V_drew));exact Kd.V_mono HL279_0.out (fun _ hk=>⟨hk.1.1,⟨hk.1.2,hk.2⟩⟩)),(by (with_reducible repeat (first|apply Kd.V_alloc|apply Kd.V_drewN|apply Kd.V_drew));exact Kd.V_mono HO282.out (fun _ hk=>⟨hk.1.1,⟨hk.1.2,hk.2⟩⟩)),(by (with_reducible repeat (first|apply Kd.V_alloc|apply Kd.V_drewN|apply Kd.V_drew));exact Kd.V_mono HO_0.out (fun _ hk=>⟨hk.1.1,⟨hk.1.2,hk.2⟩⟩)),(by (with_reducible repeat (first|apply Kd.V_alloc|apply Kd.V_drewN|apply Kd.V_drew));exact Kd.V_mono HO_1.out (fun _ hk=>⟨hk.1.1,⟨hk.1.2,hk.2⟩⟩)),(zN HO_9.out),(by (with_reducible repeat (first|refine blk_drewN ?_ _|refine blk_drew ?_|refine blk_alloc ?_ _));exact BK285.out),GW285.out,GE285.out,(by repeat (first|(with_reducible first|exact HB.out|apply below_alloc|apply pw_below_drewN|apply below_drew1|refine below_set ?_ GE285.out)|exact HB.out))⟩)
             ·skip
              refine box_step ?hg (N:=11) ?hd (cs:=#[.slice none 0 0,.int .i64 0]) (t:=33) ?hr ?_;(case hd=>rfl);(case hg=>rfl);(case hr=>first|(go_simp;done)|(go_simp;rfl))
              intro gb285 hg w59 hbox hb
              have HS0_:=zhs hb hHeld.1
              have HS1_:=zhs hb hHeld.2.1
              have HS2_:=zhs hb hHeld.2.2.1
              have HS3_:=zhs hb hHeld.2.2.2
              have n0_:=Aside0.mk (Kd.V_below (Kd.V_elderB (zV HO_0.out) gb285 (Nat.le_of_eq hg.symm)) hb)
              have n1_:=Aside0.mk (Kd.V_below (Kd.V_elderB (zV HO_1.out) gb285 (Nat.le_of_eq hg.symm)) hb)
              have n2_:=Aside0.mk (Kd.N_below (Kd.N_elderB (zN HO_9.out) gb285 (Nat.le_of_eq hg.symm)) hb)
              have n3_:=Aside0.mk (Kd.V_below (Kd.V_elderB (zV HL257_0.out) gb285 (Nat.le_of_eq hg.symm)) hb)
              have n4_:=Aside0.mk (Kd.V_below (Kd.V_elderB (zV HL258_0.out) gb285 (Nat.le_of_eq hg.symm)) hb)
              have n5_:=Aside0.mk (Kd.V_below (Kd.V_elderB (zV HL278_0.out) gb285 (Nat.le_of_eq hg.symm)) hb)
              have n6_:=Aside0.mk (Kd.V_below (Kd.V_elderB (zV HL279_0.out) gb285 (Nat.le_of_eq hg.symm)) hb)
              have n7_:=Aside0.mk (Kd.C_below (zC HR257_0.out) hb)
              have n8_:=Aside0.mk (Kd.C_below (zC HR258_0.out) hb)
              have n9_:=Aside0.mk (Kd.C_below (zC HR278_0.out) hb)
              have n10_:=Aside0.mk (Kd.C_below (zC HR279_0.out) hb)
              have n11_:=Aside0.mk (below_step zhb hb)
              have n12_:=Aside0.mk (hbox)
              have n13_:=Aside0.mk ((by rw [hg];exact (below_size zhb):w.heap.size≤gb285))
              have n14_:=Aside0.mk ((by rw [hg];exact (below_size zhb):w.heap.size≤gb285))
              clear HO_0
              clear HO_1
              clear HO_9
              clear HL257_0
              clear HL258_0
              clear HL278_0
              clear HL279_0
              clear HR257_0
              clear HR258_0
              clear HR278_0
              clear HR279_0
              clear HB
              have HO_0:=n0_
              have HO_1:=n1_
              have HO_9:=n2_
              have HL257_0:=n3_
              have HL258_0:=n4_
              have HL278_0:=n5_
              have HL279_0:=n6_
              have HR257_0:=n7_
              have HR258_0:=n8_
              have HR278_0:=n9_
              have HR279_0:=n10_
              have HB:=n11_
              have BK285:=n12_
              have GW285:=n13_
              have GE285:=n14_
              clear n0_ n1_ n2_ n3_ n4_ n5_ n6_ n7_ n8_ n9_ n10_ n11_ n12_ n13_ n14_
              clear hb hbox hg
              refine hK.out _ _ ⟨HS0_,HS1_,HS2_,HS3_⟩ (fun hHeld=>?_)
              clear hK K
              refine norm_ (a':=?_) ?_ ?_
              rotate_left
              ·show Act.put _ (some 11) _=_
               simp only [Act.put,zp1,zp2,zp3,i64_w,i32_w]
               rfl
              refine one_ (i:=7) (N:=some 37) #[Y,Y,Y,Y,Y,Y,Y,Y,X,X,X,Y,X,X] rfl rfl (one_of HT_.out (by kernel_rfl)) (by decide) (fun K hK=>?_)
              refine goes_f (.tmp 30) Tryz.func65 (by kernel_rfl) rfl #[.agg #[.slice A278_0 ((rd_T33 x0_1 0).f0).length c278_0,.int .i64 ((rd_T33 x0_1 0).f1)],.agg #[.slice A279_0 ((rd_T33 x1_1 0).f0).length c279_0,.int .i64 ((rd_T33 x1_1 0).f1)]] (by rfl) rfl rfl rfl zar ?_
              with_reducible refine (impl_together_1.calls (fun k_=>((((P0_ k_∨P1_ k_)∨w.heap.size≤k_)∧some k_≠(u9:Value).ownBlock)∧k_≠gb285)) _ _ ((rd_T33 x0_1 0).f0) ((rd_T33 x0_1 0).f1) _ _ ((rd_T33 x1_1 0).f0) ((rd_T33 x1_1 0).f1) t280 t283 false _ ?side1 ?side2 ?side3 A30.out).mono ?_
              (case side1=>exact HL278_0.out)
              (case side2=>exact zC (zC HR279_0.out))
              (case side3=>exact HC279_0.out)
              rintro e w60 ⟨v281,rfl,ho0,hb⟩
              have HS0_:=zhs hb hHeld.1
              have HS1_:=zhs hb hHeld.2.1
              have HS2_:=zhs hb hHeld.2.2.1
              have HS3_:=zhs hb hHeld.2.2.2
              refine ⟨_,rfl,?_⟩
              have n0_:=Aside0.mk (Kd.V_below (zV HO_0.out) hb)
              have n1_:=Aside0.mk (Kd.V_below (zV HO_1.out) hb)
              have n2_:=Aside0.mk (Kd.N_below (zN HO_9.out) hb)
              have n3_:=Aside0.mk (Kd.V_below (zV HL257_0.out) hb)
              have n4_:=Aside0.mk (Kd.V_below (zV HL258_0.out) hb)
              have n5_:=Aside0.mk (Kd.V_below (zV HL278_0.out) hb)
              have n6_:=Aside0.mk (Kd.V_below (zV HL279_0.out) hb)
              have n7_:=Aside0.mk (Kd.V_lower (Kd.V_mono (ok':=fun k_=>((P0_ k_∨P1_ k_)∨w.heap.size≤k_)∧some k_≠(u9:Value).ownBlock∧k_≠gb285) ho0 (fun k_ hk_=>⟨Or.elim hk_ (fun hs_=>hs_.1.1) (fun hn_=>(.inr (Nat.le_trans (below_size (by repeat (first|(with_reducible first|exact HB.out|apply below_alloc|apply pw_below_drewN|apply below_drew1|refine below_set ?_ GE285.out)|exact HB.out))) hn_))),Or.elim hk_ (fun hs_=>hs_.1.2) (fun hn_=>(Kd.fresh' (Kd.N_lt (zN HO_9.out)) k_ hn_)),Or.elim hk_ (fun hs_=>hs_.2) (fun hn_=>(Kd.freshB (g:=gb285) (o:=.cells #[.slice none 0 0,.int .i64 0] 33 (0,0)) (by (with_reducible repeat (first|refine blk_drewN ?_ _|refine blk_drew ?_|refine blk_alloc ?_ _));exact BK285.out) k_ hn_))⟩)) (below_size (by repeat (first|(with_reducible first|exact HB.out|apply below_alloc|apply pw_below_drewN|apply below_drew1|refine below_set ?_ GE285.out)|exact HB.out))))
              have n8_:=Aside0.mk (Kd.C_below (zC HR257_0.out) hb)
              have n9_:=Aside0.mk (Kd.C_below (zC HR258_0.out) hb)
              have n10_:=Aside0.mk (Kd.C_below (zC HR278_0.out) hb)
              have n11_:=Aside0.mk (Kd.C_below (zC HR279_0.out) hb)
              have n12_:=Aside0.mk (blk_below (g:=gb285) (o:=.cells #[.slice none 0 0,.int .i64 0] 33 (0,0)) (by (with_reducible repeat (first|refine blk_drewN ?_ _|refine blk_drew ?_|refine blk_alloc ?_ _));exact BK285.out) hb)
              have n13_:=Aside0.mk (below_step (by repeat (first|(with_reducible first|exact HB.out|apply below_alloc|apply pw_below_drewN|apply below_drew1|refine below_set ?_ GE285.out)|exact HB.out)) hb)
              clear HO_0
              clear HO_1
              clear HO_9
              clear HL257_0
              clear HL258_0
              clear HL278_0
              clear HL279_0
              clear HR257_0
              clear HR258_0
              clear HR278_0
              clear HR279_0
              clear BK285
              clear HB
              have HO_0:=n0_
              have HO_1:=n1_
              have HO_9:=n2_
              have HL257_0:=n3_
              have HL258_0:=n4_
              have HL278_0:=n5_
              have HL279_0:=n6_
              have HO282:=n7_
              have HR257_0:=n8_
              have HR258_0:=n9_
              have HR278_0:=n10_
              have HR279_0:=n11_
              have BK285:=n12_
              have HB:=n13_
              clear n0_ n1_ n2_ n3_ n4_ n5_ n6_ n7_ n8_ n9_ n10_ n11_ n12_ n13_
              (try clear hb)
              (try clear hb2)
              (try clear hk)
              (try clear hi)
              (try clear ho0)
              refine hK.out _ _ ⟨HS0_,HS1_,HS2_,HS3_⟩ (fun hHeld=>?_)
              clear hK K
              refine norm_ (a':=?_) ?_ ?_
              rotate_left
              ·show Act.put _ (some 37) _=_
               simp only [Act.put,zp1,zp2,zp3,i64_w,i32_w]
               rfl
              refine pure_ (i:=8) (N:=some 29) (v:=?_) (a':=?_) #[Y,Y,Y,Y,Y,Y,Y,Y,Y,X,X,Y,X,X] rfl rfl zan (fun _ _ _ h=>h) (Or.inl ⟨by rfl,?_⟩) ?_ ?_
              rotate_left
              ·intro w'
               go_simp
               with_reducible rfl
              rotate_left
              ·simp only [Act.put,zp1,zp2,zp3,i64_w,i32_w]
               rfl
              refine pure_ (i:=9) (N:=some 38) (v:=?_) (a':=?_) #[Y,Y,Y,Y,Y,Y,Y,Y,Y,Y,X,Y,X,X] rfl rfl zan (fun _ _ _ h=>h) (Or.inl ⟨by rfl,?_⟩) ?_ ?_
              rotate_left
              ·intro w'
               go_simp
               with_reducible rfl
              rotate_left
              ·simp only [Act.put,zp1,zp2,zp3,i64_w,i32_w]
               rfl
              refine pure_ (i:=10) (N:=some 39) (v:=?_) (a':=?_) #[Y,Y,Y,Y,Y,Y,Y,Y,Y,Y,Y,Y,X,X] rfl rfl zan (fun _ _ _ h=>h) (Or.inl ⟨by rfl,?_⟩) ?_ ?_
              rotate_left
              ·intro w'
               go_simp
               with_reducible rfl
              rotate_left
              ·simp only [Act.put,zp1,zp2,zp3,i64_w,i32_w]
               rfl
              exact norm_ (by simp only [putAll,Act.put,zp1,zp2,zp3]) (hCont (v281,gb285) _ ⟨hHeld,(by (with_reducible repeat (first|apply Kd.V_alloc|apply Kd.V_drewN|apply Kd.V_drew));exact Kd.V_mono HL257_0.out (fun _ hk=>⟨hk.1.1,⟨hk.1.2,hk.2⟩⟩)),(by (with_reducible repeat (first|apply Kd.V_alloc|apply Kd.V_drewN|apply Kd.V_drew));exact Kd.V_mono HL258_0.out (fun _ hk=>⟨hk.1.1,⟨hk.1.2,hk.2⟩⟩)),(by (with_reducible repeat (first|apply Kd.V_alloc|apply Kd.V_drewN|apply Kd.V_drew));exact Kd.V_mono HL278_0.out (fun _ hk=>⟨hk.1.1,⟨hk.1.2,hk.2⟩⟩)),(by (with_reducible repeat (first|apply Kd.V_alloc|apply Kd.V_drewN|apply Kd.V_drew));exact Kd.V_mono HL279_0.out (fun _ hk=>⟨hk.1.1,⟨hk.1.2,hk.2⟩⟩)),(zV HO282.out),(by (with_reducible repeat (first|apply Kd.V_alloc|apply Kd.V_drewN|apply Kd.V_drew));exact Kd.V_mono HO_0.out (fun _ hk=>⟨hk.1.1,⟨hk.1.2,hk.2⟩⟩)),(by (with_reducible repeat (first|apply Kd.V_alloc|apply Kd.V_drewN|apply Kd.V_drew));exact Kd.V_mono HO_1.out (fun _ hk=>⟨hk.1.1,⟨hk.1.2,hk.2⟩⟩)),(zN HO_9.out),(by (with_reducible repeat (first|refine blk_drewN ?_ _|refine blk_drew ?_|refine blk_alloc ?_ _));exact BK285.out),GW285.out,GE285.out,(by repeat (first|(with_reducible first|exact HB.out|apply below_alloc|apply pw_below_drewN|apply below_drew1|refine below_set ?_ GE285.out)|exact HB.out))⟩)
            rintro ⟨v281,gb285⟩ w61 ⟨hS_,h0_,h1_,h2_,h3_,h4_,h5_,h6_,h7_,h8_,h9_,h10_,h11_⟩
            have n0_:Aside0 (Kd.V (Kd.int .i64) 3 w61 w.heap.size (fun k_=>((P0_ k_∨P1_ k_)∨w.heap.size≤k_)∧some k_≠(u9:Value).ownBlock∧k_≠gb285) (.slice A257_0 ((rd_T33 x0_1 0).f0).length c257_0) ((rd_T33 x0_1 0).f0)):=⟨h0_⟩
            have n1_:Aside0 (Kd.V (Kd.int .i64) 3 w61 w.heap.size (fun k_=>((P0_ k_∨P1_ k_)∨w.heap.size≤k_)∧some k_≠(u9:Value).ownBlock∧k_≠gb285) (.slice A258_0 ((rd_T33 x1_1 0).f0).length c258_0) ((rd_T33 x1_1 0).f0)):=⟨h1_⟩
            have n2_:Aside0 (Kd.V (Kd.int .i64) 3 w61 w.heap.size (fun k_=>((P0_ k_∨P1_ k_)∨w.heap.size≤k_)∧some k_≠(u9:Value).ownBlock∧k_≠gb285) (.slice A278_0 ((rd_T33 x0_1 0).f0).length c278_0) ((rd_T33 x0_1 0).f0)):=⟨h2_⟩
            have n3_:Aside0 (Kd.V (Kd.int .i64) 3 w61 w.heap.size (fun k_=>((P0_ k_∨P1_ k_)∨w.heap.size≤k_)∧some k_≠(u9:Value).ownBlock∧k_≠gb285) (.slice A279_0 ((rd_T33 x1_1 0).f0).length c279_0) ((rd_T33 x1_1 0).f0)):=⟨h3_⟩
            have n4_:Aside0 (Kd.V (Kd.int .i64) 3 w61 w.heap.size (fun k_=>((P0_ k_∨P1_ k_)∨w.heap.size≤k_)∧some k_≠(u9:Value).ownBlock∧k_≠gb285) v281 t280):=⟨h4_⟩
            have n5_:Aside0 (Kd.V k33 33 w61 w.heap.size (fun k_=>((P0_ k_∨P1_ k_)∨w.heap.size≤k_)∧some k_≠(u9:Value).ownBlock∧k_≠gb285) (.slice (some ad257) x0_1.length co54) x0_1):=⟨h5_⟩
            have n6_:Aside0 (Kd.V k33 33 w61 w.heap.size (fun k_=>((P0_ k_∨P1_ k_)∨w.heap.size≤k_)∧some k_≠(u9:Value).ownBlock∧k_≠gb285) (.slice (some ad258) x1_1.length co55) x1_1):=⟨h6_⟩
            have n7_:Aside0 (Kd.N k33 33 w61 w.heap.size (fun k_=>((P0_ k_∨P1_ k_)∨w.heap.size≤k_)∧k_≠gb285) u9 x9_1):=⟨h7_⟩
            have n8_:Aside0 (w61.heap[gb285]?=some (.cells #[.slice none 0 0,.int .i64 0] 33 (0,0))):=⟨h8_⟩
            have n9_:Aside0 (w.heap.size≤gb285):=⟨h9_⟩
            have n10_:Aside0 (w.heap.size≤gb285):=⟨h10_⟩
            have n11_:Aside0 (Below w.heap.size w w61):=⟨h11_⟩
            clear HO_0
            clear HO_1
            clear HO_9
            clear HL257_0
            clear HL258_0
            clear HR257_0
            clear HR258_0
            clear HB
            clear h0_ h1_ h2_ h3_ h4_ h5_ h6_ h7_ h8_ h9_ h10_ h11_
            have HL257_0:=n0_
            have HL258_0:=n1_
            have HL278_0:=n2_
            have HL279_0:=n3_
            have HO282:=n4_
            have HO_0:=n5_
            have HO_1:=n6_
            have HO_9:=n7_
            have BK285:=n8_
            have GW285:=n9_
            have GE285:=n10_
            have HB:=n11_
            clear n0_ n1_ n2_ n3_ n4_ n5_ n6_ n7_ n8_ n9_ n10_ n11_
            have hHeld:w61.cell? ad257=some (.slice A278_0 ((rd_T33 x0_1 0).f0).length c278_0)∧w61.cell? ⟨ad257.block,ad257.off + 1,none⟩=some (.int .i64 ((rd_T33 x0_1 0).f1))∧w61.cell? ad258=some (.slice A279_0 ((rd_T33 x1_1 0).f0).length c279_0)∧w61.cell? ⟨ad258.block,ad258.off + 1,none⟩=some (.int .i64 ((rd_T33 x1_1 0).f1)):=hS_
            obtain ⟨Ao62,co62,eo62⟩:=Kd.V_slice HO282.out
            (first|subst eo62|(injection eo62 with f1_ f2_ f3_;have f4_:=f1_.symm;have f5_:=f3_.symm;clear f1_ f2_ f3_;subst f4_;subst f5_))
            refine norm_ (a':=?_) ?_ ?_
            rotate_left
            ·simp only [putAll,Act.put,zp1,zp2,zp3]
             rfl
            refine one_ (i:=12) (N:=none) #[Y,Y,Y,Y,Y,Y,Y,Y,Y,Y,Y,Y,Y,X] rfl rfl (one_of HT_.out (by kernel_rfl)) (by decide) (fun K hK=>?_)
            have hs63:w61.cell? ⟨gb285,0,none⟩=some (.slice none 0 0):=(blk_cell BK285.out 0).trans rfl
            have hfs63:=blk_frozen BK285.out 0
            have hs64:w61.cell? ⟨gb285,1,none⟩=some (.int .i64 0):=(blk_cell BK285.out 1).trans rfl
            have hfs64:=blk_frozen BK285.out 1
            refine skip_ (w1:=?_) (by rfl) rfl ?_ ?_
            rotate_left
            ·go_simp
             rfl
            refine hK.out _ _ ⟨((cell_far (p:=⟨gb285,_,none⟩) (by first|exact Kd.own_blk (Kd.V_away HO_0.out (fun _ hk=>hk.2.2))|(rw [add_block];exact Kd.own_blk (Kd.V_away HO_0.out (fun _ hk=>hk.2.2)))|(show (Addr.add _ _).block≠_;rw [add_block];exact Kd.own_blk (Kd.V_away HO_0.out (fun _ hk=>hk.2.2)))|(dsimp only;exact Kd.own_blk (Kd.V_away HO_0.out (fun _ hk=>hk.2.2)))) _).trans (((cell_far (p:=⟨gb285,_,none⟩) (by first|exact Kd.own_blk (Kd.V_away HO_0.out (fun _ hk=>hk.2.2))|(rw [add_block];exact Kd.own_blk (Kd.V_away HO_0.out (fun _ hk=>hk.2.2)))|(show (Addr.add _ _).block≠_;rw [add_block];exact Kd.own_blk (Kd.V_away HO_0.out (fun _ hk=>hk.2.2)))|(dsimp only;exact Kd.own_blk (Kd.V_away HO_0.out (fun _ hk=>hk.2.2)))) _).trans (hHeld.1)))),((cell_far (p:=⟨gb285,_,none⟩) (by first|exact Kd.own_blk (Kd.V_away HO_0.out (fun _ hk=>hk.2.2))|(rw [add_block];exact Kd.own_blk (Kd.V_away HO_0.out (fun _ hk=>hk.2.2)))|(show (Addr.add _ _).block≠_;rw [add_block];exact Kd.own_blk (Kd.V_away HO_0.out (fun _ hk=>hk.2.2)))|(dsimp only;exact Kd.own_blk (Kd.V_away HO_0.out (fun _ hk=>hk.2.2)))) _).trans (((cell_far (p:=⟨gb285,_,none⟩) (by first|exact Kd.own_blk (Kd.V_away HO_0.out (fun _ hk=>hk.2.2))|(rw [add_block];exact Kd.own_blk (Kd.V_away HO_0.out (fun _ hk=>hk.2.2)))|(show (Addr.add _ _).block≠_;rw [add_block];exact Kd.own_blk (Kd.V_away HO_0.out (fun _ hk=>hk.2.2)))|(dsimp only;exact Kd.own_blk (Kd.V_away HO_0.out (fun _ hk=>hk.2.2)))) _).trans (hHeld.2.1)))),((cell_far (p:=⟨gb285,_,none⟩) (by first|exact Kd.own_blk (Kd.V_away HO_1.out (fun _ hk=>hk.2.2))|(rw [add_block];exact Kd.own_blk (Kd.V_away HO_1.out (fun _ hk=>hk.2.2)))|(show (Addr.add _ _).block≠_;rw [add_block];exact Kd.own_blk (Kd.V_away HO_1.out (fun _ hk=>hk.2.2)))|(dsimp only;exact Kd.own_blk (Kd.V_away HO_1.out (fun _ hk=>hk.2.2)))) _).trans (((cell_far (p:=⟨gb285,_,none⟩) (by first|exact Kd.own_blk (Kd.V_away HO_1.out (fun _ hk=>hk.2.2))|(rw [add_block];exact Kd.own_blk (Kd.V_away HO_1.out (fun _ hk=>hk.2.2)))|(show (Addr.add _ _).block≠_;rw [add_block];exact Kd.own_blk (Kd.V_away HO_1.out (fun _ hk=>hk.2.2)))|(dsimp only;exact Kd.own_blk (Kd.V_away HO_1.out (fun _ hk=>hk.2.2)))) _).trans (hHeld.2.2.1)))),((cell_far (p:=⟨gb285,_,none⟩) (by first|exact Kd.own_blk (Kd.V_away HO_1.out (fun _ hk=>hk.2.2))|(rw [add_block];exact Kd.own_blk (Kd.V_away HO_1.out (fun _ hk=>hk.2.2)))|(show (Addr.add _ _).block≠_;rw [add_block];exact Kd.own_blk (Kd.V_away HO_1.out (fun _ hk=>hk.2.2)))|(dsimp only;exact Kd.own_blk (Kd.V_away HO_1.out (fun _ hk=>hk.2.2)))) _).trans (((cell_far (p:=⟨gb285,_,none⟩) (by first|exact Kd.own_blk (Kd.V_away HO_1.out (fun _ hk=>hk.2.2))|(rw [add_block];exact Kd.own_blk (Kd.V_away HO_1.out (fun _ hk=>hk.2.2)))|(show (Addr.add _ _).block≠_;rw [add_block];exact Kd.own_blk (Kd.V_away HO_1.out (fun _ hk=>hk.2.2)))|(dsimp only;exact Kd.own_blk (Kd.V_away HO_1.out (fun _ hk=>hk.2.2)))) _).trans (hHeld.2.2.2))))⟩ (fun hHeld=>?_)
            clear hK K
            refine pure_ (i:=13) (N:=some 12) (v:=?_) (a':=?_) #[Y,Y,Y,Y,Y,Y,Y,Y,Y,Y,Y,Y,Y,Y] rfl rfl zan (fun _ _ _ h=>h) (Or.inl ⟨by rfl,?_⟩) ?_ ?_
            rotate_left
            ·intro w'
             go_simp
             with_reducible rfl
            rotate_left
            ·simp only [Act.put,zp1,zp2,zp3,i64_w,i32_w]
             rfl
            refine done_ (done_of HT_.out (by kernel_rfl)) ?_
            try go_wp2
            have n0_:Aside0 (Kd.V k33 33 ((w61.setCell ⟨gb285,0,none⟩ (.slice Ao62 t280.length co62)).setCell ⟨gb285,1,none⟩ (.int .i64 t283)) w.heap.size (fun k_=>((P0_ k_∨P1_ k_)∨w.heap.size≤k_)∧some k_≠(u9:Value).ownBlock∧k_≠gb285) (.slice (some ad257) x0_1.length co54) x0_1):=⟨by (with_reducible repeat (first|apply Kd.V_alloc|apply Kd.V_drewN|apply Kd.V_drew));exact Kd.V_mono (Kd.V_far (p:=⟨gb285,1,none⟩) (Kd.V_far (p:=⟨gb285,0,none⟩) (Kd.V_mono HO_0.out (fun k_ hk=>(⟨hk,hk.2.2⟩:_∧k_≠gb285))) (fun _ hk=>hk.2) (.slice Ao62 t280.length co62)) (fun _ hk=>hk.2) (.int .i64 t283)) (fun _ hk=>⟨hk.1.1,⟨hk.1.2.1,hk.1.2.2⟩⟩)⟩
            have n1_:Aside0 (Kd.V k33 33 ((w61.setCell ⟨gb285,0,none⟩ (.slice Ao62 t280.length co62)).setCell ⟨gb285,1,none⟩ (.int .i64 t283)) w.heap.size (fun k_=>((P0_ k_∨P1_ k_)∨w.heap.size≤k_)∧some k_≠(u9:Value).ownBlock∧k_≠gb285) (.slice (some ad258) x1_1.length co55) x1_1):=⟨by (with_reducible repeat (first|apply Kd.V_alloc|apply Kd.V_drewN|apply Kd.V_drew));exact Kd.V_mono (Kd.V_far (p:=⟨gb285,1,none⟩) (Kd.V_far (p:=⟨gb285,0,none⟩) (Kd.V_mono HO_1.out (fun k_ hk=>(⟨hk,hk.2.2⟩:_∧k_≠gb285))) (fun _ hk=>hk.2) (.slice Ao62 t280.length co62)) (fun _ hk=>hk.2) (.int .i64 t283)) (fun _ hk=>⟨hk.1.1,⟨hk.1.2.1,hk.1.2.2⟩⟩)⟩
            have n2_:Aside0 (Kd.N k33 33 ((w61.setCell ⟨gb285,0,none⟩ (.slice Ao62 t280.length co62)).setCell ⟨gb285,1,none⟩ (.int .i64 t283)) w.heap.size (fun k_=>((P0_ k_∨P1_ k_)∨w.heap.size≤k_)∧k_≠gb285) u9 x9_1):=⟨by (with_reducible repeat (first|apply Kd.N_alloc|apply Kd.N_drewN|apply Kd.N_drew));exact Kd.N_mono (Kd.N_far (p:=⟨gb285,1,none⟩) (Kd.N_far (p:=⟨gb285,0,none⟩) (Kd.N_mono HO_9.out (fun k_ hk=>(⟨hk,hk.2⟩:_∧k_≠gb285))) (fun _ hk=>hk.2) (.slice Ao62 t280.length co62)) (fun _ hk=>hk.2) (.int .i64 t283)) (fun _ hk=>⟨hk.1.1,hk.1.2⟩)⟩
            have n3_:Aside0 (Kd.V (Kd.int .i64) 3 ((w61.setCell ⟨gb285,0,none⟩ (.slice Ao62 t280.length co62)).setCell ⟨gb285,1,none⟩ (.int .i64 t283)) w.heap.size (fun k_=>((P0_ k_∨P1_ k_)∨w.heap.size≤k_)∧some k_≠(u9:Value).ownBlock∧k_≠gb285) (.slice A257_0 ((rd_T33 x0_1 0).f0).length c257_0) ((rd_T33 x0_1 0).f0)):=⟨by (with_reducible repeat (first|apply Kd.V_alloc|apply Kd.V_drewN|apply Kd.V_drew));exact Kd.V_mono (Kd.V_far (p:=⟨gb285,1,none⟩) (Kd.V_far (p:=⟨gb285,0,none⟩) (Kd.V_mono HL257_0.out (fun k_ hk=>(⟨hk,hk.2.2⟩:_∧k_≠gb285))) (fun _ hk=>hk.2) (.slice Ao62 t280.length co62)) (fun _ hk=>hk.2) (.int .i64 t283)) (fun _ hk=>⟨hk.1.1,⟨hk.1.2.1,hk.1.2.2⟩⟩)⟩
            have n4_:Aside0 (Kd.V (Kd.int .i64) 3 ((w61.setCell ⟨gb285,0,none⟩ (.slice Ao62 t280.length co62)).setCell ⟨gb285,1,none⟩ (.int .i64 t283)) w.heap.size (fun k_=>((P0_ k_∨P1_ k_)∨w.heap.size≤k_)∧some k_≠(u9:Value).ownBlock∧k_≠gb285) (.slice A258_0 ((rd_T33 x1_1 0).f0).length c258_0) ((rd_T33 x1_1 0).f0)):=⟨by (with_reducible repeat (first|apply Kd.V_alloc|apply Kd.V_drewN|apply Kd.V_drew));exact Kd.V_mono (Kd.V_far (p:=⟨gb285,1,none⟩) (Kd.V_far (p:=⟨gb285,0,none⟩) (Kd.V_mono HL258_0.out (fun k_ hk=>(⟨hk,hk.2.2⟩:_∧k_≠gb285))) (fun _ hk=>hk.2) (.slice Ao62 t280.length co62)) (fun _ hk=>hk.2) (.int .i64 t283)) (fun _ hk=>⟨hk.1.1,⟨hk.1.2.1,hk.1.2.2⟩⟩)⟩
            have n5_:Aside0 (Kd.V (Kd.int .i64) 3 ((w61.setCell ⟨gb285,0,none⟩ (.slice Ao62 t280.length co62)).setCell ⟨gb285,1,none⟩ (.int .i64 t283)) w.heap.size (fun k_=>((P0_ k_∨P1_ k_)∨w.heap.size≤k_)∧some k_≠(u9:Value).ownBlock∧k_≠gb285) (.slice A278_0 ((rd_T33 x0_1 0).f0).length c278_0) ((rd_T33 x0_1 0).f0)):=⟨by (with_reducible repeat (first|apply Kd.V_alloc|apply Kd.V_drewN|apply Kd.V_drew));exact Kd.V_mono (Kd.V_far (p:=⟨gb285,1,none⟩) (Kd.V_far (p:=⟨gb285,0,none⟩) (Kd.V_mono HL278_0.out (fun k_ hk=>(⟨hk,hk.2.2⟩:_∧k_≠gb285))) (fun _ hk=>hk.2) (.slice Ao62 t280.length co62)) (fun _ hk=>hk.2) (.int .i64 t283)) (fun _ hk=>⟨hk.1.1,⟨hk.1.2.1,hk.1.2.2⟩⟩)⟩
            have n6_:Aside0 (Kd.V (Kd.int .i64) 3 ((w61.setCell ⟨gb285,0,none⟩ (.slice Ao62 t280.length co62)).setCell ⟨gb285,1,none⟩ (.int .i64 t283)) w.heap.size (fun k_=>((P0_ k_∨P1_ k_)∨w.heap.size≤k_)∧some k_≠(u9:Value).ownBlock∧k_≠gb285) (.slice A279_0 ((rd_T33 x1_1 0).f0).length c279_0) ((rd_T33 x1_1 0).f0)):=⟨by (with_reducible repeat (first|apply Kd.V_alloc|apply Kd.V_drewN|apply Kd.V_drew));exact Kd.V_mono (Kd.V_far (p:=⟨gb285,1,none⟩) (Kd.V_far (p:=⟨gb285,0,none⟩) (Kd.V_mono HL279_0.out (fun k_ hk=>(⟨hk,hk.2.2⟩:_∧k_≠gb285))) (fun _ hk=>hk.2) (.slice Ao62 t280.length co62)) (fun _ hk=>hk.2) (.int .i64 t283)) (fun _ hk=>⟨hk.1.1,⟨hk.1.2.1,hk.1.2.2⟩⟩)⟩
            have n7_:Aside0 (Kd.V (Kd.int .i64) 3 ((w61.setCell ⟨gb285,0,none⟩ (.slice Ao62 t280.length co62)).setCell ⟨gb285,1,none⟩ (.int .i64 t283)) w.heap.size (fun k_=>((P0_ k_∨P1_ k_)∨w.heap.size≤k_)∧some k_≠(u9:Value).ownBlock∧k_≠gb285) (.slice Ao62 t280.length co62) t280):=⟨by (with_reducible repeat (first|apply Kd.V_alloc|apply Kd.V_drewN|apply Kd.V_drew));exact Kd.V_mono (Kd.V_far (p:=⟨gb285,1,none⟩) (Kd.V_far (p:=⟨gb285,0,none⟩) (Kd.V_mono HO282.out (fun k_ hk=>(⟨hk,hk.2.2⟩:_∧k_≠gb285))) (fun _ hk=>hk.2) (.slice Ao62 t280.length co62)) (fun _ hk=>hk.2) (.int .i64 t283)) (fun _ hk=>⟨hk.1.1,⟨hk.1.2.1,hk.1.2.2⟩⟩)⟩
            have n8_:Aside0 (((w61.setCell ⟨gb285,0,none⟩ (.slice Ao62 t280.length co62)).setCell ⟨gb285,1,none⟩ (.int .i64 t283)).heap[gb285]?=some (.cells #[.slice Ao62 t280.length co62,.int .i64 t283] 33 (0,0))):=⟨by (with_reducible repeat (first|refine blk_drewN ?_ _|refine blk_drew ?_|refine blk_alloc ?_ _));refine blk_put (cs:=#[.slice Ao62 t280.length co62,.int .i64 0]) ?_ 1 _ rfl;(with_reducible repeat (first|refine blk_drewN ?_ _|refine blk_drew ?_|refine blk_alloc ?_ _));refine blk_put (cs:=#[.slice none 0 0,.int .i64 0]) ?_ 0 _ rfl;(with_reducible repeat (first|refine blk_drewN ?_ _|refine blk_drew ?_|refine blk_alloc ?_ _));exact BK285.out⟩
            have n9_:Aside0 (Below w.heap.size w ((w61.setCell ⟨gb285,0,none⟩ (.slice Ao62 t280.length co62)).setCell ⟨gb285,1,none⟩ (.int .i64 t283))):=⟨by repeat (first|(with_reducible first|exact HB.out|apply below_alloc|apply pw_below_drewN|apply below_drew1|refine below_set ?_ GE285.out)|exact HB.out)⟩
            (try clear HO_0)
            (try clear HO_1)
            (try clear HO_9)
            (try clear HL257_0)
            (try clear HL258_0)
            (try clear HL278_0)
            (try clear HL279_0)
            (try clear HO282)
            (try clear BK285)
            (try clear HB)
            generalize ((w61.setCell ⟨gb285,0,none⟩ (.slice Ao62 t280.length co62)).setCell ⟨gb285,1,none⟩ (.int .i64 t283))=w65 at n0_ n1_ n2_ n3_ n4_ n5_ n6_ n7_ n8_ n9_ ⊢
            have HO_0:=n0_
            have HO_1:=n1_
            have HO_9:=n2_
            have HL257_0:=n3_
            have HL258_0:=n4_
            have HL278_0:=n5_
            have HL279_0:=n6_
            have HO282:=n7_
            have BK285:=n8_
            have HB:=n9_
            clear n0_ n1_ n2_ n3_ n4_ n5_ n6_ n7_ n8_ n9_
            have n0_:=Aside0.mk (Kd.V_drew HO_0.out)
            have n1_:=Aside0.mk (Kd.V_drew HO_1.out)
            have n2_:=Aside0.mk (Kd.N_drew HO_9.out)
            have n3_:=Aside0.mk (Kd.V_drew HL257_0.out)
            have n4_:=Aside0.mk (Kd.V_drew HL258_0.out)
            have n5_:=Aside0.mk (Kd.V_drew HL278_0.out)
            have n6_:=Aside0.mk (Kd.V_drew HL279_0.out)
            have n7_:=Aside0.mk (Kd.V_drew HO282.out)
            have n8_:=Aside0.mk (blk_drew BK285.out)
            have n9_:=Aside0.mk (below_drew1 HB.out)
            clear HO_0
            clear HO_1
            clear HO_9
            clear HL257_0
            clear HL258_0
            clear HL278_0
            clear HL279_0
            clear HO282
            clear BK285
            clear HB
            have HO_0:=n0_
            have HO_1:=n1_
            have HO_9:=n2_
            have HL257_0:=n3_
            have HL258_0:=n4_
            have HL278_0:=n5_
            have HL279_0:=n6_
            have HO282:=n7_
            have BK285:=n8_
            have HB:=n9_
            clear n0_ n1_ n2_ n3_ n4_ n5_ n6_ n7_ n8_ n9_
            have q67:(1:Int)≤((x0_1.length:Int):Int):=zod
            obtain ⟨i067,hi067,_,hsz67,_⟩:=info_parts info33
            have hroom67:x0_1.length≤co54:=(Kd.V_reads' HO_0.out).2.1
            have hC67:Kd.F k33 _ _ (some ad257) x0_1.length x0_1:=(Kd.V_at (base:=w.heap.size) HO_0.out).2.2
            have hcut67:=cut_from (P:=Tryz.prog) 23 33 .i64 Tryz.underlying23 hi067 2 hsz67 (some ad257) x0_1.length co54 1 (by omega) q67
            have hr67:=Kd.F_cut (m:=(1:Int).toNat) (c:=co54) hC67 (by omega) hroom67
            obtain ⟨A67,hA67⟩ : ∃ A1,A1=(if co54=(1:Int).toNat then (some ad257) else ((some ad257):Option Addr).map (·.add ((1:Int).toNat * 2))):=⟨_,rfl⟩
            obtain ⟨c67,hc67⟩ : ∃ c1,c1=co54 - (1:Int).toNat:=⟨_,rfl⟩
            have hy67:y299.length=x0_1.length - (1:Int).toNat:=(by rw [Ny299.out,List.length_drop] <;> omega)
            rw [show (x0_1).drop (1:Int).toNat=y299 from Ny299.out.symm] at hr67
            replace hr67:Kd.F k33 _ _ A67 y299.length y299:=(by rw [hA67];exact hr67)
            rw [← hy67,← hA67,← hc67] at hcut67
            have HO303:=Aside0.mk (show Kd.V k33 33 _ w.heap.size _ (.slice A67 y299.length c67) y299 from Kd.V_mk (by rw [hy67,hc67];exact Nat.sub_le_sub_right hroom67 _) hr67)
            have HC303:=Aside0.mk (show y299.length≤c67 from by rw [hy67,hc67];exact Nat.sub_le_sub_right hroom67 _)
            clear hr67 hC67 hroom67 hi067 hsz67 hc67
            have KY67:=Aside0.mk hy67
            have KA67:=Aside0.mk hA67
            clear hy67 hA67
            replace q67:=eq_true q67
            have q68:(1:Int)≤((x1_1.length:Int):Int):=zod
            obtain ⟨i068,hi068,_,hsz68,_⟩:=info_parts info33
            have hroom68:x1_1.length≤co55:=(Kd.V_reads' HO_1.out).2.1
            have hC68:Kd.F k33 _ _ (some ad258) x1_1.length x1_1:=(Kd.V_at (base:=w.heap.size) HO_1.out).2.2
            have hcut68:=cut_from (P:=Tryz.prog) 23 33 .i64 Tryz.underlying23 hi068 2 hsz68 (some ad258) x1_1.length co55 1 (by omega) q68
            have hr68:=Kd.F_cut (m:=(1:Int).toNat) (c:=co55) hC68 (by omega) hroom68
            obtain ⟨A68,hA68⟩ : ∃ A1,A1=(if co55=(1:Int).toNat then (some ad258) else ((some ad258):Option Addr).map (·.add ((1:Int).toNat * 2))):=⟨_,rfl⟩
            obtain ⟨c68,hc68⟩ : ∃ c1,c1=co55 - (1:Int).toNat:=⟨_,rfl⟩
            have hy68:y304.length=x1_1.length - (1:Int).toNat:=(by rw [Ny304.out,List.length_drop] <;> omega)
            rw [show (x1_1).drop (1:Int).toNat=y304 from Ny304.out.symm] at hr68
            replace hr68:Kd.F k33 _ _ A68 y304.length y304:=(by rw [hA68];exact hr68)
            rw [← hy68,← hA68,← hc68] at hcut68
            have HO308:=Aside0.mk (show Kd.V k33 33 _ w.heap.size _ (.slice A68 y304.length c68) y304 from Kd.V_mk (by rw [hy68,hc68];exact Nat.sub_le_sub_right hroom68 _) hr68)
            have HC308:=Aside0.mk (show y304.length≤c68 from by rw [hy68,hc68];exact Nat.sub_le_sub_right hroom68 _)
            clear hr68 hC68 hroom68 hi068 hsz68 hc68
            have KY68:=Aside0.mk hy68
            have KA68:=Aside0.mk hA68
            clear hy68 hA68
            replace q68:=eq_true q68
            refine start_ (n:=6) (S:=fun w'=>True) (ds:=[]) #[X,X,X,X,X,X] (by kernel_rfl) rfl rfl trivial (fun hHeld=>?_)
            generalize w65.drew=w66 at HO_0 HO_1 HO_9 HL257_0 HL258_0 HL278_0 HL279_0 HO282 BK285 HB HO303 HO308 hHeld ⊢
            refine pure_ (i:=0) (N:=some 45) (v:=?_) (a':=?_) #[Y,X,X,X,X,X] rfl rfl (by kernel_rfl) (fun _ _ _ h=>h) (Or.inl ⟨by rfl,?_⟩) ?_ ?_
            rotate_left
            ·intro w'
             go_simp
             with_reducible rfl
            rotate_left
            ·simp only [Act.put,zp1,zp2,zp3,i64_w,i32_w]
             rfl
            refine pure_ (i:=1) (N:=some 46) (v:=?_) (a':=?_) #[Y,Y,X,X,X,X] rfl rfl (by kernel_rfl) (fun _ _ _ h=>h) (Or.inl ⟨by rfl,?_⟩) ?_ ?_
            rotate_left
            ·intro w'
             go_simp
             with_reducible rfl
            rotate_left
            ·simp only [Act.put,zp1,zp2,zp3,i64_w,i32_w]
             rfl
            refine pure_ (i:=2) (N:=some 47) (v:=?_) (a':=?_) #[Y,Y,Y,X,X,X] rfl rfl (by kernel_rfl) (fun _ _ _ h=>h) (Or.inl ⟨by rfl,?_⟩) ?_ ?_
            rotate_left
            ·intro w'
             go_simp
             with_reducible rfl
            rotate_left
            ·simp only [Act.put,zp1,zp2,zp3,i64_w,i32_w]
             rfl
            refine pure_ (i:=3) (N:=some 48) (v:=?_) (a':=?_) #[Y,Y,Y,Y,X,X] rfl rfl (by kernel_rfl) (fun _ _ _ h=>h) (Or.inl ⟨by rfl,?_⟩) ?_ ?_
            rotate_left
            ·intro w'
             go_simp
             with_reducible rfl
            rotate_left
            ·simp only [Act.put,zp1,zp2,zp3,i64_w,i32_w]
             rfl
            refine pure_ (i:=4) (N:=some 0) (v:=?_) (a':=?_) #[Y,Y,Y,Y,Y,X] rfl rfl (by kernel_rfl) (fun _ _ _ h=>h) (Or.inl ⟨by rfl,?_⟩) ?_ ?_
            rotate_left
            ·intro w'
             go_simp
             with_reducible rfl
            rotate_left
            ·simp only [Act.put,zp1,zp2,zp3,i64_w,i32_w]
             rfl
            refine pure_ (i:=5) (N:=some 1) (v:=?_) (a':=?_) #[Y,Y,Y,Y,Y,Y] rfl rfl (by kernel_rfl) (fun _ _ _ h=>h) (Or.inl ⟨by rfl,?_⟩) ?_ ?_
            rotate_left
            ·intro w'
             go_simp
             with_reducible rfl
            rotate_left
            ·simp only [Act.put,zp1,zp2,zp3,i64_w,i32_w]
             rfl
            refine done_ (by kernel_rfl) ?_
            try go_wp2
            go_roundg k1
            case measure=>have:=HK1.out;omega
            case rel=>exact ⟨(y299),(y304),(x9_1),H',⟨by have:=HK1.out;omega⟩,⟨by (with_reducible repeat (first|apply Kd.V_alloc|apply Kd.V_drewN|apply Kd.V_drew));exact Kd.V_mono HO303.out (fun _ hk=>⟨hk.1,hk.2.1⟩)⟩,⟨by (with_reducible repeat (first|apply Kd.V_alloc|apply Kd.V_drewN|apply Kd.V_drew));exact Kd.V_mono HO308.out (fun _ hk=>⟨hk.1,hk.2.1⟩)⟩,⟨by (with_reducible repeat (first|apply Kd.N_alloc|apply Kd.N_drewN|apply Kd.N_drew));exact Kd.N_mono HO_9.out (fun _ hk=>hk.1)⟩,⟨by repeat (first|(with_reducible first|exact HB.out|apply below_alloc|apply pw_below_drewN|apply below_drew1|refine below_set ?_ GE285.out)|exact HB.out)⟩⟩
           ·rw [if_neg c53] at H
            exact absurd H (by simp)
          ·rw [if_neg c52] at H
           exact absurd H (by simp)
      ·rw [if_neg c8] at H
       exact absurd H (by simp)
     ·rw [if_neg c7] at H
      exact absurd H (by simp)
    ·rw [if_neg c6] at H
     have c6b0:decide (0 < (x1_1.length:Int))=false:=decide_eq_false c6
     have c6b1:decide (0 < x1_1.length)=false:=decide_eq_false (by omega)
     clear c6
     by_cases c69:x9_1.length + x0_1.length < 4398046511104
     ·rw [if_pos c69] at H
      have LMc69:=Aside0.mk c69
      clear c69
      obtain ⟨y309,hy309⟩ : ∃ y_:List (S33),y_=(x9_1 ++ x0_1):=⟨_,rfl⟩
      replace H:(if y309.length + x1_1.length < 4398046511104 then (some (y309 ++ x1_1)) else (none))=some r:=by first|(rw [hy309];with_reducible exact H)|(have H2_:=(Option.bind_some _ _).symm.trans H;rw [hy309];with_reducible exact H2_)|(have H2_:=(Option.bind_some _ _).symm.trans H;with_reducible exact H2_)|with_reducible exact H|(rw [hy309];exact H)|exact H
      have Ny309:=Aside0.mk hy309
      clear hy309
      by_cases c70:y309.length + x1_1.length < 4398046511104
      ·rw [if_pos c70] at H
       have LMc70:=Aside0.mk c70
       clear c70
       obtain ⟨y312,hy312⟩ : ∃ y_:List (S33),y_=(y309 ++ x1_1):=⟨_,rfl⟩
       replace H:(some y312)=some r:=by first|(rw [hy312];with_reducible exact H)|(have H2_:=(Option.bind_some _ _).symm.trans H;rw [hy312];with_reducible exact H2_)|(have H2_:=(Option.bind_some _ _).symm.trans H;with_reducible exact H2_)|with_reducible exact H|(rw [hy312];exact H)|exact H
       have Ny312:=Aside0.mk hy312
       clear hy312
       obtain rfl:=Option.some.inj H
       obtain ⟨Ao71,co71,eo71⟩:=Kd.V_slice HO_0.out
       subst eo71
       obtain ⟨Ao72,co72,eo72⟩:=Kd.V_slice HO_1.out
       subst eo72
       go_wp2_with (first|((with_reducible refine gate_builtin (b:=.append) (xs:=#[.tmp 71,.tmp 72]) rfl ?_);(try (refine gate_guard (by rfl) ?_;dsimp only));at_builtin;refine Kd.N_append_rows k33 (w0:=w) w.heap.size rfl (.tmp 71) (.tmp 72) 23 33 (.agg #[(.slice none 0 0),(.int .i64 0)]) 32 rfl Tryz.underlying23 info33 rfl (by decide) (by omega) u9 x9_1 x0_1 _ _ _ (fun k_=>((P0_ k_∨P1_ k_)∨w.heap.size≤k_)) (fun k_=>((fun k_=>((P0_ k_∨P1_ k_)∨w.heap.size≤k_))) k_∧some k_≠(u9:Value).ownBlock) rfl rfl ?aO ?aR (fun _ hk=>hk) ?aF ?aB ?aS ?aL ?_;(case aR=>exact (by skip;exact Kd.V_F (Kd.V_mono (ok':=(fun k_=>((fun k_=>((P0_ k_∨P1_ k_)∨w.heap.size≤k_))) k_∧some k_≠(u9:Value).ownBlock)) (HO_0.out) (fun k_ hk=>⟨hk.1,hk.2⟩))));(case aB=>exact zhb);(case aF=>exact (fun k_ hk=>(.inr (Nat.le_trans (below_size zhb) hk))));(case aO=>exact (zN HO_9.out));(case aS=>exact (below_size zhb));(case aL=>have:=LMc69.out;omega);intro v310 w73 ho hb hg hat;rw [← Ny309.out] at ho;have n0_:=Aside0.mk (Kd.V_afterv (ok:=(fun k_=>((P0_ k_∨P1_ k_)∨w.heap.size≤k_))) (zV HO_0.out) hg hat);have n1_:=Aside0.mk (Kd.V_afterv (ok:=(fun k_=>((P0_ k_∨P1_ k_)∨w.heap.size≤k_))) (zV HO_1.out) hg hat);have n2_:=Aside0.mk (hb);have n3_:=Aside0.mk (ho);clear HO_0;clear HO_1;clear HB;clear HO_9;have HO_0:=n0_;have HO_1:=n1_;have HB:=n2_;have HO311:=n3_;clear n0_ n1_ n2_ n3_;clear ho hb hg hat)|((with_reducible refine gate_builtin (b:=.append) (xs:=#[.tmp 73,.tmp 74]) rfl ?_);(try (refine gate_guard (by rfl) ?_;dsimp only));at_builtin;refine Kd.N_append_rows k33 (w0:=w) w.heap.size rfl (.tmp 73) (.tmp 74) 23 33 (.agg #[(.slice none 0 0),(.int .i64 0)]) 32 rfl Tryz.underlying23 info33 rfl (by decide) (by omega) v310 y309 x1_1 _ _ _ (fun k_=>((P0_ k_∨P1_ k_)∨w.heap.size≤k_)) (fun k_=>((fun k_=>((P0_ k_∨P1_ k_)∨w.heap.size≤k_))) k_∧some k_≠(v310:Value).ownBlock) rfl rfl ?aO ?aR (fun _ hk=>hk) ?aF ?aB ?aS ?aL ?_;(case aR=>exact (by skip;exact Kd.V_F (Kd.V_mono (ok':=(fun k_=>((fun k_=>((P0_ k_∨P1_ k_)∨w.heap.size≤k_))) k_∧some k_≠(v310:Value).ownBlock)) (HO_1.out) (fun k_ hk=>⟨hk.1,hk.2⟩))));(case aB=>exact zhb);(case aF=>exact (fun k_ hk=>(.inr (Nat.le_trans (below_size zhb) hk))));(case aO=>exact (zN HO311.out));(case aS=>exact (below_size zhb));(case aL=>have:=LMc70.out;omega);intro v313 w74 ho hb hg hat;rw [← Ny312.out] at ho;have n0_:=Aside0.mk (Kd.V_afterv (ok:=(fun k_=>((P0_ k_∨P1_ k_)∨w.heap.size≤k_))) (zV HO_0.out) hg hat);have n1_:=Aside0.mk (Kd.V_afterv (ok:=(fun k_=>((P0_ k_∨P1_ k_)∨w.heap.size≤k_))) (zV HO_1.out) hg hat);have n2_:=Aside0.mk (hb);have n3_:=Aside0.mk (ho);clear HO_0;clear HO_1;clear HB;clear HO311;have HO_0:=n0_;have HO_1:=n1_;have HB:=n2_;have HO314:=n3_;clear n0_ n1_ n2_ n3_;clear ho hb hg hat))
       go_ret
       exact ⟨_,by first|rfl|(simp [errW_none,errW_some] <;> rfl)|(simp [*,errW_none,errW_some] <;> rfl),by (with_reducible repeat (first|apply Kd.N_alloc|apply Kd.N_drewN|apply Kd.N_drew));exact HO314.out,zhb⟩
      ·rw [if_neg c70] at H
       exact absurd H (by simp)
     ·rw [if_neg c69] at H
      exact absurd H (by simp)
   ·rw [if_neg c5] at H
    have c5b0:decide (0 < (x0_1.length:Int))=false:=decide_eq_false c5
    have c5b1:decide (0 < x0_1.length)=false:=decide_eq_false (by omega)
    clear c5
    by_cases c75:x9_1.length + x0_1.length < 4398046511104
    ·rw [if_pos c75] at H
     have LMc75:=Aside0.mk c75
     clear c75
     obtain ⟨y315,hy315⟩ : ∃ y_:List (S33),y_=(x9_1 ++ x0_1):=⟨_,rfl⟩
     replace H:(if y315.length + x1_1.length < 4398046511104 then (some (y315 ++ x1_1)) else (none))=some r:=by first|(rw [hy315];with_reducible exact H)|(have H2_:=(Option.bind_some _ _).symm.trans H;rw [hy315];with_reducible exact H2_)|(have H2_:=(Option.bind_some _ _).symm.trans H;with_reducible exact H2_)|with_reducible exact H|(rw [hy315];exact H)|exact H
     have Ny315:=Aside0.mk hy315
     clear hy315
     by_cases c76:y315.length + x1_1.length < 4398046511104
     ·rw [if_pos c76] at H
      have LMc76:=Aside0.mk c76
      clear c76
      obtain ⟨y318,hy318⟩ : ∃ y_:List (S33),y_=(y315 ++ x1_1):=⟨_,rfl⟩
      replace H:(some y318)=some r:=by first|(rw [hy318];with_reducible exact H)|(have H2_:=(Option.bind_some _ _).symm.trans H;rw [hy318];with_reducible exact H2_)|(have H2_:=(Option.bind_some _ _).symm.trans H;with_reducible exact H2_)|with_reducible exact H|(rw [hy318];exact H)|exact H
      have Ny318:=Aside0.mk hy318
      clear hy318
      obtain rfl:=Option.some.inj H
      obtain ⟨Ao77,co77,eo77⟩:=Kd.V_slice HO_0.out
      subst eo77
      go_wp2_with (first|((with_reducible refine gate_builtin (b:=.append) (xs:=#[.tmp 71,.tmp 72]) rfl ?_);(try (refine gate_guard (by rfl) ?_;dsimp only));at_builtin;refine Kd.N_append_rows k33 (w0:=w) w.heap.size rfl (.tmp 71) (.tmp 72) 23 33 (.agg #[(.slice none 0 0),(.int .i64 0)]) 32 rfl Tryz.underlying23 info33 rfl (by decide) (by omega) u9 x9_1 x0_1 _ _ _ (fun k_=>((P0_ k_∨P1_ k_)∨w.heap.size≤k_)) (fun k_=>((fun k_=>((P0_ k_∨P1_ k_)∨w.heap.size≤k_))) k_∧some k_≠(u9:Value).ownBlock) rfl rfl ?aO ?aR (fun _ hk=>hk) ?aF ?aB ?aS ?aL ?_;(case aR=>exact (by skip;exact Kd.V_F (Kd.V_mono (ok':=(fun k_=>((fun k_=>((P0_ k_∨P1_ k_)∨w.heap.size≤k_))) k_∧some k_≠(u9:Value).ownBlock)) (HO_0.out) (fun k_ hk=>⟨hk.1,hk.2⟩))));(case aB=>exact zhb);(case aF=>exact (fun k_ hk=>(.inr (Nat.le_trans (below_size zhb) hk))));(case aO=>exact (zN HO_9.out));(case aS=>exact (below_size zhb));(case aL=>have:=LMc75.out;omega);intro v316 w78 ho hb hg hat;rw [← Ny315.out] at ho;have n0_:=Aside0.mk (Kd.V_afterv (ok:=(fun k_=>((P0_ k_∨P1_ k_)∨w.heap.size≤k_))) (zV HO_0.out) hg hat);have n1_:=Aside0.mk (Kd.V_afterv (ok:=(fun k_=>((P0_ k_∨P1_ k_)∨w.heap.size≤k_))) (zV HO_1.out) hg hat);have n2_:=Aside0.mk (hb);have n3_:=Aside0.mk (ho);clear HO_0;clear HO_1;clear HB;clear HO_9;have HO_0:=n0_;have HO_1:=n1_;have HB:=n2_;have HO317:=n3_;clear n0_ n1_ n2_ n3_;clear ho hb hg hat;obtain ⟨Ao80,co80,eo80⟩:=Kd.V_slice HO_1.out;subst eo80)|((with_reducible refine gate_builtin (b:=.append) (xs:=#[.tmp 73,.tmp 74]) rfl ?_);(try (refine gate_guard (by rfl) ?_;dsimp only));at_builtin;refine Kd.N_append_rows k33 (w0:=w) w.heap.size rfl (.tmp 73) (.tmp 74) 23 33 (.agg #[(.slice none 0 0),(.int .i64 0)]) 32 rfl Tryz.underlying23 info33 rfl (by decide) (by omega) v316 y315 x1_1 _ _ _ (fun k_=>((P0_ k_∨P1_ k_)∨w.heap.size≤k_)) (fun k_=>((fun k_=>((P0_ k_∨P1_ k_)∨w.heap.size≤k_))) k_∧some k_≠(v316:Value).ownBlock) rfl rfl ?aO ?aR (fun _ hk=>hk) ?aF ?aB ?aS ?aL ?_;(case aR=>exact (by skip;exact Kd.V_F (Kd.V_mono (ok':=(fun k_=>((fun k_=>((P0_ k_∨P1_ k_)∨w.heap.size≤k_))) k_∧some k_≠(v316:Value).ownBlock)) (HO_1.out) (fun k_ hk=>⟨hk.1,hk.2⟩))));(case aB=>exact zhb);(case aF=>exact (fun k_ hk=>(.inr (Nat.le_trans (below_size zhb) hk))));(case aO=>exact (zN HO317.out));(case aS=>exact (below_size zhb));(case aL=>have:=LMc76.out;omega);intro v319 w79 ho hb hg hat;rw [← Ny318.out] at ho;have n0_:=Aside0.mk (Kd.V_afterv (ok:=(fun k_=>((P0_ k_∨P1_ k_)∨w.heap.size≤k_))) (zV HO_0.out) hg hat);have n1_:=Aside0.mk (Kd.V_afterv (ok:=(fun k_=>((P0_ k_∨P1_ k_)∨w.heap.size≤k_))) (zV HO_1.out) hg hat);have n2_:=Aside0.mk (hb);have n3_:=Aside0.mk (ho);clear HO_0;clear HO_1;clear HB;clear HO317;have HO_0:=n0_;have HO_1:=n1_;have HB:=n2_;have HO320:=n3_;clear n0_ n1_ n2_ n3_;clear ho hb hg hat))
      go_ret
      exact ⟨_,by first|rfl|(simp [errW_none,errW_some] <;> rfl)|(simp [*,errW_none,errW_some] <;> rfl),by (with_reducible repeat (first|apply Kd.N_alloc|apply Kd.N_drewN|apply Kd.N_drew));exact HO320.out,zhb⟩
     ·rw [if_neg c76] at H
      exact absurd H (by simp)
    ·rw [if_neg c75] at H
     exact absurd H (by simp)

end Go.Proofs.YtgcplipimcbhlaaGreatDoor.PFnZRead
