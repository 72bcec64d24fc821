-- Written by wip/tools/pp.py, a program of this session over the kit's printer: not the kit's own print
import Derived.Test.YtaifnkapbffmaaaPFnZx0
import Derived.Test.YtaifnkapbffmaaaPFnZx8
namespace Go.Proofs.Ytaifnkapbffmaaa.PFnZ
open Go.RowKit Go.Proofs.YtaifnkapbffmaaaW.PrintWords Go.Proofs.YtaifnkapbffmaaaW.PrintLast Go.Proofs.YtaifnkapbffmaaaW.PrintMore
attribute [local go_sem] max2_int min2_int max_two min_two max_three min_three max_four min_four   -- for this text's walks alone
set_option linter.unusedVariables false
set_option linter.unusedSimpArgs false

/-! ### impl_merged_impl_Item__impl_cmpItem_impl_together_1: function 108 -/
def impl_merged_impl_Item__impl_cmpItem_impl_together_1.l0:Nat→List (S54)→List (S54)→List (S54)→Option ((List (S54)))
 | 0,_,_,_=>none
 | k + 1,x0,x1,x9=>if (x0.length:Int) > 0 then (if (x1.length:Int) > 0 then (if 0 < (x0.length:Int) then (if 0 < (x1.length:Int) then ((impl_cmpItem.f k ((rd_T54 x0 0).f0) ((rd_T54 x0 0).f1) ((rd_T54 x1 0).f0) ((rd_T54 x1 0).f1)).bind fun t196=>(if t196 < 0 then (if x9.length < 4398046511104 then (if 1≤(x0.length:Int) then (impl_merged_impl_Item__impl_cmpItem_impl_together_1.l0 k (x0.drop 1) x1 (x9 ++ [(⟨(rd_T54 x0 0).f0,(rd_T54 x0 0).f1⟩:S54)])) else (none)) else (none)) else (if t196 > 0 then (if x9.length < 4398046511104 then (if 1≤(x1.length:Int) then (impl_merged_impl_Item__impl_cmpItem_impl_together_1.l0 k x0 (x1.drop 1) (x9 ++ [(⟨(rd_T54 x1 0).f0,(rd_T54 x1 0).f1⟩:S54)])) else (none)) else (none)) else ((impl_together_1.f ((rd_T54 x0 0).f0) ((rd_T54 x0 0).f1) ((rd_T54 x1 0).f0) ((rd_T54 x1 0).f1)).bind fun bt217=>(if bt217.2.2=true then (if x9.length < 4398046511104 then (if 1≤(x0.length:Int) then (if 1≤(x1.length:Int) then (impl_merged_impl_Item__impl_cmpItem_impl_together_1.l0 k (x0.drop 1) (x1.drop 1) (x9 ++ [(⟨bt217.1,bt217.2.1⟩:S54)])) else (none)) else (none)) else (none)) else (if 1≤(x0.length:Int) then (if 1≤(x1.length:Int) then (impl_merged_impl_Item__impl_cmpItem_impl_together_1.l0 k (x0.drop 1) (x1.drop 1) x9) else (none)) else (none))))))) else (none)) else (none)) else (if x9.length + x0.length < 4398046511104 then ((some (x9 ++ x0:List (S54))).bind fun y246=>(if y246.length + x1.length < 4398046511104 then (some (y246 ++ x1)) else (none))) else (none))) else (if x9.length + x0.length < 4398046511104 then ((some (x9 ++ x0:List (S54))).bind fun y252=>(if y252.length + x1.length < 4398046511104 then (some (y252 ++ x1)) else (none))) else (none))
def impl_merged_impl_Item__impl_cmpItem_impl_together_1.f (k:Nat) (l0:List (S54)) (l1:List (S54))  :Option ((List (S54))):=impl_merged_impl_Item__impl_cmpItem_impl_together_1.l0 k l0 l1 ([]:List (S54))
theorem impl_merged_impl_Item__impl_cmpItem_impl_together_1.mono_l : ∀ k,(∀ y0 y1 y2,LeO (impl_merged_impl_Item__impl_cmpItem_impl_together_1.l0 k y0 y1 y2) (impl_merged_impl_Item__impl_cmpItem_impl_together_1.l0 (k + 1) y0 y1 y2))
 | 0=>fun _ _ _ r h=>by simp [impl_merged_impl_Item__impl_cmpItem_impl_together_1.l0] at h
 | k + 1=>by
  have ih0:=impl_merged_impl_Item__impl_cmpItem_impl_together_1.mono_l k
  ·intro y0 y1 y2
   unfold impl_merged_impl_Item__impl_cmpItem_impl_together_1.l0
   repeat' first
   | (with_reducible exact ih0 _ _ _)
   | (with_reducible exact impl_cmpItem.mono _ _ _ _ _)
   | (with_reducible exact LeO.refl _)
   | (with_reducible exact LeO.none _)
   | (with_reducible refine LeO.ite ?_ ?_)
   | (with_reducible refine LeO.bind ?_ (fun _=>?_))
   | exact LeO.none _
   | refine LeO.ite ?_ ?_
   | refine LeO.bind ?_ (fun _=>?_)
theorem impl_merged_impl_Item__impl_cmpItem_impl_together_1.mono : ∀ a0 a1 k,LeO (impl_merged_impl_Item__impl_cmpItem_impl_together_1.f k a0 a1) (impl_merged_impl_Item__impl_cmpItem_impl_together_1.f (k + 1) a0 a1):=by
 intro a0 a1 k
 have ih0:=impl_merged_impl_Item__impl_cmpItem_impl_together_1.mono_l k
 unfold impl_merged_impl_Item__impl_cmpItem_impl_together_1.f
 repeat' first
   | (with_reducible exact ih0 _ _ _)
   | (with_reducible exact impl_cmpItem.mono _ _ _ _ _)
   | (with_reducible exact LeO.refl _)
   | (with_reducible exact LeO.none _)
   | (with_reducible refine LeO.ite ?_ ?_)
   | (with_reducible refine LeO.bind ?_ (fun _=>?_))
   | exact LeO.none _
   | refine LeO.ite ?_ ?_
   | refine LeO.bind ?_ (fun _=>?_)
def impl_merged_impl_Item__impl_cmpItem_impl_together_1.T3:Bool × List (List Nat × List Nat):=(true,[([],[]),([],[]),([1],[1]),([2],[2]),([],[]),([4],[4]),([5],[5]),([0,3,6],[0,3,6]),([7,7,0,1,2,3,4,5,6,7],[7])])
def impl_merged_impl_Item__impl_cmpItem_impl_together_1.B3:List Nat:=[0,0,2,6,0,16,48,127,255]
theorem impl_merged_impl_Item__impl_cmpItem_impl_together_1.tab3:rtab .any (opsOf Try.f108 3)=impl_merged_impl_Item__impl_cmpItem_impl_together_1.T3:=by kernel_rfl
theorem impl_merged_impl_Item__impl_cmpItem_impl_together_1.bits3:waitsOk impl_merged_impl_Item__impl_cmpItem_impl_together_1.T3.2 impl_merged_impl_Item__impl_cmpItem_impl_together_1.B3=true:=by kernel_rfl
def impl_merged_impl_Item__impl_cmpItem_impl_together_1.T4:Bool × List (List Nat × List Nat):=(true,[([],[]),([],[]),([1],[1]),([2],[2]),([],[]),([4],[4]),([5],[5]),([0,3,6],[0,3,6]),([7],[7]),([8],[8]),([8],[8]),([],[]),([11,9,7,0,1,2,3,4,5,6,7,8,9,11],[9,11]),([10,12,0,1,2,3,4,5,6,7,8,9,10,11,12],[10])])
def impl_merged_impl_Item__impl_cmpItem_impl_together_1.B4:List Nat:=[0,0,2,6,0,16,48,127,255,511,511,0,3071,8191]
theorem impl_merged_impl_Item__impl_cmpItem_impl_together_1.tab4:rtab .any (opsOf Try.f108 4)=impl_merged_impl_Item__impl_cmpItem_impl_together_1.T4:=by kernel_rfl
theorem impl_merged_impl_Item__impl_cmpItem_impl_together_1.bits4:waitsOk impl_merged_impl_Item__impl_cmpItem_impl_together_1.T4.2 impl_merged_impl_Item__impl_cmpItem_impl_together_1.B4=true:=by kernel_rfl
def impl_merged_impl_Item__impl_cmpItem_impl_together_1.T9:Bool × List (List Nat × List Nat):=(true,[([],[]),([],[]),([1],[1]),([2],[2]),([3],[3]),([0,4],[0,4]),([],[]),([6],[6]),([5,5,0,1,2,3,4,5],[0,5]),([7,8,0,1,2,3,4,5,6,7,8],[1,6,7])])
def impl_merged_impl_Item__impl_cmpItem_impl_together_1.B9:List Nat:=[0,0,2,6,14,31,0,64,63,511]
theorem impl_merged_impl_Item__impl_cmpItem_impl_together_1.tab9:rtab .any (opsOf Try.f108 9)=impl_merged_impl_Item__impl_cmpItem_impl_together_1.T9:=by kernel_rfl
theorem impl_merged_impl_Item__impl_cmpItem_impl_together_1.bits9:waitsOk impl_merged_impl_Item__impl_cmpItem_impl_together_1.T9.2 impl_merged_impl_Item__impl_cmpItem_impl_together_1.B9=true:=by kernel_rfl
def impl_merged_impl_Item__impl_cmpItem_impl_together_1.T11:Bool × List (List Nat × List Nat):=(true,[([],[]),([],[]),([1],[1]),([2],[2]),([3],[3]),([0,4],[0,4]),([],[]),([6],[6]),([5,5,0,1,2,3,4,5],[0,5]),([7,8,0,1,2,3,4,5,6,7,8],[1,6,7])])
def impl_merged_impl_Item__impl_cmpItem_impl_together_1.B11:List Nat:=[0,0,2,6,14,31,0,64,63,511]
theorem impl_merged_impl_Item__impl_cmpItem_impl_together_1.tab11:rtab .any (opsOf Try.f108 11)=impl_merged_impl_Item__impl_cmpItem_impl_together_1.T11:=by kernel_rfl
theorem impl_merged_impl_Item__impl_cmpItem_impl_together_1.bits11:waitsOk impl_merged_impl_Item__impl_cmpItem_impl_together_1.T11.2 impl_merged_impl_Item__impl_cmpItem_impl_together_1.B11=true:=by kernel_rfl
set_option maxHeartbeats 8000000 in
set_option maxRecDepth 100000 in
theorem impl_merged_impl_Item__impl_cmpItem_impl_together_1.calls (k:Nat) (P0_:Nat→Prop) (A0:Option Addr) (c0:Nat) (l0:List (S54)) (P1_:Nat→Prop) (A1:Option Addr) (c1:Nat) (l1:List (S54))   (r:List (S54)) (w:World) (hs0:Kd.V k54 54 w w.heap.size (fun k_=>P0_ k_) (.slice A0 l0.length c0) l0) (hs1:Kd.V k54 54 w w.heap.size (fun k_=>P1_ k_) (.slice A1 l1.length c1) l1) (h:impl_merged_impl_Item__impl_cmpItem_impl_together_1.f k l0 l1=some r) :
  Calls Try.prog 108 #[.slice A0 l0.length c0,.slice A1 l1.length c1,.func (.func 109) #[] #[],.func (.func 110) #[] #[]] w fun e w'=>∃ v0_:Value,e=.returned (v0_)∧Kd.N k54 54 w' w.heap.size (fun k_=>((P0_ k_∨P1_ k_)∨w.heap.size≤k_)) v0_ r∧Below w.heap.size w w':=by
 have hu54:=Try.underlying54
 have HO0:=Aside0.mk (show Kd.V k54 54 w w.heap.size (fun k_=>((P0_ k_∨P1_ k_)∨w.heap.size≤k_)) (.slice A0 l0.length c0) l0 from Kd.V_mono hs0 (fun k_ hk=>.inl (.inl hk)))
 have HO1:=Aside0.mk (show Kd.V k54 54 w w.heap.size (fun k_=>((P0_ k_∨P1_ k_)∨w.heap.size≤k_)) (.slice A1 l1.length c1) l1 from Kd.V_mono hs1 (fun k_ hk=>.inl (.inr hk)))
 have HB:=Aside0.mk (Below.refl w.heap.size w)
 have H:(impl_merged_impl_Item__impl_cmpItem_impl_together_1.l0 k l0 l1 ([]:List (S54)))=some r:=h
 clear h
 have H':=Aside0.mk H
 clear H
 go_enter Try.func108,Try.ntmps108
 go_wp2
 go_loopg [0,1,9] k (fun kq v0 v1 v9 w'=>∃ (x0_1:List (S54)) (x1_1:List (S54)) (x9_1:List (S54)),Aside0 (impl_merged_impl_Item__impl_cmpItem_impl_together_1.l0 kq x0_1 x1_1 x9_1=some r)∧Aside0 (kq≤k)∧Aside0 (Kd.V k54 54 w' w.heap.size (fun k_=>((P0_ k_∨P1_ k_)∨w.heap.size≤k_)∧some k_≠(v9:Value).ownBlock) v0 x0_1)∧Aside0 (Kd.V k54 54 w' w.heap.size (fun k_=>((P0_ k_∨P1_ k_)∨w.heap.size≤k_)∧some k_≠(v9:Value).ownBlock) v1 x1_1)∧Aside0 (Kd.N k54 54 w' w.heap.size (fun k_=>((P0_ k_∨P1_ k_)∨w.heap.size≤k_)) v9 x9_1)∧Aside0 (Below w.heap.size w w'))
 case atStart=>exact ⟨(l0),(l1),(([]:List (S54))),H',⟨Nat.le_refl _⟩,⟨by (with_reducible repeat (first|apply Kd.V_alloc|apply Kd.V_drewN|apply Kd.V_drew));exact Kd.V_mono HO0.out (fun _ hk=>⟨hk,(by simp [Value.ownBlock])⟩)⟩,⟨by (with_reducible repeat (first|apply Kd.V_alloc|apply Kd.V_drewN|apply Kd.V_drew));exact Kd.V_mono HO1.out (fun _ hk=>⟨hk,(by simp [Value.ownBlock])⟩)⟩,⟨by first|exact Kd.S_nil _ _ _ _ _|exact Kd.N_nil _ _ _ _ _|exact Kd.V_nil _ _ _ _ _|exact Kd.Q_nil _ _ _ _ _|exact Kd.R_nil _ _ _ _ _⟩,⟨zhb⟩⟩
 case round =>
  clear H'
  try clear c1
  try clear p2
  obtain ⟨x0_1,x1_1,x9_1,HA,HK1,HO_0,HO_1,HO_9,HB⟩:=hrel
  cases gk with
  | zero=>exact absurd HA.out (by simp [impl_merged_impl_Item__impl_cmpItem_impl_together_1.l0])
  | succ k1 =>
   have H:=HA.out
   clear HA
   simp only [impl_merged_impl_Item__impl_cmpItem_impl_together_1.l0] at H
   by_cases c5:(x0_1.length:Int) > 0
   ·rw [if_pos c5] at H
    have c5b0:decide (0 < (x0_1.length:Int))=true:=decide_eq_true c5
    have c5b1:decide (0 < x0_1.length)=true:=decide_eq_true (by omega)
    clear c5
    by_cases c6:(x1_1.length:Int) > 0
    ·rw [if_pos c6] at H
     have c6b0:decide (0 < (x1_1.length:Int))=true:=decide_eq_true c6
     have c6b1:decide (0 < x1_1.length)=true:=decide_eq_true (by omega)
     clear c6
     by_cases c7:0 < (x0_1.length:Int)
     ·rw [if_pos c7] at H
      have c7b0:decide (0 < (x0_1.length:Int))=true:=decide_eq_true c7
      have c7b1:decide (0 < x0_1.length)=true:=decide_eq_true (by omega)
      clear c7
      by_cases c8:0 < (x1_1.length:Int)
      ·rw [if_pos c8] at H
       have c8b0:decide (0 < (x1_1.length:Int))=true:=decide_eq_true c8
       have c8b1:decide (0 < x1_1.length)=true:=decide_eq_true (by omega)
       clear c8
       replace H:=Option.bind_eq_some_iff.mp H
       obtain ⟨t196,A90,H⟩:=H
       (try dsimp only at H)
       have A9:=Aside0.mk A90
       clear A90
       by_cases c10:t196 < 0
       ·rw [if_pos c10] at H
        have c10b0:decide (t196 < 0)=true:=decide_eq_true c10
        clear c10
        by_cases c11:x9_1.length < 4398046511104
        ·rw [if_pos c11] at H
         have LMc11:=Aside0.mk c11
         clear c11
         obtain ⟨y198,hy198⟩ : ∃ y_:List (S54),y_=(x9_1 ++ [(⟨(rd_T54 x0_1 0).f0,(rd_T54 x0_1 0).f1⟩:S54)]):=⟨_,rfl⟩
         replace H:(if 1≤(x0_1.length:Int) then (impl_merged_impl_Item__impl_cmpItem_impl_together_1.l0 k1 (x0_1.drop 1) x1_1 y198) else (none))=some r:=by first|(rw [hy198];with_reducible exact H)|(have H2_:=(Option.bind_some _ _).symm.trans H;rw [hy198];with_reducible exact H2_)|(have H2_:=(Option.bind_some _ _).symm.trans H;with_reducible exact H2_)|with_reducible exact H|(rw [hy198];exact H)|exact H
         have Ny198:=Aside0.mk hy198
         clear hy198
         by_cases c12:1≤(x0_1.length:Int)
         ·rw [if_pos c12] at H
          have c12b0:=eq_true c12
          have c12b1:decide (1≤(x0_1.length:Int))=true:=decide_eq_true c12
          clear c12
          obtain ⟨y201,hy201⟩ : ∃ y_:List (S54),y_=(x0_1.drop 1):=⟨_,rfl⟩
          replace H:(impl_merged_impl_Item__impl_cmpItem_impl_together_1.l0 k1 y201 x1_1 y198)=some r:=by first|(rw [hy201];with_reducible exact H)|(have H2_:=(Option.bind_some _ _).symm.trans H;rw [hy201];with_reducible exact H2_)|(have H2_:=(Option.bind_some _ _).symm.trans H;with_reducible exact H2_)|with_reducible exact H|(rw [hy201];exact H)|exact H
          have Ny201:=Aside0.mk hy201
          clear hy201
          have H':=Aside0.mk H
          clear H
          obtain ⟨Ao13,co13,eo13⟩:=Kd.V_slice HO_0.out
          subst eo13
          obtain ⟨Ao14,co14,eo14⟩:=Kd.V_slice HO_1.out
          subst eo14
          try go_wp2
          have n0_:=Aside0.mk (Kd.V_drew HO_0.out)
          have n1_:=Aside0.mk (Kd.V_drew HO_1.out)
          have n2_:=Aside0.mk (Kd.N_drew HO_9.out)
          have n3_:=Aside0.mk (below_drew1 HB.out)
          clear HO_0
          clear HO_1
          clear HO_9
          clear HB
          have HO_0:=n0_
          have HO_1:=n1_
          have HO_9:=n2_
          have HB:=n3_
          clear n0_ n1_ n2_ n3_
          have p194:0≤(0:Int):=(by omega)
          have q194:0 < (x0_1.length:Int):=zod
          obtain ⟨ad194,A194_0,c194_0,e194,hx194_0,hx194_1,hl194_0,hi194_0⟩:=at_T54 (Kd.V_reads' HO_0.out).2.2 0 p194 q194
          cases e194
          obtain ⟨ce194,hce194,hMe194,hcc194⟩:=Kd.V_get HO_0.out z54 0 p194 (by first|exact q194|exact zod|(have e_:=(Kd.V_reads' HO_0.out).1;omega))
          obtain ⟨ua194_0,uc194_0,rfl,ul194_0,ge194_0⟩:=k54_openF hMe194
          have hv194_0:=hcc194 0 _ rfl
          rw [Nat.add_zero] at hv194_0
          replace hv194_0:=Option.some.inj (hv194_0.symm.trans hx194_0)
          injection hv194_0 with hva_ hvn_ hvc_
          rw [hva_] at ge194_0
          rw [hvc_] at ul194_0
          have HL194_0:=Aside0.mk (show Kd.V (Kd.int .i64) 3 _ w.heap.size _ _ ((rd_T54 x0_1 0).f0) from Kd.V_mk ul194_0 ge194_0)
          clear hva_ hvn_ hvc_ ge194_0 ul194_0
          clear hcc194 hce194
          have qi194:(0 < x0_1.length)=True:=eq_true (by omega)
          (try rw [show ((0:Int)).toNat=0 from rfl] at hx194_0)
          (try rw [show 0 * 2=0 from rfl] at hx194_0)
          (try rw [Addr.add_zero'] at hx194_0)
          (try rw [show ((0:Int)).toNat=0 from rfl] at hx194_1)
          (try rw [show 0 * 2=0 from rfl] at hx194_1)
          (try rw [Addr.add_zero'] at hx194_1)
          have HR194_0:=Aside0.mk hi194_0
          have HC194_0:=Aside0.mk hl194_0
          clear hi194_0 hl194_0
          replace p194:=eq_true p194
          replace q194:=eq_true q194
          have p195:0≤(0:Int):=(by omega)
          have q195:0 < (x1_1.length:Int):=zod
          obtain ⟨ad195,A195_0,c195_0,e195,hx195_0,hx195_1,hl195_0,hi195_0⟩:=at_T54 (Kd.V_reads' HO_1.out).2.2 0 p195 q195
          cases e195
          obtain ⟨ce195,hce195,hMe195,hcc195⟩:=Kd.V_get HO_1.out z54 0 p195 (by first|exact q195|exact zod|(have e_:=(Kd.V_reads' HO_1.out).1;omega))
          obtain ⟨ua195_0,uc195_0,rfl,ul195_0,ge195_0⟩:=k54_openF hMe195
          have hv195_0:=hcc195 0 _ rfl
          rw [Nat.add_zero] at hv195_0
          replace hv195_0:=Option.some.inj (hv195_0.symm.trans hx195_0)
          injection hv195_0 with hva_ hvn_ hvc_
          rw [hva_] at ge195_0
          rw [hvc_] at ul195_0
          have HL195_0:=Aside0.mk (show Kd.V (Kd.int .i64) 3 _ w.heap.size _ _ ((rd_T54 x1_1 0).f0) from Kd.V_mk ul195_0 ge195_0)
          clear hva_ hvn_ hvc_ ge195_0 ul195_0
          clear hcc195 hce195
          have qi195:(0 < x1_1.length)=True:=eq_true (by omega)
          (try rw [show ((0:Int)).toNat=0 from rfl] at hx195_0)
          (try rw [show 0 * 2=0 from rfl] at hx195_0)
          (try rw [Addr.add_zero'] at hx195_0)
          (try rw [show ((0:Int)).toNat=0 from rfl] at hx195_1)
          (try rw [show 0 * 2=0 from rfl] at hx195_1)
          (try rw [Addr.add_zero'] at hx195_1)
          have HR195_0:=Aside0.mk hi195_0
          have HC195_0:=Aside0.mk hl195_0
          clear hi195_0 hl195_0
          replace p195:=eq_true p195
          replace q195:=eq_true q195
          refine start_ (n:=9) (S:=fun w'=>w'.cell? ad194=some (.slice A194_0 ((rd_T54 x0_1 0).f0).length c194_0)∧w'.cell? ⟨ad194.block,ad194.off + 1,none⟩=some (.int .i64 ((rd_T54 x0_1 0).f1))∧w'.cell? ad195=some (.slice A195_0 ((rd_T54 x1_1 0).f0).length c195_0)∧w'.cell? ⟨ad195.block,ad195.off + 1,none⟩=some (.int .i64 ((rd_T54 x1_1 0).f1))) (ds:=[]) #[X,X,X,X,X,X,X,X,X] (by kernel_rfl) rfl rfl ⟨hx194_0,hx194_1,hx195_0,hx195_1⟩ (fun hHeld=>?_);refine with_tabW impl_merged_impl_Item__impl_cmpItem_impl_together_1.tab3 impl_merged_impl_Item__impl_cmpItem_impl_together_1.bits3 (fun HT_ HW_=>?_)
          generalize wr.drew=w15 at HO_0 HO_1 HO_9 HB HL194_0 HL195_0 HR194_0 HR195_0 hx194_0 hx194_1 hx195_0 hx195_1 hHeld ⊢
          refine pure_ (i:=0) (N:=some 21) (v:=?_) (a':=?_) #[Y,X,X,X,X,X,X,X,X] rfl rfl zan (fun _ _ _ h=>h) (Or.inl ⟨by rfl,?_⟩) ?_ ?_
          rotate_left
          ·intro w'
           go_simp
           with_reducible rfl
          rotate_left
          ·simp only [Act.put,zp1,zp2,zp3,i64_w,i32_w]
           rfl
          refine pure_ (i:=1) (N:=some 22) (v:=?_) (a':=?_) #[Y,Y,X,X,X,X,X,X,X] rfl rfl zan (fun _ _ _ h=>h) (Or.inl ⟨by rfl,?_⟩) ?_ ?_
          rotate_left
          ·intro w'
           go_simp
           with_reducible rfl
          rotate_left
          ·simp only [Act.put,zp1,zp2,zp3,i64_w,i32_w]
           rfl
          refine pure_ (i:=2) (N:=some 23) (v:=?_) (a':=?_) #[Y,Y,Y,X,X,X,X,X,X] rfl rfl zan (fun _ _ _ h=>h) (Or.inl ⟨by rfl,?_⟩) ?_ ?_
          rotate_left
          ·intro w'
           go_simp
           with_reducible rfl
          rotate_left
          ·simp only [Act.put,zp1,zp2,zp3,i64_w,i32_w]
           rfl
          refine pure_ (i:=4) (N:=some 25) (v:=?_) (a':=?_) #[Y,Y,Y,X,Y,X,X,X,X] rfl rfl zan (fun _ _ _ h=>h) (Or.inl ⟨by rfl,?_⟩) ?_ ?_
          rotate_left
          ·intro w'
           go_simp
           with_reducible rfl
          rotate_left
          ·simp only [Act.put,zp1,zp2,zp3,i64_w,i32_w]
           rfl
          refine pure_ (i:=5) (N:=some 26) (v:=?_) (a':=?_) #[Y,Y,Y,X,Y,Y,X,X,X] rfl rfl zan (fun _ _ _ h=>h) (Or.inl ⟨by rfl,?_⟩) ?_ ?_
          rotate_left
          ·intro w'
           go_simp
           with_reducible rfl
          rotate_left
          ·simp only [Act.put,zp1,zp2,zp3,i64_w,i32_w]
           rfl
          refine take_ (i:=3) (N:=some 24) (v:=?_) (a':=?_) #[Y,Y,Y,Y,Y,Y,X,X,X] rfl rfl ztw (fun _ _ _ h=>h) (Or.inl ⟨by rfl,?_⟩) hHeld ?_ ?_
          rotate_left
          ·rintro w' ⟨s0,s1,s2,s3⟩
           go_simp
           with_reducible rfl
          rotate_left
          ·simp only [Act.put,zp1,zp2,zp3,i64_w,i32_w]
           rfl
          refine take_ (i:=6) (N:=some 27) (v:=?_) (a':=?_) #[Y,Y,Y,Y,Y,Y,Y,X,X] rfl rfl ztw (fun _ _ _ h=>h) (Or.inl ⟨by rfl,?_⟩) hHeld ?_ ?_
          rotate_left
          ·rintro w' ⟨s0,s1,s2,s3⟩
           go_simp
           with_reducible rfl
          rotate_left
          ·simp only [Act.put,zp1,zp2,zp3,i64_w,i32_w]
           rfl
          refine one_ (i:=7) (N:=some 28) #[Y,Y,Y,Y,Y,Y,Y,Y,X] rfl rfl (one_of HT_.out (by kernel_rfl)) (by decide) (fun K hK=>?_)
          refine goes_f (.tmp 21) Try.func109 (by kernel_rfl) rfl #[.agg #[.slice A194_0 ((rd_T54 x0_1 0).f0).length c194_0,.int .i64 ((rd_T54 x0_1 0).f1)],.agg #[.slice A195_0 ((rd_T54 x1_1 0).f0).length c195_0,.int .i64 ((rd_T54 x1_1 0).f1)]] (by rfl) rfl rfl rfl zar ?_
          with_reducible refine (impl_cmpItem.calls k1 _ _ ((rd_T54 x0_1 0).f0) ((rd_T54 x0_1 0).f1) _ _ ((rd_T54 x1_1 0).f0) ((rd_T54 x1_1 0).f1) t196 _ ?side1 ?side2 ?side3 ?side4 A9.out).mono ?_
          (case side1=>exact zC (zC HR194_0.out))
          (case side2=>exact HC194_0.out)
          (case side3=>exact zC (zC HR195_0.out))
          (case side4=>exact HC195_0.out)
          rintro e w16 ⟨rfl,hb⟩
          have HS0_:=zhs hb hHeld.1
          have HS1_:=zhs hb hHeld.2.1
          have HS2_:=zhs hb hHeld.2.2.1
          have HS3_:=zhs hb hHeld.2.2.2
          refine ⟨_,rfl,?_⟩
          have n0_:=Aside0.mk (Kd.V_below (zV HO_0.out) hb)
          have n1_:=Aside0.mk (Kd.V_below (zV HO_1.out) hb)
          have n2_:=Aside0.mk (Kd.N_below (zN HO_9.out) hb)
          have n3_:=Aside0.mk (Kd.V_below (zV HL194_0.out) hb)
          have n4_:=Aside0.mk (Kd.V_below (zV HL195_0.out) hb)
          have n5_:=Aside0.mk (Kd.C_below (zC HR194_0.out) hb)
          have n6_:=Aside0.mk (Kd.C_below (zC HR195_0.out) hb)
          have n7_:=Aside0.mk (below_step zhb hb)
          clear HO_0
          clear HO_1
          clear HO_9
          clear HL194_0
          clear HL195_0
          clear HR194_0
          clear HR195_0
          clear HB
          have HO_0:=n0_
          have HO_1:=n1_
          have HO_9:=n2_
          have HL194_0:=n3_
          have HL195_0:=n4_
          have HR194_0:=n5_
          have HR195_0:=n6_
          have HB:=n7_
          clear n0_ n1_ n2_ n3_ n4_ n5_ n6_ n7_
          (try clear hb)
          (try clear hb2)
          (try clear hk)
          (try clear hi)
          refine hK.out _ _ ⟨HS0_,HS1_,HS2_,HS3_⟩ (fun hHeld=>?_)
          clear hK K
          refine norm_ (a':=?_) ?_ ?_
          rotate_left
          ·show Act.put _ (some 28) _=_
           simp only [Act.put,zp1,zp2,zp3,i64_w,i32_w]
           rfl
          refine pure_ (i:=8) (N:=some 10) (v:=?_) (a':=?_) #[Y,Y,Y,Y,Y,Y,Y,Y,Y] rfl rfl zan (fun _ _ _ h=>h) (Or.inl ⟨by rfl,?_⟩) ?_ ?_
          rotate_left
          ·intro w'
           go_simp
           with_reducible rfl
          rotate_left
          ·simp only [Act.put,zp1,zp2,zp3,i64_w,i32_w]
           rfl
          refine done_ (done_of HT_.out (by kernel_rfl)) ?_
          try go_wp2
          have n0_:=Aside0.mk (Kd.V_drew HO_0.out)
          have n1_:=Aside0.mk (Kd.V_drew HO_1.out)
          have n2_:=Aside0.mk (Kd.N_drew HO_9.out)
          have n3_:=Aside0.mk (Kd.V_drew HL194_0.out)
          have n4_:=Aside0.mk (Kd.V_drew HL195_0.out)
          have n5_:=Aside0.mk (Kd.C_drew HR194_0.out)
          have n6_:=Aside0.mk (Kd.C_drew HR195_0.out)
          have n7_:=Aside0.mk (below_drew1 HB.out)
          clear HO_0
          clear HO_1
          clear HO_9
          clear HL194_0
          clear HL195_0
          clear HR194_0
          clear HR195_0
          clear HB
          have HO_0:=n0_
          have HO_1:=n1_
          have HO_9:=n2_
          have HL194_0:=n3_
          have HL195_0:=n4_
          have HR194_0:=n5_
          have HR195_0:=n6_
          have HB:=n7_
          clear n0_ n1_ n2_ n3_ n4_ n5_ n6_ n7_
          have p197:0≤(0:Int):=(by omega)
          have q197:0 < (x0_1.length:Int):=zod
          obtain ⟨ad197,A197_0,c197_0,e197,hx197_0,hx197_1,hl197_0,hi197_0⟩:=at_T54 (Kd.V_reads' HO_0.out).2.2 0 p197 q197
          obtain rfl:ad194=ad197:=(by injection e197)
          obtain ⟨ce197,hce197,hMe197,hcc197⟩:=Kd.V_get HO_0.out z54 0 p197 (by first|exact q197|exact zod|(have e_:=(Kd.V_reads' HO_0.out).1;omega))
          obtain ⟨ua197_0,uc197_0,rfl,ul197_0,ge197_0⟩:=k54_openF hMe197
          have hv197_0:=hcc197 0 _ rfl
          rw [Nat.add_zero] at hv197_0
          replace hv197_0:=Option.some.inj (hv197_0.symm.trans hx197_0)
          injection hv197_0 with hva_ hvn_ hvc_
          rw [hva_] at ge197_0
          rw [hvc_] at ul197_0
          have HL197_0:=Aside0.mk (show Kd.V (Kd.int .i64) 3 _ w.heap.size _ _ ((rd_T54 x0_1 0).f0) from Kd.V_mk ul197_0 ge197_0)
          clear hva_ hvn_ hvc_ ge197_0 ul197_0
          clear hcc197 hce197
          have qi197:(0 < x0_1.length)=True:=eq_true (by omega)
          (try rw [show ((0:Int)).toNat=0 from rfl] at hx197_0)
          (try rw [show 0 * 2=0 from rfl] at hx197_0)
          (try rw [Addr.add_zero'] at hx197_0)
          (try rw [show ((0:Int)).toNat=0 from rfl] at hx197_1)
          (try rw [show 0 * 2=0 from rfl] at hx197_1)
          (try rw [Addr.add_zero'] at hx197_1)
          have HR197_0:=Aside0.mk hi197_0
          have HC197_0:=Aside0.mk hl197_0
          clear hi197_0 hl197_0
          replace p197:=eq_true p197
          replace q197:=eq_true q197
          have q18:(1:Int)≤((x0_1.length:Int):Int):=zod
          obtain ⟨i018,hi018,_,hsz18,_⟩:=info_parts info54
          have hroom18:x0_1.length≤co13:=(Kd.V_reads' HO_0.out).2.1
          have hC18:Kd.F k54 _ _ (some ad194) x0_1.length x0_1:=(Kd.V_at (base:=w.heap.size) HO_0.out).2.2
          have hcut18:=cut_from (P:=Try.prog) 24 54 .i64 Try.underlying24 hi018 2 hsz18 (some ad194) x0_1.length co13 1 (by omega) q18
          have hr18:=Kd.F_cut (m:=(1:Int).toNat) (c:=co13) hC18 (by omega) hroom18
          obtain ⟨A18,hA18⟩ : ∃ A1,A1=(if co13=(1:Int).toNat then (some ad194) else ((some ad194):Option Addr).map (·.add ((1:Int).toNat * 2))):=⟨_,rfl⟩
          obtain ⟨c18,hc18⟩ : ∃ c1,c1=co13 - (1:Int).toNat:=⟨_,rfl⟩
          have hy18:y201.length=x0_1.length - (1:Int).toNat:=(by rw [Ny201.out,List.length_drop] <;> omega)
          rw [show (x0_1).drop (1:Int).toNat=y201 from Ny201.out.symm] at hr18
          replace hr18:Kd.F k54 _ _ A18 y201.length y201:=(by rw [hA18];exact hr18)
          rw [← hy18,← hA18,← hc18] at hcut18
          have HO205:=Aside0.mk (show Kd.V k54 54 _ w.heap.size _ (.slice A18 y201.length c18) y201 from Kd.V_mk (by rw [hy18,hc18];exact Nat.sub_le_sub_right hroom18 _) hr18)
          have HC205:=Aside0.mk (show y201.length≤c18 from by rw [hy18,hc18];exact Nat.sub_le_sub_right hroom18 _)
          clear hr18 hC18 hroom18 hi018 hsz18 hc18
          have KY18:=Aside0.mk hy18
          have KA18:=Aside0.mk hA18
          clear hy18 hA18
          replace q18:=eq_true q18
          refine start_ (n:=10) (S:=fun w'=>w'.cell? ad194=some (.slice A197_0 ((rd_T54 x0_1 0).f0).length c197_0)∧w'.cell? ⟨ad194.block,ad194.off + 1,none⟩=some (.int .i64 ((rd_T54 x0_1 0).f1))) (ds:=[4,5]) #[X,X,X,X,X,X,X,X,X,X] (by kernel_rfl) rfl rfl ⟨hx197_0,hx197_1⟩ (fun hHeld=>?_);refine with_tabW impl_merged_impl_Item__impl_cmpItem_impl_together_1.tab9 impl_merged_impl_Item__impl_cmpItem_impl_together_1.bits9 (fun HT_ HW_=>?_)
          generalize w16.drew=w17 at HO_0 HO_1 HO_9 HL194_0 HL195_0 HR194_0 HR195_0 HB HL197_0 HO205 HR197_0 hx197_0 hx197_1 hHeld ⊢
          refine pure_ (i:=0) (N:=some 52) (v:=?_) (a':=?_) #[Y,X,X,X,X,X,X,X,X,X] rfl rfl zan (fun _ _ _ h=>h) (Or.inl ⟨by rfl,?_⟩) ?_ ?_
          rotate_left
          ·intro w'
           go_simp
           with_reducible rfl
          rotate_left
          ·simp only [Act.put,zp1,zp2,zp3,i64_w,i32_w]
           rfl
          refine pure_ (i:=1) (N:=some 53) (v:=?_) (a':=?_) #[Y,Y,X,X,X,X,X,X,X,X] rfl rfl zan (fun _ _ _ h=>h) (Or.inl ⟨by rfl,?_⟩) ?_ ?_
          rotate_left
          ·intro w'
           go_simp
           with_reducible rfl
          rotate_left
          ·simp only [Act.put,zp1,zp2,zp3,i64_w,i32_w]
           rfl
          refine pure_ (i:=2) (N:=some 54) (v:=?_) (a':=?_) #[Y,Y,Y,X,X,X,X,X,X,X] rfl rfl zan (fun _ _ _ h=>h) (Or.inl ⟨by rfl,?_⟩) ?_ ?_
          rotate_left
          ·intro w'
           go_simp
           with_reducible rfl
          rotate_left
          ·simp only [Act.put,zp1,zp2,zp3,i64_w,i32_w]
           rfl
          refine pure_ (i:=6) (N:=some 58) (v:=?_) (a':=?_) #[Y,Y,Y,X,X,X,Y,X,X,X] rfl rfl zan (fun _ _ _ h=>h) (Or.inl ⟨by rfl,?_⟩) ?_ ?_
          rotate_left
          ·intro w'
           go_simp
           with_reducible rfl
          rotate_left
          ·simp only [Act.put,zp1,zp2,zp3,i64_w,i32_w]
           rfl
          refine pure_ (i:=7) (N:=some 59) (v:=?_) (a':=?_) #[Y,Y,Y,X,X,X,Y,Y,X,X] rfl rfl zan (fun _ _ _ h=>h) (Or.inl ⟨by rfl,?_⟩) ?_ ?_
          rotate_left
          ·intro w'
           go_simp
           with_reducible rfl
          rotate_left
          ·simp only [Act.put,zp1,zp2,zp3,i64_w,i32_w]
           rfl
          refine take_ (i:=3) (N:=some 55) (v:=?_) (a':=?_) #[Y,Y,Y,Y,X,X,Y,Y,X,X] rfl rfl ztw (fun _ _ _ h=>h) (Or.inl ⟨by rfl,?_⟩) hHeld ?_ ?_
          rotate_left
          ·rintro w' ⟨s0,s1⟩
           go_simp
           with_reducible rfl
          rotate_left
          ·simp only [Act.put,zp1,zp2,zp3,i64_w,i32_w]
           rfl
          refine last_ (i:=4) (N:=some 56) #[Y,Y,Y,Y,Y,X,Y,Y,X,X] rfl rfl (one_of HT_.out (by kernel_rfl)) (by decide) (fun K hK=>?_)
          refine value_ (w1:=?_) (v:=?_) (by rfl) rfl ?_ ?_
          rotate_left 2
          ·go_simp
           constructor
           ·rfl
           ·rfl
          refine hK.out _ _ ?_
          clear hK K
          refine norm_ (a':=?_) ?_ ?_
          rotate_left
          ·show Act.put _ (some 56) _=_
           simp only [Act.put,zp1,zp2,zp3,i64_w,i32_w]
           rfl
          refine last_ (i:=5) (N:=some 57) #[Y,Y,Y,Y,Y,Y,Y,Y,X,X] rfl rfl (one_of HT_.out (by kernel_rfl)) (by decide) (fun K hK=>?_)
          refine Kd.N_append_step k54 (w0:=w) w.heap.size (by rfl) (.tmp 52) (.tmp 56) 24 54 (.agg #[(.slice none 0 0),(.int .i64 0)]) 32 rfl Try.underlying24 info54 rfl (by decide) (by omega) u9 x9_1 (⟨(rd_T54 x0_1 0).f0,(rd_T54 x0_1 0).f1⟩:S54) [.slice A197_0 ((rd_T54 x0_1 0).f0).length c197_0,.int .i64 ((rd_T54 x0_1 0).f1)] (fun k_=>((P0_ k_∨P1_ k_)∨w.heap.size≤k_)) (fun k_=>((fun k_=>((P0_ k_∨P1_ k_)∨w.heap.size≤k_))) k_∧some k_≠(u9:Value).ownBlock) rfl rfl ?aP (fun _ hk=>hk) ?aF ?aO ?aB ?aS ?aL ?_
          (case aP=>exact (k54_mkF _ _ (⟨(rd_T54 x0_1 0).f0,(rd_T54 x0_1 0).f1⟩:S54) (Kd.V_reads' (Kd.V_mono (ok':=(fun k_=>((fun k_=>((P0_ k_∨P1_ k_)∨w.heap.size≤k_))) k_∧some k_≠(u9:Value).ownBlock)) (HL197_0.out) (fun k_ hk=>⟨hk.1,hk.2⟩))).2.1 (Kd.V_F (Kd.V_mono (ok':=(fun k_=>((fun k_=>((P0_ k_∨P1_ k_)∨w.heap.size≤k_))) k_∧some k_≠(u9:Value).ownBlock)) (HL197_0.out) (fun k_ hk=>⟨hk.1,hk.2⟩)))))
          (case aB=>exact zhb)
          (case aF=>exact (fun k_ hk=>(.inr (Nat.le_trans (below_size zhb) hk))))
          (case aO=>exact (zN HO_9.out))
          (case aS=>exact (below_size zhb))
          (case aL=>have:=LMc11.out;omega)
          intro v199 w19 ho hb hg hat
          rw [← Ny198.out] at ho
          have n0_:=Aside0.mk (Kd.V_afterv (ok:=(fun k_=>((P0_ k_∨P1_ k_)∨w.heap.size≤k_))) (zV HO_0.out) hg hat)
          have n1_:=Aside0.mk (Kd.V_afterv (ok:=(fun k_=>((P0_ k_∨P1_ k_)∨w.heap.size≤k_))) (zV HO_1.out) hg hat)
          have n2_:=Aside0.mk (Kd.V_afterv (ok:=(fun k_=>((P0_ k_∨P1_ k_)∨w.heap.size≤k_))) (zV HL194_0.out) hg hat)
          have n3_:=Aside0.mk (Kd.V_afterv (ok:=(fun k_=>((P0_ k_∨P1_ k_)∨w.heap.size≤k_))) (zV HL195_0.out) hg hat)
          have n4_:=Aside0.mk (Kd.V_afterv (ok:=(fun k_=>((P0_ k_∨P1_ k_)∨w.heap.size≤k_))) (zV HL197_0.out) hg hat)
          have n5_:=Aside0.mk (Kd.V_afterv (ok:=(fun k_=>((P0_ k_∨P1_ k_)∨w.heap.size≤k_))) (zV HO205.out) hg hat)
          have n6_:=Aside0.mk (hb)
          have n7_:=Aside0.mk (ho)
          clear HO_0
          clear HO_1
          clear HL194_0
          clear HL195_0
          clear HL197_0
          clear HO205
          clear HB
          clear HO_9
          have HO_0:=n0_
          have HO_1:=n1_
          have HL194_0:=n2_
          have HL195_0:=n3_
          have HL197_0:=n4_
          have HO205:=n5_
          have HB:=n6_
          have HO200:=n7_
          clear n0_ n1_ n2_ n3_ n4_ n5_ n6_ n7_
          clear ho hb hg hat
          refine hK.out _ _ ?_
          clear hK K
          refine norm_ (a':=?_) ?_ ?_
          rotate_left
          ·show Act.put _ (some 57) _=_
           simp only [Act.put,zp1,zp2,zp3,i64_w,i32_w]
           rfl
          refine pure_ (i:=8) (N:=some 9) (v:=?_) (a':=?_) #[Y,Y,Y,Y,Y,Y,Y,Y,Y,X] rfl rfl zan (fun _ _ _ h=>h) (Or.inl ⟨by rfl,?_⟩) ?_ ?_
          rotate_left
          ·intro w'
           go_simp
           with_reducible rfl
          rotate_left
          ·simp only [Act.put,zp1,zp2,zp3,i64_w,i32_w]
           rfl
          refine pure_ (i:=9) (N:=some 0) (v:=?_) (a':=?_) #[Y,Y,Y,Y,Y,Y,Y,Y,Y,Y] rfl rfl zan (fun _ _ _ h=>h) (Or.inl ⟨by rfl,?_⟩) ?_ ?_
          rotate_left
          ·intro w'
           go_simp
           with_reducible rfl
          rotate_left
          ·simp only [Act.put,zp1,zp2,zp3,i64_w,i32_w]
           rfl
          refine done_ (done_of HT_.out (by kernel_rfl)) ?_
          try go_wp2
          go_roundg k1
          case measure=>have:=HK1.out;omega
          case rel=>exact ⟨(y201),(x1_1),(y198),H',⟨by have:=HK1.out;omega⟩,⟨by (with_reducible repeat (first|apply Kd.V_alloc|apply Kd.V_drewN|apply Kd.V_drew));exact HO205.out⟩,⟨by (with_reducible repeat (first|apply Kd.V_alloc|apply Kd.V_drewN|apply Kd.V_drew));exact HO_1.out⟩,⟨by (with_reducible repeat (first|apply Kd.N_alloc|apply Kd.N_drewN|apply Kd.N_drew));exact HO200.out⟩,⟨zhb⟩⟩
         ·rw [if_neg c12] at H
          exact absurd H (by simp)
        ·rw [if_neg c11] at H
         exact absurd H (by simp)
       ·rw [if_neg c10] at H
        have c10b0:decide (t196 < 0)=false:=decide_eq_false c10
        clear c10
        by_cases c20:t196 > 0
        ·rw [if_pos c20] at H
         have c20b0:decide (0 < t196)=true:=decide_eq_true c20
         clear c20
         by_cases c21:x9_1.length < 4398046511104
         ·rw [if_pos c21] at H
          have LMc21:=Aside0.mk c21
          clear c21
          obtain ⟨y207,hy207⟩ : ∃ y_:List (S54),y_=(x9_1 ++ [(⟨(rd_T54 x1_1 0).f0,(rd_T54 x1_1 0).f1⟩:S54)]):=⟨_,rfl⟩
          replace H:(if 1≤(x1_1.length:Int) then (impl_merged_impl_Item__impl_cmpItem_impl_together_1.l0 k1 x0_1 (x1_1.drop 1) y207) else (none))=some r:=by first|(rw [hy207];with_reducible exact H)|(have H2_:=(Option.bind_some _ _).symm.trans H;rw [hy207];with_reducible exact H2_)|(have H2_:=(Option.bind_some _ _).symm.trans H;with_reducible exact H2_)|with_reducible exact H|(rw [hy207];exact H)|exact H
          have Ny207:=Aside0.mk hy207
          clear hy207
          by_cases c22:1≤(x1_1.length:Int)
          ·rw [if_pos c22] at H
           have c22b0:=eq_true c22
           have c22b1:decide (1≤(x1_1.length:Int))=true:=decide_eq_true c22
           clear c22
           obtain ⟨y210,hy210⟩ : ∃ y_:List (S54),y_=(x1_1.drop 1):=⟨_,rfl⟩
           replace H:(impl_merged_impl_Item__impl_cmpItem_impl_together_1.l0 k1 x0_1 y210 y207)=some r:=by first|(rw [hy210];with_reducible exact H)|(have H2_:=(Option.bind_some _ _).symm.trans H;rw [hy210];with_reducible exact H2_)|(have H2_:=(Option.bind_some _ _).symm.trans H;with_reducible exact H2_)|with_reducible exact H|(rw [hy210];exact H)|exact H
           have Ny210:=Aside0.mk hy210
           clear hy210
           have H':=Aside0.mk H
           clear H
           obtain ⟨Ao23,co23,eo23⟩:=Kd.V_slice HO_0.out
           subst eo23
           obtain ⟨Ao24,co24,eo24⟩:=Kd.V_slice HO_1.out
           subst eo24
           try go_wp2
           have n0_:=Aside0.mk (Kd.V_drew HO_0.out)
           have n1_:=Aside0.mk (Kd.V_drew HO_1.out)
           have n2_:=Aside0.mk (Kd.N_drew HO_9.out)
           have n3_:=Aside0.mk (below_drew1 HB.out)
           clear HO_0
           clear HO_1
           clear HO_9
           clear HB
           have HO_0:=n0_
           have HO_1:=n1_
           have HO_9:=n2_
           have HB:=n3_
           clear n0_ n1_ n2_ n3_
           have p194:0≤(0:Int):=(by omega)
           have q194:0 < (x0_1.length:Int):=zod
           obtain ⟨ad194,A194_0,c194_0,e194,hx194_0,hx194_1,hl194_0,hi194_0⟩:=at_T54 (Kd.V_reads' HO_0.out).2.2 0 p194 q194
           cases e194
           obtain ⟨ce194,hce194,hMe194,hcc194⟩:=Kd.V_get HO_0.out z54 0 p194 (by first|exact q194|exact zod|(have e_:=(Kd.V_reads' HO_0.out).1;omega))
           obtain ⟨ua194_0,uc194_0,rfl,ul194_0,ge194_0⟩:=k54_openF hMe194
           have hv194_0:=hcc194 0 _ rfl
           rw [Nat.add_zero] at hv194_0
           replace hv194_0:=Option.some.inj (hv194_0.symm.trans hx194_0)
           injection hv194_0 with hva_ hvn_ hvc_
           rw [hva_] at ge194_0
           rw [hvc_] at ul194_0
           have HL194_0:=Aside0.mk (show Kd.V (Kd.int .i64) 3 _ w.heap.size _ _ ((rd_T54 x0_1 0).f0) from Kd.V_mk ul194_0 ge194_0)
           clear hva_ hvn_ hvc_ ge194_0 ul194_0
           clear hcc194 hce194
           have qi194:(0 < x0_1.length)=True:=eq_true (by omega)
           (try rw [show ((0:Int)).toNat=0 from rfl] at hx194_0)
           (try rw [show 0 * 2=0 from rfl] at hx194_0)
           (try rw [Addr.add_zero'] at hx194_0)
           (try rw [show ((0:Int)).toNat=0 from rfl] at hx194_1)
           (try rw [show 0 * 2=0 from rfl] at hx194_1)
           (try rw [Addr.add_zero'] at hx194_1)
           have HR194_0:=Aside0.mk hi194_0
           have HC194_0:=Aside0.mk hl194_0
           clear hi194_0 hl194_0
           replace p194:=eq_true p194
           replace q194:=eq_true q194
           have p195:0≤(0:Int):=(by omega)
           have q195:0 < (x1_1.length:Int):=zod
           obtain ⟨ad195,A195_0,c195_0,e195,hx195_0,hx195_1,hl195_0,hi195_0⟩:=at_T54 (Kd.V_reads' HO_1.out).2.2 0 p195 q195
           cases e195
           obtain ⟨ce195,hce195,hMe195,hcc195⟩:=Kd.V_get HO_1.out z54 0 p195 (by first|exact q195|exact zod|(have e_:=(Kd.V_reads' HO_1.out).1;omega))
           obtain ⟨ua195_0,uc195_0,rfl,ul195_0,ge195_0⟩:=k54_openF hMe195
           have hv195_0:=hcc195 0 _ rfl
           rw [Nat.add_zero] at hv195_0
           replace hv195_0:=Option.some.inj (hv195_0.symm.trans hx195_0)
           injection hv195_0 with hva_ hvn_ hvc_
           rw [hva_] at ge195_0
           rw [hvc_] at ul195_0
           have HL195_0:=Aside0.mk (show Kd.V (Kd.int .i64) 3 _ w.heap.size _ _ ((rd_T54 x1_1 0).f0) from Kd.V_mk ul195_0 ge195_0)
           clear hva_ hvn_ hvc_ ge195_0 ul195_0
           clear hcc195 hce195
           have qi195:(0 < x1_1.length)=True:=eq_true (by omega)
           (try rw [show ((0:Int)).toNat=0 from rfl] at hx195_0)
           (try rw [show 0 * 2=0 from rfl] at hx195_0)
           (try rw [Addr.add_zero'] at hx195_0)
           (try rw [show ((0:Int)).toNat=0 from rfl] at hx195_1)
           (try rw [show 0 * 2=0 from rfl] at hx195_1)
           (try rw [Addr.add_zero'] at hx195_1)
           have HR195_0:=Aside0.mk hi195_0
           have HC195_0:=Aside0.mk hl195_0
           clear hi195_0 hl195_0
           replace p195:=eq_true p195
           replace q195:=eq_true q195
           refine start_ (n:=9) (S:=fun w'=>w'.cell? ad194=some (.slice A194_0 ((rd_T54 x0_1 0).f0).length c194_0)∧w'.cell? ⟨ad194.block,ad194.off + 1,none⟩=some (.int .i64 ((rd_T54 x0_1 0).f1))∧w'.cell? ad195=some (.slice A195_0 ((rd_T54 x1_1 0).f0).length c195_0)∧w'.cell? ⟨ad195.block,ad195.off + 1,none⟩=some (.int .i64 ((rd_T54 x1_1 0).f1))) (ds:=[]) #[X,X,X,X,X,X,X,X,X] (by kernel_rfl) rfl rfl ⟨hx194_0,hx194_1,hx195_0,hx195_1⟩ (fun hHeld=>?_);refine with_tabW impl_merged_impl_Item__impl_cmpItem_impl_together_1.tab3 impl_merged_impl_Item__impl_cmpItem_impl_together_1.bits3 (fun HT_ HW_=>?_)
           generalize wr.drew=w25 at HO_0 HO_1 HO_9 HB HL194_0 HL195_0 HR194_0 HR195_0 hx194_0 hx194_1 hx195_0 hx195_1 hHeld ⊢
           refine pure_ (i:=0) (N:=some 21) (v:=?_) (a':=?_) #[Y,X,X,X,X,X,X,X,X] rfl rfl zan (fun _ _ _ h=>h) (Or.inl ⟨by rfl,?_⟩) ?_ ?_
           rotate_left
           ·intro w'
            go_simp
            with_reducible rfl
           rotate_left
           ·simp only [Act.put,zp1,zp2,zp3,i64_w,i32_w]
            rfl
           refine pure_ (i:=1) (N:=some 22) (v:=?_) (a':=?_) #[Y,Y,X,X,X,X,X,X,X] rfl rfl zan (fun _ _ _ h=>h) (Or.inl ⟨by rfl,?_⟩) ?_ ?_
           rotate_left
           ·intro w'
            go_simp
            with_reducible rfl
           rotate_left
           ·simp only [Act.put,zp1,zp2,zp3,i64_w,i32_w]
            rfl
           refine pure_ (i:=2) (N:=some 23) (v:=?_) (a':=?_) #[Y,Y,Y,X,X,X,X,X,X] rfl rfl zan (fun _ _ _ h=>h) (Or.inl ⟨by rfl,?_⟩) ?_ ?_
           rotate_left
           ·intro w'
            go_simp
            with_reducible rfl
           rotate_left
           ·simp only [Act.put,zp1,zp2,zp3,i64_w,i32_w]
            rfl
           refine pure_ (i:=4) (N:=some 25) (v:=?_) (a':=?_) #[Y,Y,Y,X,Y,X,X,X,X] rfl rfl zan (fun _ _ _ h=>h) (Or.inl ⟨by rfl,?_⟩) ?_ ?_
           rotate_left
           ·intro w'
            go_simp
            with_reducible rfl
           rotate_left
           ·simp only [Act.put,zp1,zp2,zp3,i64_w,i32_w]
            rfl
           refine pure_ (i:=5) (N:=some 26) (v:=?_) (a':=?_) #[Y,Y,Y,X,Y,Y,X,X,X] rfl rfl zan (fun _ _ _ h=>h) (Or.inl ⟨by rfl,?_⟩) ?_ ?_
           rotate_left
           ·intro w'
            go_simp
            with_reducible rfl
           rotate_left
           ·simp only [Act.put,zp1,zp2,zp3,i64_w,i32_w]
            rfl
           refine take_ (i:=3) (N:=some 24) (v:=?_) (a':=?_) #[Y,Y,Y,Y,Y,Y,X,X,X] rfl rfl ztw (fun _ _ _ h=>h) (Or.inl ⟨by rfl,?_⟩) hHeld ?_ ?_
           rotate_left
           ·rintro w' ⟨s0,s1,s2,s3⟩
            go_simp
            with_reducible rfl
           rotate_left
           ·simp only [Act.put,zp1,zp2,zp3,i64_w,i32_w]
            rfl
           refine take_ (i:=6) (N:=some 27) (v:=?_) (a':=?_) #[Y,Y,Y,Y,Y,Y,Y,X,X] rfl rfl ztw (fun _ _ _ h=>h) (Or.inl ⟨by rfl,?_⟩) hHeld ?_ ?_
           rotate_left
           ·rintro w' ⟨s0,s1,s2,s3⟩
            go_simp
            with_reducible rfl
           rotate_left
           ·simp only [Act.put,zp1,zp2,zp3,i64_w,i32_w]
            rfl
           refine one_ (i:=7) (N:=some 28) #[Y,Y,Y,Y,Y,Y,Y,Y,X] rfl rfl (one_of HT_.out (by kernel_rfl)) (by decide) (fun K hK=>?_)
           refine goes_f (.tmp 21) Try.func109 (by kernel_rfl) rfl #[.agg #[.slice A194_0 ((rd_T54 x0_1 0).f0).length c194_0,.int .i64 ((rd_T54 x0_1 0).f1)],.agg #[.slice A195_0 ((rd_T54 x1_1 0).f0).length c195_0,.int .i64 ((rd_T54 x1_1 0).f1)]] (by rfl) rfl rfl rfl zar ?_
           with_reducible refine (impl_cmpItem.calls k1 _ _ ((rd_T54 x0_1 0).f0) ((rd_T54 x0_1 0).f1) _ _ ((rd_T54 x1_1 0).f0) ((rd_T54 x1_1 0).f1) t196 _ ?side1 ?side2 ?side3 ?side4 A9.out).mono ?_
           (case side1=>exact zC (zC HR194_0.out))
           (case side2=>exact HC194_0.out)
           (case side3=>exact zC (zC HR195_0.out))
           (case side4=>exact HC195_0.out)
           rintro e w26 ⟨rfl,hb⟩
           have HS0_:=zhs hb hHeld.1
           have HS1_:=zhs hb hHeld.2.1
           have HS2_:=zhs hb hHeld.2.2.1
           have HS3_:=zhs hb hHeld.2.2.2
           refine ⟨_,rfl,?_⟩
           have n0_:=Aside0.mk (Kd.V_below (zV HO_0.out) hb)
           have n1_:=Aside0.mk (Kd.V_below (zV HO_1.out) hb)
           have n2_:=Aside0.mk (Kd.N_below (zN HO_9.out) hb)
           have n3_:=Aside0.mk (Kd.V_below (zV HL194_0.out) hb)
           have n4_:=Aside0.mk (Kd.V_below (zV HL195_0.out) hb)
           have n5_:=Aside0.mk (Kd.C_below (zC HR194_0.out) hb)
           have n6_:=Aside0.mk (Kd.C_below (zC HR195_0.out) hb)
           have n7_:=Aside0.mk (below_step zhb hb)
           clear HO_0
           clear HO_1
           clear HO_9
           clear HL194_0
           clear HL195_0
           clear HR194_0
           clear HR195_0
           clear HB
           have HO_0:=n0_
           have HO_1:=n1_
           have HO_9:=n2_
           have HL194_0:=n3_
           have HL195_0:=n4_
           have HR194_0:=n5_
           have HR195_0:=n6_
           have HB:=n7_
           clear n0_ n1_ n2_ n3_ n4_ n5_ n6_ n7_
           (try clear hb)
           (try clear hb2)
           (try clear hk)
           (try clear hi)
           refine hK.out _ _ ⟨HS0_,HS1_,HS2_,HS3_⟩ (fun hHeld=>?_)
           clear hK K
           refine norm_ (a':=?_) ?_ ?_
           rotate_left
           ·show Act.put _ (some 28) _=_
            simp only [Act.put,zp1,zp2,zp3,i64_w,i32_w]
            rfl
           refine pure_ (i:=8) (N:=some 10) (v:=?_) (a':=?_) #[Y,Y,Y,Y,Y,Y,Y,Y,Y] rfl rfl zan (fun _ _ _ h=>h) (Or.inl ⟨by rfl,?_⟩) ?_ ?_
           rotate_left
           ·intro w'
            go_simp
            with_reducible rfl
           rotate_left
           ·simp only [Act.put,zp1,zp2,zp3,i64_w,i32_w]
            rfl
           refine done_ (done_of HT_.out (by kernel_rfl)) ?_
           try go_wp2
           have n0_:=Aside0.mk (Kd.V_drew HO_0.out)
           have n1_:=Aside0.mk (Kd.V_drew HO_1.out)
           have n2_:=Aside0.mk (Kd.N_drew HO_9.out)
           have n3_:=Aside0.mk (Kd.V_drew HL194_0.out)
           have n4_:=Aside0.mk (Kd.V_drew HL195_0.out)
           have n5_:=Aside0.mk (Kd.C_drew HR194_0.out)
           have n6_:=Aside0.mk (Kd.C_drew HR195_0.out)
           have n7_:=Aside0.mk (below_drew1 HB.out)
           clear HO_0
           clear HO_1
           clear HO_9
           clear HL194_0
           clear HL195_0
           clear HR194_0
           clear HR195_0
           clear HB
           have HO_0:=n0_
           have HO_1:=n1_
           have HO_9:=n2_
           have HL194_0:=n3_
           have HL195_0:=n4_
           have HR194_0:=n5_
           have HR195_0:=n6_
           have HB:=n7_
           clear n0_ n1_ n2_ n3_ n4_ n5_ n6_ n7_
           have p206:0≤(0:Int):=(by omega)
           have q206:0 < (x1_1.length:Int):=zod
           obtain ⟨ad206,A206_0,c206_0,e206,hx206_0,hx206_1,hl206_0,hi206_0⟩:=at_T54 (Kd.V_reads' HO_1.out).2.2 0 p206 q206
           obtain rfl:ad195=ad206:=(by injection e206)
           obtain ⟨ce206,hce206,hMe206,hcc206⟩:=Kd.V_get HO_1.out z54 0 p206 (by first|exact q206|exact zod|(have e_:=(Kd.V_reads' HO_1.out).1;omega))
           obtain ⟨ua206_0,uc206_0,rfl,ul206_0,ge206_0⟩:=k54_openF hMe206
           have hv206_0:=hcc206 0 _ rfl
           rw [Nat.add_zero] at hv206_0
           replace hv206_0:=Option.some.inj (hv206_0.symm.trans hx206_0)
           injection hv206_0 with hva_ hvn_ hvc_
           rw [hva_] at ge206_0
           rw [hvc_] at ul206_0
           have HL206_0:=Aside0.mk (show Kd.V (Kd.int .i64) 3 _ w.heap.size _ _ ((rd_T54 x1_1 0).f0) from Kd.V_mk ul206_0 ge206_0)
           clear hva_ hvn_ hvc_ ge206_0 ul206_0
           clear hcc206 hce206
           have qi206:(0 < x1_1.length)=True:=eq_true (by omega)
           (try rw [show ((0:Int)).toNat=0 from rfl] at hx206_0)
           (try rw [show 0 * 2=0 from rfl] at hx206_0)
           (try rw [Addr.add_zero'] at hx206_0)
           (try rw [show ((0:Int)).toNat=0 from rfl] at hx206_1)
           (try rw [show 0 * 2=0 from rfl] at hx206_1)
           (try rw [Addr.add_zero'] at hx206_1)
           have HR206_0:=Aside0.mk hi206_0
           have HC206_0:=Aside0.mk hl206_0
           clear hi206_0 hl206_0
           replace p206:=eq_true p206
           replace q206:=eq_true q206
           have q28:(1:Int)≤((x1_1.length:Int):Int):=zod
           obtain ⟨i028,hi028,_,hsz28,_⟩:=info_parts info54
           have hroom28:x1_1.length≤co24:=(Kd.V_reads' HO_1.out).2.1
           have hC28:Kd.F k54 _ _ (some ad195) x1_1.length x1_1:=(Kd.V_at (base:=w.heap.size) HO_1.out).2.2
           have hcut28:=cut_from (P:=Try.prog) 24 54 .i64 Try.underlying24 hi028 2 hsz28 (some ad195) x1_1.length co24 1 (by omega) q28
           have hr28:=Kd.F_cut (m:=(1:Int).toNat) (c:=co24) hC28 (by omega) hroom28
           obtain ⟨A28,hA28⟩ : ∃ A1,A1=(if co24=(1:Int).toNat then (some ad195) else ((some ad195):Option Addr).map (·.add ((1:Int).toNat * 2))):=⟨_,rfl⟩
           obtain ⟨c28,hc28⟩ : ∃ c1,c1=co24 - (1:Int).toNat:=⟨_,rfl⟩
           have hy28:y210.length=x1_1.length - (1:Int).toNat:=(by rw [Ny210.out,List.length_drop] <;> omega)
           rw [show (x1_1).drop (1:Int).toNat=y210 from Ny210.out.symm] at hr28
           replace hr28:Kd.F k54 _ _ A28 y210.length y210:=(by rw [hA28];exact hr28)
           rw [← hy28,← hA28,← hc28] at hcut28
           have HO214:=Aside0.mk (show Kd.V k54 54 _ w.heap.size _ (.slice A28 y210.length c28) y210 from Kd.V_mk (by rw [hy28,hc28];exact Nat.sub_le_sub_right hroom28 _) hr28)
           have HC214:=Aside0.mk (show y210.length≤c28 from by rw [hy28,hc28];exact Nat.sub_le_sub_right hroom28 _)
           clear hr28 hC28 hroom28 hi028 hsz28 hc28
           have KY28:=Aside0.mk hy28
           have KA28:=Aside0.mk hA28
           clear hy28 hA28
           replace q28:=eq_true q28
           refine start_ (n:=10) (S:=fun w'=>w'.cell? ad195=some (.slice A206_0 ((rd_T54 x1_1 0).f0).length c206_0)∧w'.cell? ⟨ad195.block,ad195.off + 1,none⟩=some (.int .i64 ((rd_T54 x1_1 0).f1))) (ds:=[4,5]) #[X,X,X,X,X,X,X,X,X,X] (by kernel_rfl) rfl rfl ⟨hx206_0,hx206_1⟩ (fun hHeld=>?_);refine with_tabW impl_merged_impl_Item__impl_cmpItem_impl_together_1.tab11 impl_merged_impl_Item__impl_cmpItem_impl_together_1.bits11 (fun HT_ HW_=>?_)
           generalize w26.drew=w27 at HO_0 HO_1 HO_9 HL194_0 HL195_0 HR194_0 HR195_0 HB HL206_0 HO214 HR206_0 hx206_0 hx206_1 hHeld ⊢
           refine pure_ (i:=0) (N:=some 63) (v:=?_) (a':=?_) #[Y,X,X,X,X,X,X,X,X,X] rfl rfl zan (fun _ _ _ h=>h) (Or.inl ⟨by rfl,?_⟩) ?_ ?_
           rotate_left
           ·intro w'
            go_simp
            with_reducible rfl
           rotate_left
           ·simp only [Act.put,zp1,zp2,zp3,i64_w,i32_w]
            rfl
           refine pure_ (i:=1) (N:=some 64) (v:=?_) (a':=?_) #[Y,Y,X,X,X,X,X,X,X,X] rfl rfl zan (fun _ _ _ h=>h) (Or.inl ⟨by rfl,?_⟩) ?_ ?_
           rotate_left
           ·intro w'
            go_simp
            with_reducible rfl
           rotate_left
           ·simp only [Act.put,zp1,zp2,zp3,i64_w,i32_w]
            rfl
           refine pure_ (i:=2) (N:=some 65) (v:=?_) (a':=?_) #[Y,Y,Y,X,X,X,X,X,X,X] rfl rfl zan (fun _ _ _ h=>h) (Or.inl ⟨by rfl,?_⟩) ?_ ?_
           rotate_left
           ·intro w'
            go_simp
            with_reducible rfl
           rotate_left
           ·simp only [Act.put,zp1,zp2,zp3,i64_w,i32_w]
            rfl
           refine pure_ (i:=6) (N:=some 69) (v:=?_) (a':=?_) #[Y,Y,Y,X,X,X,Y,X,X,X] rfl rfl zan (fun _ _ _ h=>h) (Or.inl ⟨by rfl,?_⟩) ?_ ?_
           rotate_left
           ·intro w'
            go_simp
            with_reducible rfl
           rotate_left
           ·simp only [Act.put,zp1,zp2,zp3,i64_w,i32_w]
            rfl
           refine pure_ (i:=7) (N:=some 70) (v:=?_) (a':=?_) #[Y,Y,Y,X,X,X,Y,Y,X,X] rfl rfl zan (fun _ _ _ h=>h) (Or.inl ⟨by rfl,?_⟩) ?_ ?_
           rotate_left
           ·intro w'
            go_simp
            with_reducible rfl
           rotate_left
           ·simp only [Act.put,zp1,zp2,zp3,i64_w,i32_w]
            rfl
           refine take_ (i:=3) (N:=some 66) (v:=?_) (a':=?_) #[Y,Y,Y,Y,X,X,Y,Y,X,X] rfl rfl ztw (fun _ _ _ h=>h) (Or.inl ⟨by rfl,?_⟩) hHeld ?_ ?_
           rotate_left
           ·rintro w' ⟨s0,s1⟩
            go_simp
            with_reducible rfl
           rotate_left
           ·simp only [Act.put,zp1,zp2,zp3,i64_w,i32_w]
            rfl
           refine last_ (i:=4) (N:=some 67) #[Y,Y,Y,Y,Y,X,Y,Y,X,X] rfl rfl (one_of HT_.out (by kernel_rfl)) (by decide) (fun K hK=>?_)
           refine value_ (w1:=?_) (v:=?_) (by rfl) rfl ?_ ?_
           rotate_left 2
           ·go_simp
            constructor
            ·rfl
            ·rfl
           refine hK.out _ _ ?_
           clear hK K
           refine norm_ (a':=?_) ?_ ?_
           rotate_left
           ·show Act.put _ (some 67) _=_
            simp only [Act.put,zp1,zp2,zp3,i64_w,i32_w]
            rfl
           refine last_ (i:=5) (N:=some 68) #[Y,Y,Y,Y,Y,Y,Y,Y,X,X] rfl rfl (one_of HT_.out (by kernel_rfl)) (by decide) (fun K hK=>?_)
           refine Kd.N_append_step k54 (w0:=w) w.heap.size (by rfl) (.tmp 63) (.tmp 67) 24 54 (.agg #[(.slice none 0 0),(.int .i64 0)]) 32 rfl Try.underlying24 info54 rfl (by decide) (by omega) u9 x9_1 (⟨(rd_T54 x1_1 0).f0,(rd_T54 x1_1 0).f1⟩:S54) [.slice A206_0 ((rd_T54 x1_1 0).f0).length c206_0,.int .i64 ((rd_T54 x1_1 0).f1)] (fun k_=>((P0_ k_∨P1_ k_)∨w.heap.size≤k_)) (fun k_=>((fun k_=>((P0_ k_∨P1_ k_)∨w.heap.size≤k_))) k_∧some k_≠(u9:Value).ownBlock) rfl rfl ?aP (fun _ hk=>hk) ?aF ?aO ?aB ?aS ?aL ?_
           (case aP=>exact (k54_mkF _ _ (⟨(rd_T54 x1_1 0).f0,(rd_T54 x1_1 0).f1⟩:S54) (Kd.V_reads' (Kd.V_mono (ok':=(fun k_=>((fun k_=>((P0_ k_∨P1_ k_)∨w.heap.size≤k_))) k_∧some k_≠(u9:Value).ownBlock)) (HL206_0.out) (fun k_ hk=>⟨hk.1,hk.2⟩))).2.1 (Kd.V_F (Kd.V_mono (ok':=(fun k_=>((fun k_=>((P0_ k_∨P1_ k_)∨w.heap.size≤k_))) k_∧some k_≠(u9:Value).ownBlock)) (HL206_0.out) (fun k_ hk=>⟨hk.1,hk.2⟩)))))
           (case aB=>exact zhb)
           (case aF=>exact (fun k_ hk=>(.inr (Nat.le_trans (below_size zhb) hk))))
           (case aO=>exact (zN HO_9.out))
           (case aS=>exact (below_size zhb))
           (case aL=>have:=LMc21.out;omega)
           intro v208 w29 ho hb hg hat
           rw [← Ny207.out] at ho
           have n0_:=Aside0.mk (Kd.V_afterv (ok:=(fun k_=>((P0_ k_∨P1_ k_)∨w.heap.size≤k_))) (zV HO_0.out) hg hat)
           have n1_:=Aside0.mk (Kd.V_afterv (ok:=(fun k_=>((P0_ k_∨P1_ k_)∨w.heap.size≤k_))) (zV HO_1.out) hg hat)
           have n2_:=Aside0.mk (Kd.V_afterv (ok:=(fun k_=>((P0_ k_∨P1_ k_)∨w.heap.size≤k_))) (zV HL194_0.out) hg hat)
           have n3_:=Aside0.mk (Kd.V_afterv (ok:=(fun k_=>((P0_ k_∨P1_ k_)∨w.heap.size≤k_))) (zV HL195_0.out) hg hat)
           have n4_:=Aside0.mk (Kd.V_afterv (ok:=(fun k_=>((P0_ k_∨P1_ k_)∨w.heap.size≤k_))) (zV HL206_0.out) hg hat)
           have n5_:=Aside0.mk (Kd.V_afterv (ok:=(fun k_=>((P0_ k_∨P1_ k_)∨w.heap.size≤k_))) (zV HO214.out) hg hat)
           have n6_:=Aside0.mk (hb)
           have n7_:=Aside0.mk (ho)
           clear HO_0
           clear HO_1
           clear HL194_0
           clear HL195_0
           clear HL206_0
           clear HO214
           clear HB
           clear HO_9
           have HO_0:=n0_
           have HO_1:=n1_
           have HL194_0:=n2_
           have HL195_0:=n3_
           have HL206_0:=n4_
           have HO214:=n5_
           have HB:=n6_
           have HO209:=n7_
           clear n0_ n1_ n2_ n3_ n4_ n5_ n6_ n7_
           clear ho hb hg hat
           refine hK.out _ _ ?_
           clear hK K
           refine norm_ (a':=?_) ?_ ?_
           rotate_left
           ·show Act.put _ (some 68) _=_
            simp only [Act.put,zp1,zp2,zp3,i64_w,i32_w]
            rfl
           refine pure_ (i:=8) (N:=some 9) (v:=?_) (a':=?_) #[Y,Y,Y,Y,Y,Y,Y,Y,Y,X] rfl rfl zan (fun _ _ _ h=>h) (Or.inl ⟨by rfl,?_⟩) ?_ ?_
           rotate_left
           ·intro w'
            go_simp
            with_reducible rfl
           rotate_left
           ·simp only [Act.put,zp1,zp2,zp3,i64_w,i32_w]
            rfl
           refine pure_ (i:=9) (N:=some 1) (v:=?_) (a':=?_) #[Y,Y,Y,Y,Y,Y,Y,Y,Y,Y] rfl rfl zan (fun _ _ _ h=>h) (Or.inl ⟨by rfl,?_⟩) ?_ ?_
           rotate_left
           ·intro w'
            go_simp
            with_reducible rfl
           rotate_left
           ·simp only [Act.put,zp1,zp2,zp3,i64_w,i32_w]
            rfl
           refine done_ (done_of HT_.out (by kernel_rfl)) ?_
           try go_wp2
           go_roundg k1
           case measure=>have:=HK1.out;omega
           case rel=>exact ⟨(x0_1),(y210),(y207),H',⟨by have:=HK1.out;omega⟩,⟨by (with_reducible repeat (first|apply Kd.V_alloc|apply Kd.V_drewN|apply Kd.V_drew));exact HO_0.out⟩,⟨by (with_reducible repeat (first|apply Kd.V_alloc|apply Kd.V_drewN|apply Kd.V_drew));exact HO214.out⟩,⟨by (with_reducible repeat (first|apply Kd.N_alloc|apply Kd.N_drewN|apply Kd.N_drew));exact HO209.out⟩,⟨zhb⟩⟩
          ·rw [if_neg c22] at H
           exact absurd H (by simp)
         ·rw [if_neg c21] at H
          exact absurd H (by simp)
        ·rw [if_neg c20] at H
         have c20b0:decide (0 < t196)=false:=decide_eq_false c20
         clear c20
         replace H:=Option.bind_eq_some_iff.mp H
         obtain ⟨⟨t217,t220,t221⟩,A300,H⟩:=H
         (try dsimp only at H)
         have A30:=Aside0.mk A300
         clear A300
         by_cases c31:t221=true
         ·subst c31
          have H1:(if x9_1.length < 4398046511104 then (if 1≤(x0_1.length:Int) then (if 1≤(x1_1.length:Int) then (impl_merged_impl_Item__impl_cmpItem_impl_together_1.l0 k1 (x0_1.drop 1) (x1_1.drop 1) (x9_1 ++ [(⟨t217,t220⟩:S54)])) else (none)) else (none)) else (none))=some r:=by rw [if_pos rfl] at H;exact H
          clear H
          have H:=H1
          clear H1
          by_cases c32:x9_1.length < 4398046511104
          ·rw [if_pos c32] at H
           have LMc32:=Aside0.mk c32
           clear c32
           obtain ⟨y223,hy223⟩ : ∃ y_:List (S54),y_=(x9_1 ++ [(⟨t217,t220⟩:S54)]):=⟨_,rfl⟩
           replace H:(if 1≤(x0_1.length:Int) then (if 1≤(x1_1.length:Int) then (impl_merged_impl_Item__impl_cmpItem_impl_together_1.l0 k1 (x0_1.drop 1) (x1_1.drop 1) y223) else (none)) else (none))=some r:=by first|(rw [hy223];with_reducible exact H)|(have H2_:=(Option.bind_some _ _).symm.trans H;rw [hy223];with_reducible exact H2_)|(have H2_:=(Option.bind_some _ _).symm.trans H;with_reducible exact H2_)|with_reducible exact H|(rw [hy223];exact H)|exact H
           have Ny223:=Aside0.mk hy223
           clear hy223
           by_cases c33:1≤(x0_1.length:Int)
           ·rw [if_pos c33] at H
            have c33b0:=eq_true c33
            have c33b1:decide (1≤(x0_1.length:Int))=true:=decide_eq_true c33
            clear c33
            obtain ⟨y226,hy226⟩ : ∃ y_:List (S54),y_=(x0_1.drop 1):=⟨_,rfl⟩
            replace H:(if 1≤(x1_1.length:Int) then (impl_merged_impl_Item__impl_cmpItem_impl_together_1.l0 k1 y226 (x1_1.drop 1) y223) else (none))=some r:=by first|(rw [hy226];with_reducible exact H)|(have H2_:=(Option.bind_some _ _).symm.trans H;rw [hy226];with_reducible exact H2_)|(have H2_:=(Option.bind_some _ _).symm.trans H;with_reducible exact H2_)|with_reducible exact H|(rw [hy226];exact H)|exact H
            have Ny226:=Aside0.mk hy226
            clear hy226
            by_cases c34:1≤(x1_1.length:Int)
            ·rw [if_pos c34] at H
             have c34b0:=eq_true c34
             have c34b1:decide (1≤(x1_1.length:Int))=true:=decide_eq_true c34
             clear c34
             obtain ⟨y231,hy231⟩ : ∃ y_:List (S54),y_=(x1_1.drop 1):=⟨_,rfl⟩
             replace H:(impl_merged_impl_Item__impl_cmpItem_impl_together_1.l0 k1 y226 y231 y223)=some r:=by first|(rw [hy231];with_reducible exact H)|(have H2_:=(Option.bind_some _ _).symm.trans H;rw [hy231];with_reducible exact H2_)|(have H2_:=(Option.bind_some _ _).symm.trans H;with_reducible exact H2_)|with_reducible exact H|(rw [hy231];exact H)|exact H
             have Ny231:=Aside0.mk hy231
             clear hy231
             have H':=Aside0.mk H
             clear H
             obtain ⟨Ao35,co35,eo35⟩:=Kd.V_slice HO_0.out
             subst eo35
             obtain ⟨Ao36,co36,eo36⟩:=Kd.V_slice HO_1.out
             subst eo36
             try go_wp2
             have n0_:=Aside0.mk (Kd.V_drew HO_0.out)
             have n1_:=Aside0.mk (Kd.V_drew HO_1.out)
             have n2_:=Aside0.mk (Kd.N_drew HO_9.out)
             have n3_:=Aside0.mk (below_drew1 HB.out)
             clear HO_0
             clear HO_1
             clear HO_9
             clear HB
             have HO_0:=n0_
             have HO_1:=n1_
             have HO_9:=n2_
             have HB:=n3_
             clear n0_ n1_ n2_ n3_
             have p194:0≤(0:Int):=(by omega)
             have q194:0 < (x0_1.length:Int):=zod
             obtain ⟨ad194,A194_0,c194_0,e194,hx194_0,hx194_1,hl194_0,hi194_0⟩:=at_T54 (Kd.V_reads' HO_0.out).2.2 0 p194 q194
             cases e194
             obtain ⟨ce194,hce194,hMe194,hcc194⟩:=Kd.V_get HO_0.out z54 0 p194 (by first|exact q194|exact zod|(have e_:=(Kd.V_reads' HO_0.out).1;omega))
             obtain ⟨ua194_0,uc194_0,rfl,ul194_0,ge194_0⟩:=k54_openF hMe194
             have hv194_0:=hcc194 0 _ rfl
             rw [Nat.add_zero] at hv194_0
             replace hv194_0:=Option.some.inj (hv194_0.symm.trans hx194_0)
             injection hv194_0 with hva_ hvn_ hvc_
             rw [hva_] at ge194_0
             rw [hvc_] at ul194_0
             have HL194_0:=Aside0.mk (show Kd.V (Kd.int .i64) 3 _ w.heap.size _ _ ((rd_T54 x0_1 0).f0) from Kd.V_mk ul194_0 ge194_0)
             clear hva_ hvn_ hvc_ ge194_0 ul194_0
             clear hcc194 hce194
             have qi194:(0 < x0_1.length)=True:=eq_true (by omega)
             (try rw [show ((0:Int)).toNat=0 from rfl] at hx194_0)
             (try rw [show 0 * 2=0 from rfl] at hx194_0)
             (try rw [Addr.add_zero'] at hx194_0)
             (try rw [show ((0:Int)).toNat=0 from rfl] at hx194_1)
             (try rw [show 0 * 2=0 from rfl] at hx194_1)
             (try rw [Addr.add_zero'] at hx194_1)
             have HR194_0:=Aside0.mk hi194_0
             have HC194_0:=Aside0.mk hl194_0
             clear hi194_0 hl194_0
             replace p194:=eq_true p194
             replace q194:=eq_true q194
             have p195:0≤(0:Int):=(by omega)
             have q195:0 < (x1_1.length:Int):=zod
             obtain ⟨ad195,A195_0,c195_0,e195,hx195_0,hx195_1,hl195_0,hi195_0⟩:=at_T54 (Kd.V_reads' HO_1.out).2.2 0 p195 q195
             cases e195
             obtain ⟨ce195,hce195,hMe195,hcc195⟩:=Kd.V_get HO_1.out z54 0 p195 (by first|exact q195|exact zod|(have e_:=(Kd.V_reads' HO_1.out).1;omega))
             obtain ⟨ua195_0,uc195_0,rfl,ul195_0,ge195_0⟩:=k54_openF hMe195
             have hv195_0:=hcc195 0 _ rfl
             rw [Nat.add_zero] at hv195_0
             replace hv195_0:=Option.some.inj (hv195_0.symm.trans hx195_0)
             injection hv195_0 with hva_ hvn_ hvc_
             rw [hva_] at ge195_0
             rw [hvc_] at ul195_0
             have HL195_0:=Aside0.mk (show Kd.V (Kd.int .i64) 3 _ w.heap.size _ _ ((rd_T54 x1_1 0).f0) from Kd.V_mk ul195_0 ge195_0)
             clear hva_ hvn_ hvc_ ge195_0 ul195_0
             clear hcc195 hce195
             have qi195:(0 < x1_1.length)=True:=eq_true (by omega)
             (try rw [show ((0:Int)).toNat=0 from rfl] at hx195_0)
             (try rw [show 0 * 2=0 from rfl] at hx195_0)
             (try rw [Addr.add_zero'] at hx195_0)
             (try rw [show ((0:Int)).toNat=0 from rfl] at hx195_1)
             (try rw [show 0 * 2=0 from rfl] at hx195_1)
             (try rw [Addr.add_zero'] at hx195_1)
             have HR195_0:=Aside0.mk hi195_0
             have HC195_0:=Aside0.mk hl195_0
             clear hi195_0 hl195_0
             replace p195:=eq_true p195
             replace q195:=eq_true q195
             refine start_ (n:=9) (S:=fun w'=>w'.cell? ad194=some (.slice A194_0 ((rd_T54 x0_1 0).f0).length c194_0)∧w'.cell? ⟨ad194.block,ad194.off + 1,none⟩=some (.int .i64 ((rd_T54 x0_1 0).f1))∧w'.cell? ad195=some (.slice A195_0 ((rd_T54 x1_1 0).f0).length c195_0)∧w'.cell? ⟨ad195.block,ad195.off + 1,none⟩=some (.int .i64 ((rd_T54 x1_1 0).f1))) (ds:=[]) #[X,X,X,X,X,X,X,X,X] (by kernel_rfl) rfl rfl ⟨hx194_0,hx194_1,hx195_0,hx195_1⟩ (fun hHeld=>?_);refine with_tabW impl_merged_impl_Item__impl_cmpItem_impl_together_1.tab3 impl_merged_impl_Item__impl_cmpItem_impl_together_1.bits3 (fun HT_ HW_=>?_)
             generalize wr.drew=w37 at HO_0 HO_1 HO_9 HB HL194_0 HL195_0 HR194_0 HR195_0 hx194_0 hx194_1 hx195_0 hx195_1 hHeld ⊢
             refine pure_ (i:=0) (N:=some 21) (v:=?_) (a':=?_) #[Y,X,X,X,X,X,X,X,X] rfl rfl zan (fun _ _ _ h=>h) (Or.inl ⟨by rfl,?_⟩) ?_ ?_
             rotate_left
             ·intro w'
              go_simp
              with_reducible rfl
             rotate_left
             ·simp only [Act.put,zp1,zp2,zp3,i64_w,i32_w]
              rfl
             refine pure_ (i:=1) (N:=some 22) (v:=?_) (a':=?_) #[Y,Y,X,X,X,X,X,X,X] rfl rfl zan (fun _ _ _ h=>h) (Or.inl ⟨by rfl,?_⟩) ?_ ?_
             rotate_left
             ·intro w'
              go_simp
              with_reducible rfl
             rotate_left
             ·simp only [Act.put,zp1,zp2,zp3,i64_w,i32_w]
              rfl
             refine pure_ (i:=2) (N:=some 23) (v:=?_) (a':=?_) #[Y,Y,Y,X,X,X,X,X,X] rfl rfl zan (fun _ _ _ h=>h) (Or.inl ⟨by rfl,?_⟩) ?_ ?_
             rotate_left
             ·intro w'
              go_simp
              with_reducible rfl
             rotate_left
             ·simp only [Act.put,zp1,zp2,zp3,i64_w,i32_w]
              rfl
             refine pure_ (i:=4) (N:=some 25) (v:=?_) (a':=?_) #[Y,Y,Y,X,Y,X,X,X,X] rfl rfl zan (fun _ _ _ h=>h) (Or.inl ⟨by rfl,?_⟩) ?_ ?_
             rotate_left
             ·intro w'
              go_simp
              with_reducible rfl
             rotate_left
             ·simp only [Act.put,zp1,zp2,zp3,i64_w,i32_w]
              rfl
             refine pure_ (i:=5) (N:=some 26) (v:=?_) (a':=?_) #[Y,Y,Y,X,Y,Y,X,X,X] rfl rfl zan (fun _ _ _ h=>h) (Or.inl ⟨by rfl,?_⟩) ?_ ?_
             rotate_left
             ·intro w'
              go_simp
              with_reducible rfl
             rotate_left
             ·simp only [Act.put,zp1,zp2,zp3,i64_w,i32_w]
              rfl
             refine take_ (i:=3) (N:=some 24) (v:=?_) (a':=?_) #[Y,Y,Y,Y,Y,Y,X,X,X] rfl rfl ztw (fun _ _ _ h=>h) (Or.inl ⟨by rfl,?_⟩) hHeld ?_ ?_
             rotate_left
             ·rintro w' ⟨s0,s1,s2,s3⟩
              go_simp
              with_reducible rfl
             rotate_left
             ·simp only [Act.put,zp1,zp2,zp3,i64_w,i32_w]
              rfl
             refine take_ (i:=6) (N:=some 27) (v:=?_) (a':=?_) #[Y,Y,Y,Y,Y,Y,Y,X,X] rfl rfl ztw (fun _ _ _ h=>h) (Or.inl ⟨by rfl,?_⟩) hHeld ?_ ?_
             rotate_left
             ·rintro w' ⟨s0,s1,s2,s3⟩
              go_simp
              with_reducible rfl
             rotate_left
             ·simp only [Act.put,zp1,zp2,zp3,i64_w,i32_w]
              rfl
             refine one_ (i:=7) (N:=some 28) #[Y,Y,Y,Y,Y,Y,Y,Y,X] rfl rfl (one_of HT_.out (by kernel_rfl)) (by decide) (fun K hK=>?_)
             refine goes_f (.tmp 21) Try.func109 (by kernel_rfl) rfl #[.agg #[.slice A194_0 ((rd_T54 x0_1 0).f0).length c194_0,.int .i64 ((rd_T54 x0_1 0).f1)],.agg #[.slice A195_0 ((rd_T54 x1_1 0).f0).length c195_0,.int .i64 ((rd_T54 x1_1 0).f1)]] (by rfl) rfl rfl rfl zar ?_
             with_reducible refine (impl_cmpItem.calls k1 _ _ ((rd_T54 x0_1 0).f0) ((rd_T54 x0_1 0).f1) _ _ ((rd_T54 x1_1 0).f0) ((rd_T54 x1_1 0).f1) t196 _ ?side1 ?side2 ?side3 ?side4 A9.out).mono ?_
             (case side1=>exact zC (zC HR194_0.out))
             (case side2=>exact HC194_0.out)
             (case side3=>exact zC (zC HR195_0.out))
             (case side4=>exact HC195_0.out)
             rintro e w38 ⟨rfl,hb⟩
             have HS0_:=zhs hb hHeld.1
             have HS1_:=zhs hb hHeld.2.1
             have HS2_:=zhs hb hHeld.2.2.1
             have HS3_:=zhs hb hHeld.2.2.2
             refine ⟨_,rfl,?_⟩
             have n0_:=Aside0.mk (Kd.V_below (zV HO_0.out) hb)
             have n1_:=Aside0.mk (Kd.V_below (zV HO_1.out) hb)
             have n2_:=Aside0.mk (Kd.N_below (zN HO_9.out) hb)
             have n3_:=Aside0.mk (Kd.V_below (zV HL194_0.out) hb)
             have n4_:=Aside0.mk (Kd.V_below (zV HL195_0.out) hb)
             have n5_:=Aside0.mk (Kd.C_below (zC HR194_0.out) hb)
             have n6_:=Aside0.mk (Kd.C_below (zC HR195_0.out) hb)
             have n7_:=Aside0.mk (below_step zhb hb)
             clear HO_0
             clear HO_1
             clear HO_9
             clear HL194_0
             clear HL195_0
             clear HR194_0
             clear HR195_0
             clear HB
             have HO_0:=n0_
             have HO_1:=n1_
             have HO_9:=n2_
             have HL194_0:=n3_
             have HL195_0:=n4_
             have HR194_0:=n5_
             have HR195_0:=n6_
             have HB:=n7_
             clear n0_ n1_ n2_ n3_ n4_ n5_ n6_ n7_
             (try clear hb)
             (try clear hb2)
             (try clear hk)
             (try clear hi)
             refine hK.out _ _ ⟨HS0_,HS1_,HS2_,HS3_⟩ (fun hHeld=>?_)
             clear hK K
             refine norm_ (a':=?_) ?_ ?_
             rotate_left
             ·show Act.put _ (some 28) _=_
              simp only [Act.put,zp1,zp2,zp3,i64_w,i32_w]
              rfl
             refine pure_ (i:=8) (N:=some 10) (v:=?_) (a':=?_) #[Y,Y,Y,Y,Y,Y,Y,Y,Y] rfl rfl zan (fun _ _ _ h=>h) (Or.inl ⟨by rfl,?_⟩) ?_ ?_
             rotate_left
             ·intro w'
              go_simp
              with_reducible rfl
             rotate_left
             ·simp only [Act.put,zp1,zp2,zp3,i64_w,i32_w]
              rfl
             refine done_ (done_of HT_.out (by kernel_rfl)) ?_
             try go_wp2
             have n0_:=Aside0.mk (Kd.V_drew HO_0.out)
             have n1_:=Aside0.mk (Kd.V_drew HO_1.out)
             have n2_:=Aside0.mk (Kd.N_drew HO_9.out)
             have n3_:=Aside0.mk (Kd.V_drew HL194_0.out)
             have n4_:=Aside0.mk (Kd.V_drew HL195_0.out)
             have n5_:=Aside0.mk (Kd.C_drew HR194_0.out)
             have n6_:=Aside0.mk (Kd.C_drew HR195_0.out)
             have n7_:=Aside0.mk (below_drew1 HB.out)
             clear HO_0
             clear HO_1
             clear HO_9
             clear HL194_0
             clear HL195_0
             clear HR194_0
             clear HR195_0
             clear HB
             have HO_0:=n0_
             have HO_1:=n1_
             have HO_9:=n2_
             have HL194_0:=n3_
             have HL195_0:=n4_
             have HR194_0:=n5_
             have HR195_0:=n6_
             have HB:=n7_
             clear n0_ n1_ n2_ n3_ n4_ n5_ n6_ n7_
             have p215:0≤(0:Int):=(by omega)
             have q215:0 < (x0_1.length:Int):=zod
             obtain ⟨ad215,A215_0,c215_0,e215,hx215_0,hx215_1,hl215_0,hi215_0⟩:=at_T54 (Kd.V_reads' HO_0.out).2.2 0 p215 q215
             obtain rfl:ad194=ad215:=(by injection e215)
             obtain ⟨ce215,hce215,hMe215,hcc215⟩:=Kd.V_get HO_0.out z54 0 p215 (by first|exact q215|exact zod|(have e_:=(Kd.V_reads' HO_0.out).1;omega))
             obtain ⟨ua215_0,uc215_0,rfl,ul215_0,ge215_0⟩:=k54_openF hMe215
             have hv215_0:=hcc215 0 _ rfl
             rw [Nat.add_zero] at hv215_0
             replace hv215_0:=Option.some.inj (hv215_0.symm.trans hx215_0)
             injection hv215_0 with hva_ hvn_ hvc_
             rw [hva_] at ge215_0
             rw [hvc_] at ul215_0
             have HL215_0:=Aside0.mk (show Kd.V (Kd.int .i64) 3 _ w.heap.size _ _ ((rd_T54 x0_1 0).f0) from Kd.V_mk ul215_0 ge215_0)
             clear hva_ hvn_ hvc_ ge215_0 ul215_0
             clear hcc215 hce215
             have qi215:(0 < x0_1.length)=True:=eq_true (by omega)
             (try rw [show ((0:Int)).toNat=0 from rfl] at hx215_0)
             (try rw [show 0 * 2=0 from rfl] at hx215_0)
             (try rw [Addr.add_zero'] at hx215_0)
             (try rw [show ((0:Int)).toNat=0 from rfl] at hx215_1)
             (try rw [show 0 * 2=0 from rfl] at hx215_1)
             (try rw [Addr.add_zero'] at hx215_1)
             have HR215_0:=Aside0.mk hi215_0
             have HC215_0:=Aside0.mk hl215_0
             clear hi215_0 hl215_0
             replace p215:=eq_true p215
             replace q215:=eq_true q215
             have p216:0≤(0:Int):=(by omega)
             have q216:0 < (x1_1.length:Int):=zod
             obtain ⟨ad216,A216_0,c216_0,e216,hx216_0,hx216_1,hl216_0,hi216_0⟩:=at_T54 (Kd.V_reads' HO_1.out).2.2 0 p216 q216
             obtain rfl:ad195=ad216:=(by injection e216)
             obtain ⟨ce216,hce216,hMe216,hcc216⟩:=Kd.V_get HO_1.out z54 0 p216 (by first|exact q216|exact zod|(have e_:=(Kd.V_reads' HO_1.out).1;omega))
             obtain ⟨ua216_0,uc216_0,rfl,ul216_0,ge216_0⟩:=k54_openF hMe216
             have hv216_0:=hcc216 0 _ rfl
             rw [Nat.add_zero] at hv216_0
             replace hv216_0:=Option.some.inj (hv216_0.symm.trans hx216_0)
             injection hv216_0 with hva_ hvn_ hvc_
             rw [hva_] at ge216_0
             rw [hvc_] at ul216_0
             have HL216_0:=Aside0.mk (show Kd.V (Kd.int .i64) 3 _ w.heap.size _ _ ((rd_T54 x1_1 0).f0) from Kd.V_mk ul216_0 ge216_0)
             clear hva_ hvn_ hvc_ ge216_0 ul216_0
             clear hcc216 hce216
             have qi216:(0 < x1_1.length)=True:=eq_true (by omega)
             (try rw [show ((0:Int)).toNat=0 from rfl] at hx216_0)
             (try rw [show 0 * 2=0 from rfl] at hx216_0)
             (try rw [Addr.add_zero'] at hx216_0)
             (try rw [show ((0:Int)).toNat=0 from rfl] at hx216_1)
             (try rw [show 0 * 2=0 from rfl] at hx216_1)
             (try rw [Addr.add_zero'] at hx216_1)
             have HR216_0:=Aside0.mk hi216_0
             have HC216_0:=Aside0.mk hl216_0
             clear hi216_0 hl216_0
             replace p216:=eq_true p216
             replace q216:=eq_true q216
             refine start_ (n:=14) (S:=fun w'=>w'.cell? ad194=some (.slice A215_0 ((rd_T54 x0_1 0).f0).length c215_0)∧w'.cell? ⟨ad194.block,ad194.off + 1,none⟩=some (.int .i64 ((rd_T54 x0_1 0).f1))∧w'.cell? ad195=some (.slice A216_0 ((rd_T54 x1_1 0).f0).length c216_0)∧w'.cell? ⟨ad195.block,ad195.off + 1,none⟩=some (.int .i64 ((rd_T54 x1_1 0).f1))) (ds:=[]) #[X,X,X,X,X,X,X,X,X,X,X,X,X,X] (by kernel_rfl) rfl rfl ⟨hx215_0,hx215_1,hx216_0,hx216_1⟩ (fun hHeld=>?_);refine with_tabW impl_merged_impl_Item__impl_cmpItem_impl_together_1.tab4 impl_merged_impl_Item__impl_cmpItem_impl_together_1.bits4 (fun HT_ HW_=>?_)
             generalize w38.drew=w39 at HO_0 HO_1 HO_9 HL194_0 HL195_0 HR194_0 HR195_0 HB HL215_0 HL216_0 HR215_0 HR216_0 hx215_0 hx215_1 hx216_0 hx216_1 hHeld ⊢
             refine pure_ (i:=0) (N:=some 30) (v:=?_) (a':=?_) #[Y,X,X,X,X,X,X,X,X,X,X,X,X,X] rfl rfl zan (fun _ _ _ h=>h) (Or.inl ⟨by rfl,?_⟩) ?_ ?_
             rotate_left
             ·intro w'
              go_simp
              with_reducible rfl
             rotate_left
             ·simp only [Act.put,zp1,zp2,zp3,i64_w,i32_w]
              rfl
             refine pure_ (i:=1) (N:=some 31) (v:=?_) (a':=?_) #[Y,Y,X,X,X,X,X,X,X,X,X,X,X,X] rfl rfl zan (fun _ _ _ h=>h) (Or.inl ⟨by rfl,?_⟩) ?_ ?_
             rotate_left
             ·intro w'
              go_simp
              with_reducible rfl
             rotate_left
             ·simp only [Act.put,zp1,zp2,zp3,i64_w,i32_w]
              rfl
             refine pure_ (i:=2) (N:=some 32) (v:=?_) (a':=?_) #[Y,Y,Y,X,X,X,X,X,X,X,X,X,X,X] rfl rfl zan (fun _ _ _ h=>h) (Or.inl ⟨by rfl,?_⟩) ?_ ?_
             rotate_left
             ·intro w'
              go_simp
              with_reducible rfl
             rotate_left
             ·simp only [Act.put,zp1,zp2,zp3,i64_w,i32_w]
              rfl
             refine pure_ (i:=4) (N:=some 34) (v:=?_) (a':=?_) #[Y,Y,Y,X,Y,X,X,X,X,X,X,X,X,X] rfl rfl zan (fun _ _ _ h=>h) (Or.inl ⟨by rfl,?_⟩) ?_ ?_
             rotate_left
             ·intro w'
              go_simp
              with_reducible rfl
             rotate_left
             ·simp only [Act.put,zp1,zp2,zp3,i64_w,i32_w]
              rfl
             refine pure_ (i:=5) (N:=some 35) (v:=?_) (a':=?_) #[Y,Y,Y,X,Y,Y,X,X,X,X,X,X,X,X] rfl rfl zan (fun _ _ _ h=>h) (Or.inl ⟨by rfl,?_⟩) ?_ ?_
             rotate_left
             ·intro w'
              go_simp
              with_reducible rfl
             rotate_left
             ·simp only [Act.put,zp1,zp2,zp3,i64_w,i32_w]
              rfl
             refine take_ (i:=3) (N:=some 33) (v:=?_) (a':=?_) #[Y,Y,Y,Y,Y,Y,X,X,X,X,X,X,X,X] rfl rfl ztw (fun _ _ _ h=>h) (Or.inl ⟨by rfl,?_⟩) hHeld ?_ ?_
             rotate_left
             ·rintro w' ⟨s0,s1,s2,s3⟩
              go_simp
              with_reducible rfl
             rotate_left
             ·simp only [Act.put,zp1,zp2,zp3,i64_w,i32_w]
              rfl
             refine take_ (i:=6) (N:=some 36) (v:=?_) (a':=?_) #[Y,Y,Y,Y,Y,Y,Y,X,X,X,X,X,X,X] rfl rfl ztw (fun _ _ _ h=>h) (Or.inl ⟨by rfl,?_⟩) hHeld ?_ ?_
             rotate_left
             ·rintro w' ⟨s0,s1,s2,s3⟩
              go_simp
              with_reducible rfl
             rotate_left
             ·simp only [Act.put,zp1,zp2,zp3,i64_w,i32_w]
              rfl
             refine join_ (σ:=Value × Nat) 2 #[Y,Y,Y,Y,Y,Y,Y,Y,Y,Y,Y,Y,X,X] (fun s_=>[(37,.tuple #[.agg #[s_.1,.int .i64 t220],.bool true]),(11,.pointer (some ⟨s_.2,0,none⟩)),(29,.tuple #[.agg #[s_.1,.int .i64 t220],.bool true]),(38,.agg #[s_.1,.int .i64 t220]),(39,.bool true)]) (fun s_ w'=>(w'.cell? ad194=some (.slice A215_0 ((rd_T54 x0_1 0).f0).length c215_0)∧w'.cell? ⟨ad194.block,ad194.off + 1,none⟩=some (.int .i64 ((rd_T54 x0_1 0).f1))∧w'.cell? ad195=some (.slice A216_0 ((rd_T54 x1_1 0).f0).length c216_0)∧w'.cell? ⟨ad195.block,ad195.off + 1,none⟩=some (.int .i64 ((rd_T54 x1_1 0).f1)))∧(Kd.V (Kd.int .i64) 3 w' w.heap.size (fun k_=>((P0_ k_∨P1_ k_)∨w.heap.size≤k_)∧some k_≠(u9:Value).ownBlock∧k_≠s_.2) (.slice A194_0 ((rd_T54 x0_1 0).f0).length c194_0) ((rd_T54 x0_1 0).f0))∧(Kd.V (Kd.int .i64) 3 w' w.heap.size (fun k_=>((P0_ k_∨P1_ k_)∨w.heap.size≤k_)∧some k_≠(u9:Value).ownBlock∧k_≠s_.2) (.slice A195_0 ((rd_T54 x1_1 0).f0).length c195_0) ((rd_T54 x1_1 0).f0))∧(Kd.V (Kd.int .i64) 3 w' w.heap.size (fun k_=>((P0_ k_∨P1_ k_)∨w.heap.size≤k_)∧some k_≠(u9:Value).ownBlock∧k_≠s_.2) (.slice A215_0 ((rd_T54 x0_1 0).f0).length c215_0) ((rd_T54 x0_1 0).f0))∧(Kd.V (Kd.int .i64) 3 w' w.heap.size (fun k_=>((P0_ k_∨P1_ k_)∨w.heap.size≤k_)∧some k_≠(u9:Value).ownBlock∧k_≠s_.2) (.slice A216_0 ((rd_T54 x1_1 0).f0).length c216_0) ((rd_T54 x1_1 0).f0))∧(Kd.V (Kd.int .i64) 3 w' w.heap.size (fun k_=>((P0_ k_∨P1_ k_)∨w.heap.size≤k_)∧some k_≠(u9:Value).ownBlock∧k_≠s_.2) s_.1 t217)∧(Kd.V k54 54 w' w.heap.size (fun k_=>((P0_ k_∨P1_ k_)∨w.heap.size≤k_)∧some k_≠(u9:Value).ownBlock∧k_≠s_.2) (.slice (some ad194) x0_1.length co35) x0_1)∧(Kd.V k54 54 w' w.heap.size (fun k_=>((P0_ k_∨P1_ k_)∨w.heap.size≤k_)∧some k_≠(u9:Value).ownBlock∧k_≠s_.2) (.slice (some ad195) x1_1.length co36) x1_1)∧(Kd.N k54 54 w' w.heap.size (fun k_=>((P0_ k_∨P1_ k_)∨w.heap.size≤k_)∧k_≠s_.2) u9 x9_1)∧(w'.heap[s_.2]?=some (.cells #[.slice none 0 0,.int .i64 0] 54 (0,0)))∧(w.heap.size≤s_.2)∧(w.heap.size≤s_.2)∧(Below w.heap.size w w')) ?_ ?_
             rotate_left
             ·intro hCont
              refine two_ (i:=7) (j:=11) (Ni:=some 37) (Nj:=some 11) #[Y,Y,Y,Y,Y,Y,Y,Y,X,X,X,X,X,X] #[Y,Y,Y,Y,Y,Y,Y,X,X,X,X,Y,X,X] rfl rfl rfl rfl (two_of HT_.out (by kernel_rfl)) (by decide) (by decide) (fun K hK=>?_) (fun K hK=>?_)
              ·skip
               refine goes_f (.tmp 30) Try.func110 (by kernel_rfl) rfl #[.agg #[.slice A215_0 ((rd_T54 x0_1 0).f0).length c215_0,.int .i64 ((rd_T54 x0_1 0).f1)],.agg #[.slice A216_0 ((rd_T54 x1_1 0).f0).length c216_0,.int .i64 ((rd_T54 x1_1 0).f1)]] (by rfl) rfl rfl rfl zar ?_
               with_reducible refine (impl_together_1.calls (fun k_=>(((P0_ k_∨P1_ k_)∨w.heap.size≤k_)∧some k_≠(u9:Value).ownBlock)) _ _ ((rd_T54 x0_1 0).f0) ((rd_T54 x0_1 0).f1) _ _ ((rd_T54 x1_1 0).f0) ((rd_T54 x1_1 0).f1) t217 t220 true _ ?side1 ?side2 ?side3 A30.out).mono ?_
               (case side1=>exact HL215_0.out)
               (case side2=>exact zC (zC HR216_0.out))
               (case side3=>exact HC216_0.out)
               rintro e w40 ⟨v218,rfl,ho0,hb⟩
               have HS0_:=zhs hb hHeld.1
               have HS1_:=zhs hb hHeld.2.1
               have HS2_:=zhs hb hHeld.2.2.1
               have HS3_:=zhs hb hHeld.2.2.2
               refine ⟨_,rfl,?_⟩
               have n0_:=Aside0.mk (Kd.V_below (zV HO_0.out) hb)
               have n1_:=Aside0.mk (Kd.V_below (zV HO_1.out) hb)
               have n2_:=Aside0.mk (Kd.N_below (zN HO_9.out) hb)
               have n3_:=Aside0.mk (Kd.V_below (zV HL194_0.out) hb)
               have n4_:=Aside0.mk (Kd.V_below (zV HL195_0.out) hb)
               have n5_:=Aside0.mk (Kd.V_below (zV HL215_0.out) hb)
               have n6_:=Aside0.mk (Kd.V_below (zV HL216_0.out) hb)
               have n7_:=Aside0.mk (Kd.V_lower (Kd.V_mono (ok':=fun k_=>((P0_ k_∨P1_ k_)∨w.heap.size≤k_)∧some k_≠(u9:Value).ownBlock) ho0 (fun k_ hk_=>⟨Or.elim hk_ (fun hs_=>hs_.1) (fun hn_=>(.inr (Nat.le_trans (below_size zhb) hn_))),Or.elim hk_ (fun hs_=>hs_.2) (fun hn_=>(Kd.fresh' (Kd.N_lt (zN HO_9.out)) k_ hn_))⟩)) (below_size zhb))
               have n8_:=Aside0.mk (Kd.C_below (zC HR194_0.out) hb)
               have n9_:=Aside0.mk (Kd.C_below (zC HR195_0.out) hb)
               have n10_:=Aside0.mk (Kd.C_below (zC HR215_0.out) hb)
               have n11_:=Aside0.mk (Kd.C_below (zC HR216_0.out) hb)
               have n12_:=Aside0.mk (below_step zhb hb)
               clear HO_0
               clear HO_1
               clear HO_9
               clear HL194_0
               clear HL195_0
               clear HL215_0
               clear HL216_0
               clear HR194_0
               clear HR195_0
               clear HR215_0
               clear HR216_0
               clear HB
               have HO_0:=n0_
               have HO_1:=n1_
               have HO_9:=n2_
               have HL194_0:=n3_
               have HL195_0:=n4_
               have HL215_0:=n5_
               have HL216_0:=n6_
               have HO219:=n7_
               have HR194_0:=n8_
               have HR195_0:=n9_
               have HR215_0:=n10_
               have HR216_0:=n11_
               have HB:=n12_
               clear n0_ n1_ n2_ n3_ n4_ n5_ n6_ n7_ n8_ n9_ n10_ n11_ n12_
               (try clear hb)
               (try clear hb2)
               (try clear hk)
               (try clear hi)
               (try clear ho0)
               refine hK.out _ _ ⟨HS0_,HS1_,HS2_,HS3_⟩ (fun hHeld=>?_)
               clear hK K
               refine norm_ (a':=?_) ?_ ?_
               rotate_left
               ·show Act.put _ (some 37) _=_
                simp only [Act.put,zp1,zp2,zp3,i64_w,i32_w]
                rfl
               refine pure_ (i:=8) (N:=some 29) (v:=?_) (a':=?_) #[Y,Y,Y,Y,Y,Y,Y,Y,Y,X,X,X,X,X] rfl rfl zan (fun _ _ _ h=>h) (Or.inl ⟨by rfl,?_⟩) ?_ ?_
               rotate_left
               ·intro w'
                go_simp
                with_reducible rfl
               rotate_left
               ·simp only [Act.put,zp1,zp2,zp3,i64_w,i32_w]
                rfl
               refine pure_ (i:=9) (N:=some 38) (v:=?_) (a':=?_) #[Y,Y,Y,Y,Y,Y,Y,Y,Y,Y,X,X,X,X] rfl rfl zan (fun _ _ _ h=>h) (Or.inl ⟨by rfl,?_⟩) ?_ ?_
               rotate_left
               ·intro w'
                go_simp
                with_reducible rfl
               rotate_left
               ·simp only [Act.put,zp1,zp2,zp3,i64_w,i32_w]
                rfl
               refine pure_ (i:=10) (N:=some 39) (v:=?_) (a':=?_) #[Y,Y,Y,Y,Y,Y,Y,Y,Y,Y,Y,X,X,X] rfl rfl zan (fun _ _ _ h=>h) (Or.inl ⟨by rfl,?_⟩) ?_ ?_
               rotate_left
               ·intro w'
                go_simp
                with_reducible rfl
               rotate_left
               ·simp only [Act.put,zp1,zp2,zp3,i64_w,i32_w]
                rfl
               refine one_ (i:=11) (N:=some 11) #[Y,Y,Y,Y,Y,Y,Y,Y,Y,Y,Y,Y,X,X] rfl rfl (one_of HT_.out (by kernel_rfl)) (by decide) (fun K hK=>?_)
               refine box_step ?hg (N:=11) ?hd (cs:=#[.slice none 0 0,.int .i64 0]) (t:=54) ?hr ?_;(case hd=>rfl);(case hg=>rfl);(case hr=>first|(go_simp;done)|(go_simp;rfl))
               intro gb222 hg w41 hbox hb
               have HS0_:=zhs hb hHeld.1
               have HS1_:=zhs hb hHeld.2.1
               have HS2_:=zhs hb hHeld.2.2.1
               have HS3_:=zhs hb hHeld.2.2.2
               have n0_:=Aside0.mk (Kd.V_below (Kd.V_elderB (zV HO_0.out) gb222 (Nat.le_of_eq hg.symm)) hb)
               have n1_:=Aside0.mk (Kd.V_below (Kd.V_elderB (zV HO_1.out) gb222 (Nat.le_of_eq hg.symm)) hb)
               have n2_:=Aside0.mk (Kd.N_below (Kd.N_elderB (zN HO_9.out) gb222 (Nat.le_of_eq hg.symm)) hb)
               have n3_:=Aside0.mk (Kd.V_below (Kd.V_elderB (zV HL194_0.out) gb222 (Nat.le_of_eq hg.symm)) hb)
               have n4_:=Aside0.mk (Kd.V_below (Kd.V_elderB (zV HL195_0.out) gb222 (Nat.le_of_eq hg.symm)) hb)
               have n5_:=Aside0.mk (Kd.V_below (Kd.V_elderB (zV HL215_0.out) gb222 (Nat.le_of_eq hg.symm)) hb)
               have n6_:=Aside0.mk (Kd.V_below (Kd.V_elderB (zV HL216_0.out) gb222 (Nat.le_of_eq hg.symm)) hb)
               have n7_:=Aside0.mk (Kd.V_below (Kd.V_elderB (zV HO219.out) gb222 (Nat.le_of_eq hg.symm)) hb)
               have n8_:=Aside0.mk (Kd.C_below (zC HR194_0.out) hb)
               have n9_:=Aside0.mk (Kd.C_below (zC HR195_0.out) hb)
               have n10_:=Aside0.mk (Kd.C_below (zC HR215_0.out) hb)
               have n11_:=Aside0.mk (Kd.C_below (zC HR216_0.out) hb)
               have n12_:=Aside0.mk (below_step zhb hb)
               have n13_:=Aside0.mk (hbox)
               have n14_:=Aside0.mk ((by rw [hg];exact (below_size zhb):w.heap.size≤gb222))
               have n15_:=Aside0.mk ((by rw [hg];exact (below_size zhb):w.heap.size≤gb222))
               clear HO_0
               clear HO_1
               clear HO_9
               clear HL194_0
               clear HL195_0
               clear HL215_0
               clear HL216_0
               clear HO219
               clear HR194_0
               clear HR195_0
               clear HR215_0
               clear HR216_0
               clear HB
               have HO_0:=n0_
               have HO_1:=n1_
               have HO_9:=n2_
               have HL194_0:=n3_
               have HL195_0:=n4_
               have HL215_0:=n5_
               have HL216_0:=n6_
               have HO219:=n7_
               have HR194_0:=n8_
               have HR195_0:=n9_
               have HR215_0:=n10_
               have HR216_0:=n11_
               have HB:=n12_
               have BK222:=n13_
               have GW222:=n14_
               have GE222:=n15_
               clear n0_ n1_ n2_ n3_ n4_ n5_ n6_ n7_ n8_ n9_ n10_ n11_ n12_ n13_ n14_ n15_
               clear hb hbox hg
               refine hK.out _ _ ⟨HS0_,HS1_,HS2_,HS3_⟩ (fun hHeld=>?_)
               clear hK K
               refine norm_ (a':=?_) ?_ ?_
               rotate_left
               ·show Act.put _ (some 11) _=_
                simp only [Act.put,zp1,zp2,zp3,i64_w,i32_w]
                rfl
               exact norm_ (by simp only [putAll,Act.put,zp1,zp2,zp3]) (hCont (v218,gb222) _ ⟨hHeld,(by (with_reducible repeat (first|apply Kd.V_alloc|apply Kd.V_drewN|apply Kd.V_drew));exact Kd.V_mono HL194_0.out (fun _ hk=>⟨hk.1.1,⟨hk.1.2,hk.2⟩⟩)),(by (with_reducible repeat (first|apply Kd.V_alloc|apply Kd.V_drewN|apply Kd.V_drew));exact Kd.V_mono HL195_0.out (fun _ hk=>⟨hk.1.1,⟨hk.1.2,hk.2⟩⟩)),(by (with_reducible repeat (first|apply Kd.V_alloc|apply Kd.V_drewN|apply Kd.V_drew));exact Kd.V_mono HL215_0.out (fun _ hk=>⟨hk.1.1,⟨hk.1.2,hk.2⟩⟩)),(by (with_reducible repeat (first|apply Kd.V_alloc|apply Kd.V_drewN|apply Kd.V_drew));exact Kd.V_mono HL216_0.out (fun _ hk=>⟨hk.1.1,⟨hk.1.2,hk.2⟩⟩)),(by (with_reducible repeat (first|apply Kd.V_alloc|apply Kd.V_drewN|apply Kd.V_drew));exact Kd.V_mono HO219.out (fun _ hk=>⟨hk.1.1,⟨hk.1.2,hk.2⟩⟩)),(by (with_reducible repeat (first|apply Kd.V_alloc|apply Kd.V_drewN|apply Kd.V_drew));exact Kd.V_mono HO_0.out (fun _ hk=>⟨hk.1.1,⟨hk.1.2,hk.2⟩⟩)),(by (with_reducible repeat (first|apply Kd.V_alloc|apply Kd.V_drewN|apply Kd.V_drew));exact Kd.V_mono HO_1.out (fun _ hk=>⟨hk.1.1,⟨hk.1.2,hk.2⟩⟩)),(zN HO_9.out),(by (with_reducible repeat (first|refine blk_drewN ?_ _|refine blk_drew ?_|refine blk_alloc ?_ _));exact BK222.out),GW222.out,GE222.out,(by repeat (first|(with_reducible first|exact HB.out|apply below_alloc|apply pw_below_drewN|apply below_drew1|refine below_set ?_ GE222.out)|exact HB.out))⟩)
              ·skip
               refine box_step ?hg (N:=11) ?hd (cs:=#[.slice none 0 0,.int .i64 0]) (t:=54) ?hr ?_;(case hd=>rfl);(case hg=>rfl);(case hr=>first|(go_simp;done)|(go_simp;rfl))
               intro gb222 hg w40 hbox hb
               have HS0_:=zhs hb hHeld.1
               have HS1_:=zhs hb hHeld.2.1
               have HS2_:=zhs hb hHeld.2.2.1
               have HS3_:=zhs hb hHeld.2.2.2
               have n0_:=Aside0.mk (Kd.V_below (Kd.V_elderB (zV HO_0.out) gb222 (Nat.le_of_eq hg.symm)) hb)
               have n1_:=Aside0.mk (Kd.V_below (Kd.V_elderB (zV HO_1.out) gb222 (Nat.le_of_eq hg.symm)) hb)
               have n2_:=Aside0.mk (Kd.N_below (Kd.N_elderB (zN HO_9.out) gb222 (Nat.le_of_eq hg.symm)) hb)
               have n3_:=Aside0.mk (Kd.V_below (Kd.V_elderB (zV HL194_0.out) gb222 (Nat.le_of_eq hg.symm)) hb)
               have n4_:=Aside0.mk (Kd.V_below (Kd.V_elderB (zV HL195_0.out) gb222 (Nat.le_of_eq hg.symm)) hb)
               have n5_:=Aside0.mk (Kd.V_below (Kd.V_elderB (zV HL215_0.out) gb222 (Nat.le_of_eq hg.symm)) hb)
               have n6_:=Aside0.mk (Kd.V_below (Kd.V_elderB (zV HL216_0.out) gb222 (Nat.le_of_eq hg.symm)) hb)
               have n7_:=Aside0.mk (Kd.C_below (zC HR194_0.out) hb)
               have n8_:=Aside0.mk (Kd.C_below (zC HR195_0.out) hb)
               have n9_:=Aside0.mk (Kd.C_below (zC HR215_0.out) hb)
               have n10_:=Aside0.mk (Kd.C_below (zC HR216_0.out) hb)
               have n11_:=Aside0.mk (below_step zhb hb)
               have n12_:=Aside0.mk (hbox)
               have n13_:=Aside0.mk ((by rw [hg];exact (below_size zhb):w.heap.size≤gb222))
               have n14_:=Aside0.mk ((by rw [hg];exact (below_size zhb):w.heap.size≤gb222))
               clear HO_0
               clear HO_1
               clear HO_9
               clear HL194_0
               clear HL195_0
               clear HL215_0
               clear HL216_0
               clear HR194_0
               clear HR195_0
               clear HR215_0
               clear HR216_0
               clear HB
               have HO_0:=n0_
               have HO_1:=n1_
               have HO_9:=n2_
               have HL194_0:=n3_
               have HL195_0:=n4_
               have HL215_0:=n5_
               have HL216_0:=n6_
               have HR194_0:=n7_
               have HR195_0:=n8_
               have HR215_0:=n9_
               have HR216_0:=n10_
               have HB:=n11_
               have BK222:=n12_
               have GW222:=n13_
               have GE222:=n14_
               clear n0_ n1_ n2_ n3_ n4_ n5_ n6_ n7_ n8_ n9_ n10_ n11_ n12_ n13_ n14_
               clear hb hbox hg
               refine hK.out _ _ ⟨HS0_,HS1_,HS2_,HS3_⟩ (fun hHeld=>?_)
               clear hK K
               refine norm_ (a':=?_) ?_ ?_
               rotate_left
               ·show Act.put _ (some 11) _=_
                simp only [Act.put,zp1,zp2,zp3,i64_w,i32_w]
                rfl
               refine one_ (i:=7) (N:=some 37) #[Y,Y,Y,Y,Y,Y,Y,Y,X,X,X,Y,X,X] rfl rfl (one_of HT_.out (by kernel_rfl)) (by decide) (fun K hK=>?_)
               refine goes_f (.tmp 30) Try.func110 (by kernel_rfl) rfl #[.agg #[.slice A215_0 ((rd_T54 x0_1 0).f0).length c215_0,.int .i64 ((rd_T54 x0_1 0).f1)],.agg #[.slice A216_0 ((rd_T54 x1_1 0).f0).length c216_0,.int .i64 ((rd_T54 x1_1 0).f1)]] (by rfl) rfl rfl rfl zar ?_
               with_reducible refine (impl_together_1.calls (fun k_=>((((P0_ k_∨P1_ k_)∨w.heap.size≤k_)∧some k_≠(u9:Value).ownBlock)∧k_≠gb222)) _ _ ((rd_T54 x0_1 0).f0) ((rd_T54 x0_1 0).f1) _ _ ((rd_T54 x1_1 0).f0) ((rd_T54 x1_1 0).f1) t217 t220 true _ ?side1 ?side2 ?side3 A30.out).mono ?_
               (case side1=>exact HL215_0.out)
               (case side2=>exact zC (zC HR216_0.out))
               (case side3=>exact HC216_0.out)
               rintro e w41 ⟨v218,rfl,ho0,hb⟩
               have HS0_:=zhs hb hHeld.1
               have HS1_:=zhs hb hHeld.2.1
               have HS2_:=zhs hb hHeld.2.2.1
               have HS3_:=zhs hb hHeld.2.2.2
               refine ⟨_,rfl,?_⟩
               have n0_:=Aside0.mk (Kd.V_below (zV HO_0.out) hb)
               have n1_:=Aside0.mk (Kd.V_below (zV HO_1.out) hb)
               have n2_:=Aside0.mk (Kd.N_below (zN HO_9.out) hb)
               have n3_:=Aside0.mk (Kd.V_below (zV HL194_0.out) hb)
               have n4_:=Aside0.mk (Kd.V_below (zV HL195_0.out) hb)
               have n5_:=Aside0.mk (Kd.V_below (zV HL215_0.out) hb)
               have n6_:=Aside0.mk (Kd.V_below (zV HL216_0.out) hb)
               have n7_:=Aside0.mk (Kd.V_lower (Kd.V_mono (ok':=fun k_=>((P0_ k_∨P1_ k_)∨w.heap.size≤k_)∧some k_≠(u9:Value).ownBlock∧k_≠gb222) ho0 (fun k_ hk_=>⟨Or.elim hk_ (fun hs_=>hs_.1.1) (fun hn_=>(.inr (Nat.le_trans (below_size (by repeat (first|(with_reducible first|exact HB.out|apply below_alloc|apply pw_below_drewN|apply below_drew1|refine below_set ?_ GE222.out)|exact HB.out))) hn_))),Or.elim hk_ (fun hs_=>hs_.1.2) (fun hn_=>(Kd.fresh' (Kd.N_lt (zN HO_9.out)) k_ hn_)),Or.elim hk_ (fun hs_=>hs_.2) (fun hn_=>(Kd.freshB (g:=gb222) (o:=.cells #[.slice none 0 0,.int .i64 0] 54 (0,0)) (by (with_reducible repeat (first|refine blk_drewN ?_ _|refine blk_drew ?_|refine blk_alloc ?_ _));exact BK222.out) k_ hn_))⟩)) (below_size (by repeat (first|(with_reducible first|exact HB.out|apply below_alloc|apply pw_below_drewN|apply below_drew1|refine below_set ?_ GE222.out)|exact HB.out))))
               have n8_:=Aside0.mk (Kd.C_below (zC HR194_0.out) hb)
               have n9_:=Aside0.mk (Kd.C_below (zC HR195_0.out) hb)
               have n10_:=Aside0.mk (Kd.C_below (zC HR215_0.out) hb)
               have n11_:=Aside0.mk (Kd.C_below (zC HR216_0.out) hb)
               have n12_:=Aside0.mk (blk_below (g:=gb222) (o:=.cells #[.slice none 0 0,.int .i64 0] 54 (0,0)) (by (with_reducible repeat (first|refine blk_drewN ?_ _|refine blk_drew ?_|refine blk_alloc ?_ _));exact BK222.out) hb)
               have n13_:=Aside0.mk (below_step (by repeat (first|(with_reducible first|exact HB.out|apply below_alloc|apply pw_below_drewN|apply below_drew1|refine below_set ?_ GE222.out)|exact HB.out)) hb)
               clear HO_0
               clear HO_1
               clear HO_9
               clear HL194_0
               clear HL195_0
               clear HL215_0
               clear HL216_0
               clear HR194_0
               clear HR195_0
               clear HR215_0
               clear HR216_0
               clear BK222
               clear HB
               have HO_0:=n0_
               have HO_1:=n1_
               have HO_9:=n2_
               have HL194_0:=n3_
               have HL195_0:=n4_
               have HL215_0:=n5_
               have HL216_0:=n6_
               have HO219:=n7_
               have HR194_0:=n8_
               have HR195_0:=n9_
               have HR215_0:=n10_
               have HR216_0:=n11_
               have BK222:=n12_
               have HB:=n13_
               clear n0_ n1_ n2_ n3_ n4_ n5_ n6_ n7_ n8_ n9_ n10_ n11_ n12_ n13_
               (try clear hb)
               (try clear hb2)
               (try clear hk)
               (try clear hi)
               (try clear ho0)
               refine hK.out _ _ ⟨HS0_,HS1_,HS2_,HS3_⟩ (fun hHeld=>?_)
               clear hK K
               refine norm_ (a':=?_) ?_ ?_
               rotate_left
               ·show Act.put _ (some 37) _=_
                simp only [Act.put,zp1,zp2,zp3,i64_w,i32_w]
                rfl
               refine pure_ (i:=8) (N:=some 29) (v:=?_) (a':=?_) #[Y,Y,Y,Y,Y,Y,Y,Y,Y,X,X,Y,X,X] rfl rfl zan (fun _ _ _ h=>h) (Or.inl ⟨by rfl,?_⟩) ?_ ?_
               rotate_left
               ·intro w'
                go_simp
                with_reducible rfl
               rotate_left
               ·simp only [Act.put,zp1,zp2,zp3,i64_w,i32_w]
                rfl
               refine pure_ (i:=9) (N:=some 38) (v:=?_) (a':=?_) #[Y,Y,Y,Y,Y,Y,Y,Y,Y,Y,X,Y,X,X] rfl rfl zan (fun _ _ _ h=>h) (Or.inl ⟨by rfl,?_⟩) ?_ ?_
               rotate_left
               ·intro w'
                go_simp
                with_reducible rfl
               rotate_left
               ·simp only [Act.put,zp1,zp2,zp3,i64_w,i32_w]
                rfl
               refine pure_ (i:=10) (N:=some 39) (v:=?_) (a':=?_) #[Y,Y,Y,Y,Y,Y,Y,Y,Y,Y,Y,Y,X,X] rfl rfl zan (fun _ _ _ h=>h) (Or.inl ⟨by rfl,?_⟩) ?_ ?_
               rotate_left
               ·intro w'
                go_simp
                with_reducible rfl
               rotate_left
               ·simp only [Act.put,zp1,zp2,zp3,i64_w,i32_w]
                rfl
               exact norm_ (by simp only [putAll,Act.put,zp1,zp2,zp3]) (hCont (v218,gb222) _ ⟨hHeld,(by (with_reducible repeat (first|apply Kd.V_alloc|apply Kd.V_drewN|apply Kd.V_drew));exact Kd.V_mono HL194_0.out (fun _ hk=>⟨hk.1.1,⟨hk.1.2,hk.2⟩⟩)),(by (with_reducible repeat (first|apply Kd.V_alloc|apply Kd.V_drewN|apply Kd.V_drew));exact Kd.V_mono HL195_0.out (fun _ hk=>⟨hk.1.1,⟨hk.1.2,hk.2⟩⟩)),(by (with_reducible repeat (first|apply Kd.V_alloc|apply Kd.V_drewN|apply Kd.V_drew));exact Kd.V_mono HL215_0.out (fun _ hk=>⟨hk.1.1,⟨hk.1.2,hk.2⟩⟩)),(by (with_reducible repeat (first|apply Kd.V_alloc|apply Kd.V_drewN|apply Kd.V_drew));exact Kd.V_mono HL216_0.out (fun _ hk=>⟨hk.1.1,⟨hk.1.2,hk.2⟩⟩)),(zV HO219.out),(by (with_reducible repeat (first|apply Kd.V_alloc|apply Kd.V_drewN|apply Kd.V_drew));exact Kd.V_mono HO_0.out (fun _ hk=>⟨hk.1.1,⟨hk.1.2,hk.2⟩⟩)),(by (with_reducible repeat (first|apply Kd.V_alloc|apply Kd.V_drewN|apply Kd.V_drew));exact Kd.V_mono HO_1.out (fun _ hk=>⟨hk.1.1,⟨hk.1.2,hk.2⟩⟩)),(zN HO_9.out),(by (with_reducible repeat (first|refine blk_drewN ?_ _|refine blk_drew ?_|refine blk_alloc ?_ _));exact BK222.out),GW222.out,GE222.out,(by repeat (first|(with_reducible first|exact HB.out|apply below_alloc|apply pw_below_drewN|apply below_drew1|refine below_set ?_ GE222.out)|exact HB.out))⟩)
             rintro ⟨v218,gb222⟩ w42 ⟨hS_,h0_,h1_,h2_,h3_,h4_,h5_,h6_,h7_,h8_,h9_,h10_,h11_⟩
             have n0_:Aside0 (Kd.V (Kd.int .i64) 3 w42 w.heap.size (fun k_=>((P0_ k_∨P1_ k_)∨w.heap.size≤k_)∧some k_≠(u9:Value).ownBlock∧k_≠gb222) (.slice A194_0 ((rd_T54 x0_1 0).f0).length c194_0) ((rd_T54 x0_1 0).f0)):=⟨h0_⟩
             have n1_:Aside0 (Kd.V (Kd.int .i64) 3 w42 w.heap.size (fun k_=>((P0_ k_∨P1_ k_)∨w.heap.size≤k_)∧some k_≠(u9:Value).ownBlock∧k_≠gb222) (.slice A195_0 ((rd_T54 x1_1 0).f0).length c195_0) ((rd_T54 x1_1 0).f0)):=⟨h1_⟩
             have n2_:Aside0 (Kd.V (Kd.int .i64) 3 w42 w.heap.size (fun k_=>((P0_ k_∨P1_ k_)∨w.heap.size≤k_)∧some k_≠(u9:Value).ownBlock∧k_≠gb222) (.slice A215_0 ((rd_T54 x0_1 0).f0).length c215_0) ((rd_T54 x0_1 0).f0)):=⟨h2_⟩
             have n3_:Aside0 (Kd.V (Kd.int .i64) 3 w42 w.heap.size (fun k_=>((P0_ k_∨P1_ k_)∨w.heap.size≤k_)∧some k_≠(u9:Value).ownBlock∧k_≠gb222) (.slice A216_0 ((rd_T54 x1_1 0).f0).length c216_0) ((rd_T54 x1_1 0).f0)):=⟨h3_⟩
             have n4_:Aside0 (Kd.V (Kd.int .i64) 3 w42 w.heap.size (fun k_=>((P0_ k_∨P1_ k_)∨w.heap.size≤k_)∧some k_≠(u9:Value).ownBlock∧k_≠gb222) v218 t217):=⟨h4_⟩
             have n5_:Aside0 (Kd.V k54 54 w42 w.heap.size (fun k_=>((P0_ k_∨P1_ k_)∨w.heap.size≤k_)∧some k_≠(u9:Value).ownBlock∧k_≠gb222) (.slice (some ad194) x0_1.length co35) x0_1):=⟨h5_⟩
             have n6_:Aside0 (Kd.V k54 54 w42 w.heap.size (fun k_=>((P0_ k_∨P1_ k_)∨w.heap.size≤k_)∧some k_≠(u9:Value).ownBlock∧k_≠gb222) (.slice (some ad195) x1_1.length co36) x1_1):=⟨h6_⟩
             have n7_:Aside0 (Kd.N k54 54 w42 w.heap.size (fun k_=>((P0_ k_∨P1_ k_)∨w.heap.size≤k_)∧k_≠gb222) u9 x9_1):=⟨h7_⟩
             have n8_:Aside0 (w42.heap[gb222]?=some (.cells #[.slice none 0 0,.int .i64 0] 54 (0,0))):=⟨h8_⟩
             have n9_:Aside0 (w.heap.size≤gb222):=⟨h9_⟩
             have n10_:Aside0 (w.heap.size≤gb222):=⟨h10_⟩
             have n11_:Aside0 (Below w.heap.size w w42):=⟨h11_⟩
             clear HO_0
             clear HO_1
             clear HO_9
             clear HL194_0
             clear HL195_0
             clear HR194_0
             clear HR195_0
             clear HB
             clear h0_ h1_ h2_ h3_ h4_ h5_ h6_ h7_ h8_ h9_ h10_ h11_
             have HL194_0:=n0_
             have HL195_0:=n1_
             have HL215_0:=n2_
             have HL216_0:=n3_
             have HO219:=n4_
             have HO_0:=n5_
             have HO_1:=n6_
             have HO_9:=n7_
             have BK222:=n8_
             have GW222:=n9_
             have GE222:=n10_
             have HB:=n11_
             clear n0_ n1_ n2_ n3_ n4_ n5_ n6_ n7_ n8_ n9_ n10_ n11_
             have hHeld:w42.cell? ad194=some (.slice A215_0 ((rd_T54 x0_1 0).f0).length c215_0)∧w42.cell? ⟨ad194.block,ad194.off + 1,none⟩=some (.int .i64 ((rd_T54 x0_1 0).f1))∧w42.cell? ad195=some (.slice A216_0 ((rd_T54 x1_1 0).f0).length c216_0)∧w42.cell? ⟨ad195.block,ad195.off + 1,none⟩=some (.int .i64 ((rd_T54 x1_1 0).f1)):=hS_
             obtain ⟨Ao43,co43,eo43⟩:=Kd.V_slice HO219.out
             (first|subst eo43|(injection eo43 with f1_ f2_ f3_;have f4_:=f1_.symm;have f5_:=f3_.symm;clear f1_ f2_ f3_;subst f4_;subst f5_))
             refine norm_ (a':=?_) ?_ ?_
             rotate_left
             ·simp only [putAll,Act.put,zp1,zp2,zp3]
              rfl
             refine one_ (i:=12) (N:=none) #[Y,Y,Y,Y,Y,Y,Y,Y,Y,Y,Y,Y,Y,X] rfl rfl (one_of HT_.out (by kernel_rfl)) (by decide) (fun K hK=>?_)
             have hs44:w42.cell? ⟨gb222,0,none⟩=some (.slice none 0 0):=(blk_cell BK222.out 0).trans rfl
             have hfs44:=blk_frozen BK222.out 0
             have hs45:w42.cell? ⟨gb222,1,none⟩=some (.int .i64 0):=(blk_cell BK222.out 1).trans rfl
             have hfs45:=blk_frozen BK222.out 1
             refine skip_ (w1:=?_) (by rfl) rfl ?_ ?_
             rotate_left
             ·go_simp
              rfl
             refine hK.out _ _ ⟨((cell_far (p:=⟨gb222,_,none⟩) (by first|exact Kd.own_blk (Kd.V_away HO_0.out (fun _ hk=>hk.2.2))|(rw [add_block];exact Kd.own_blk (Kd.V_away HO_0.out (fun _ hk=>hk.2.2)))|(show (Addr.add _ _).block≠_;rw [add_block];exact Kd.own_blk (Kd.V_away HO_0.out (fun _ hk=>hk.2.2)))|(dsimp only;exact Kd.own_blk (Kd.V_away HO_0.out (fun _ hk=>hk.2.2)))) _).trans (((cell_far (p:=⟨gb222,_,none⟩) (by first|exact Kd.own_blk (Kd.V_away HO_0.out (fun _ hk=>hk.2.2))|(rw [add_block];exact Kd.own_blk (Kd.V_away HO_0.out (fun _ hk=>hk.2.2)))|(show (Addr.add _ _).block≠_;rw [add_block];exact Kd.own_blk (Kd.V_away HO_0.out (fun _ hk=>hk.2.2)))|(dsimp only;exact Kd.own_blk (Kd.V_away HO_0.out (fun _ hk=>hk.2.2)))) _).trans (hHeld.1)))),((cell_far (p:=⟨gb222,_,none⟩) (by first|exact Kd.own_blk (Kd.V_away HO_0.out (fun _ hk=>hk.2.2))|(rw [add_block];exact Kd.own_blk (Kd.V_away HO_0.out (fun _ hk=>hk.2.2)))|(show (Addr.add _ _).block≠_;rw [add_block];exact Kd.own_blk (Kd.V_away HO_0.out (fun _ hk=>hk.2.2)))|(dsimp only;exact Kd.own_blk (Kd.V_away HO_0.out (fun _ hk=>hk.2.2)))) _).trans (((cell_far (p:=⟨gb222,_,none⟩) (by first|exact Kd.own_blk (Kd.V_away HO_0.out (fun _ hk=>hk.2.2))|(rw [add_block];exact Kd.own_blk (Kd.V_away HO_0.out (fun _ hk=>hk.2.2)))|(show (Addr.add _ _).block≠_;rw [add_block];exact Kd.own_blk (Kd.V_away HO_0.out (fun _ hk=>hk.2.2)))|(dsimp only;exact Kd.own_blk (Kd.V_away HO_0.out (fun _ hk=>hk.2.2)))) _).trans (hHeld.2.1)))),((cell_far (p:=⟨gb222,_,none⟩) (by first|exact Kd.own_blk (Kd.V_away HO_1.out (fun _ hk=>hk.2.2))|(rw [add_block];exact Kd.own_blk (Kd.V_away HO_1.out (fun _ hk=>hk.2.2)))|(show (Addr.add _ _).block≠_;rw [add_block];exact Kd.own_blk (Kd.V_away HO_1.out (fun _ hk=>hk.2.2)))|(dsimp only;exact Kd.own_blk (Kd.V_away HO_1.out (fun _ hk=>hk.2.2)))) _).trans (((cell_far (p:=⟨gb222,_,none⟩) (by first|exact Kd.own_blk (Kd.V_away HO_1.out (fun _ hk=>hk.2.2))|(rw [add_block];exact Kd.own_blk (Kd.V_away HO_1.out (fun _ hk=>hk.2.2)))|(show (Addr.add _ _).block≠_;rw [add_block];exact Kd.own_blk (Kd.V_away HO_1.out (fun _ hk=>hk.2.2)))|(dsimp only;exact Kd.own_blk (Kd.V_away HO_1.out (fun _ hk=>hk.2.2)))) _).trans (hHeld.2.2.1)))),((cell_far (p:=⟨gb222,_,none⟩) (by first|exact Kd.own_blk (Kd.V_away HO_1.out (fun _ hk=>hk.2.2))|(rw [add_block];exact Kd.own_blk (Kd.V_away HO_1.out (fun _ hk=>hk.2.2)))|(show (Addr.add _ _).block≠_;rw [add_block];exact Kd.own_blk (Kd.V_away HO_1.out (fun _ hk=>hk.2.2)))|(dsimp only;exact Kd.own_blk (Kd.V_away HO_1.out (fun _ hk=>hk.2.2)))) _).trans (((cell_far (p:=⟨gb222,_,none⟩) (by first|exact Kd.own_blk (Kd.V_away HO_1.out (fun _ hk=>hk.2.2))|(rw [add_block];exact Kd.own_blk (Kd.V_away HO_1.out (fun _ hk=>hk.2.2)))|(show (Addr.add _ _).block≠_;rw [add_block];exact Kd.own_blk (Kd.V_away HO_1.out (fun _ hk=>hk.2.2)))|(dsimp only;exact Kd.own_blk (Kd.V_away HO_1.out (fun _ hk=>hk.2.2)))) _).trans (hHeld.2.2.2))))⟩ (fun hHeld=>?_)
             clear hK K
             refine pure_ (i:=13) (N:=some 12) (v:=?_) (a':=?_) #[Y,Y,Y,Y,Y,Y,Y,Y,Y,Y,Y,Y,Y,Y] rfl rfl zan (fun _ _ _ h=>h) (Or.inl ⟨by rfl,?_⟩) ?_ ?_
             rotate_left
             ·intro w'
              go_simp
              with_reducible rfl
             rotate_left
             ·simp only [Act.put,zp1,zp2,zp3,i64_w,i32_w]
              rfl
             refine done_ (done_of HT_.out (by kernel_rfl)) ?_
             have n0_:Aside0 (Kd.V k54 54 ((w42.setCell ⟨gb222,0,none⟩ (.slice Ao43 t217.length co43)).setCell ⟨gb222,1,none⟩ (.int .i64 t220)) w.heap.size (fun k_=>((P0_ k_∨P1_ k_)∨w.heap.size≤k_)∧some k_≠(u9:Value).ownBlock∧k_≠gb222) (.slice (some ad194) x0_1.length co35) x0_1):=⟨by (with_reducible repeat (first|apply Kd.V_alloc|apply Kd.V_drewN|apply Kd.V_drew));exact Kd.V_mono (Kd.V_far (p:=⟨gb222,1,none⟩) (Kd.V_far (p:=⟨gb222,0,none⟩) (Kd.V_mono HO_0.out (fun k_ hk=>(⟨hk,hk.2.2⟩:_∧k_≠gb222))) (fun _ hk=>hk.2) (.slice Ao43 t217.length co43)) (fun _ hk=>hk.2) (.int .i64 t220)) (fun _ hk=>⟨hk.1.1,⟨hk.1.2.1,hk.1.2.2⟩⟩)⟩
             have n1_:Aside0 (Kd.V k54 54 ((w42.setCell ⟨gb222,0,none⟩ (.slice Ao43 t217.length co43)).setCell ⟨gb222,1,none⟩ (.int .i64 t220)) w.heap.size (fun k_=>((P0_ k_∨P1_ k_)∨w.heap.size≤k_)∧some k_≠(u9:Value).ownBlock∧k_≠gb222) (.slice (some ad195) x1_1.length co36) x1_1):=⟨by (with_reducible repeat (first|apply Kd.V_alloc|apply Kd.V_drewN|apply Kd.V_drew));exact Kd.V_mono (Kd.V_far (p:=⟨gb222,1,none⟩) (Kd.V_far (p:=⟨gb222,0,none⟩) (Kd.V_mono HO_1.out (fun k_ hk=>(⟨hk,hk.2.2⟩:_∧k_≠gb222))) (fun _ hk=>hk.2) (.slice Ao43 t217.length co43)) (fun _ hk=>hk.2) (.int .i64 t220)) (fun _ hk=>⟨hk.1.1,⟨hk.1.2.1,hk.1.2.2⟩⟩)⟩
             have n2_:Aside0 (Kd.N k54 54 ((w42.setCell ⟨gb222,0,none⟩ (.slice Ao43 t217.length co43)).setCell ⟨gb222,1,none⟩ (.int .i64 t220)) w.heap.size (fun k_=>((P0_ k_∨P1_ k_)∨w.heap.size≤k_)∧k_≠gb222) u9 x9_1):=⟨by (with_reducible repeat (first|apply Kd.N_alloc|apply Kd.N_drewN|apply Kd.N_drew));exact Kd.N_mono (Kd.N_far (p:=⟨gb222,1,none⟩) (Kd.N_far (p:=⟨gb222,0,none⟩) (Kd.N_mono HO_9.out (fun k_ hk=>(⟨hk,hk.2⟩:_∧k_≠gb222))) (fun _ hk=>hk.2) (.slice Ao43 t217.length co43)) (fun _ hk=>hk.2) (.int .i64 t220)) (fun _ hk=>⟨hk.1.1,hk.1.2⟩)⟩
             have n3_:Aside0 (Kd.V (Kd.int .i64) 3 ((w42.setCell ⟨gb222,0,none⟩ (.slice Ao43 t217.length co43)).setCell ⟨gb222,1,none⟩ (.int .i64 t220)) w.heap.size (fun k_=>((P0_ k_∨P1_ k_)∨w.heap.size≤k_)∧some k_≠(u9:Value).ownBlock∧k_≠gb222) (.slice A194_0 ((rd_T54 x0_1 0).f0).length c194_0) ((rd_T54 x0_1 0).f0)):=⟨by (with_reducible repeat (first|apply Kd.V_alloc|apply Kd.V_drewN|apply Kd.V_drew));exact Kd.V_mono (Kd.V_far (p:=⟨gb222,1,none⟩) (Kd.V_far (p:=⟨gb222,0,none⟩) (Kd.V_mono HL194_0.out (fun k_ hk=>(⟨hk,hk.2.2⟩:_∧k_≠gb222))) (fun _ hk=>hk.2) (.slice Ao43 t217.length co43)) (fun _ hk=>hk.2) (.int .i64 t220)) (fun _ hk=>⟨hk.1.1,⟨hk.1.2.1,hk.1.2.2⟩⟩)⟩
             have n4_:Aside0 (Kd.V (Kd.int .i64) 3 ((w42.setCell ⟨gb222,0,none⟩ (.slice Ao43 t217.length co43)).setCell ⟨gb222,1,none⟩ (.int .i64 t220)) w.heap.size (fun k_=>((P0_ k_∨P1_ k_)∨w.heap.size≤k_)∧some k_≠(u9:Value).ownBlock∧k_≠gb222) (.slice A195_0 ((rd_T54 x1_1 0).f0).length c195_0) ((rd_T54 x1_1 0).f0)):=⟨by (with_reducible repeat (first|apply Kd.V_alloc|apply Kd.V_drewN|apply Kd.V_drew));exact Kd.V_mono (Kd.V_far (p:=⟨gb222,1,none⟩) (Kd.V_far (p:=⟨gb222,0,none⟩) (Kd.V_mono HL195_0.out (fun k_ hk=>(⟨hk,hk.2.2⟩:_∧k_≠gb222))) (fun _ hk=>hk.2) (.slice Ao43 t217.length co43)) (fun _ hk=>hk.2) (.int .i64 t220)) (fun _ hk=>⟨hk.1.1,⟨hk.1.2.1,hk.1.2.2⟩⟩)⟩
             have n5_:Aside0 (Kd.V (Kd.int .i64) 3 ((w42.setCell ⟨gb222,0,none⟩ (.slice Ao43 t217.length co43)).setCell ⟨gb222,1,none⟩ (.int .i64 t220)) w.heap.size (fun k_=>((P0_ k_∨P1_ k_)∨w.heap.size≤k_)∧some k_≠(u9:Value).ownBlock∧k_≠gb222) (.slice A215_0 ((rd_T54 x0_1 0).f0).length c215_0) ((rd_T54 x0_1 0).f0)):=⟨by (with_reducible repeat (first|apply Kd.V_alloc|apply Kd.V_drewN|apply Kd.V_drew));exact Kd.V_mono (Kd.V_far (p:=⟨gb222,1,none⟩) (Kd.V_far (p:=⟨gb222,0,none⟩) (Kd.V_mono HL215_0.out (fun k_ hk=>(⟨hk,hk.2.2⟩:_∧k_≠gb222))) (fun _ hk=>hk.2) (.slice Ao43 t217.length co43)) (fun _ hk=>hk.2) (.int .i64 t220)) (fun _ hk=>⟨hk.1.1,⟨hk.1.2.1,hk.1.2.2⟩⟩)⟩
             have n6_:Aside0 (Kd.V (Kd.int .i64) 3 ((w42.setCell ⟨gb222,0,none⟩ (.slice Ao43 t217.length co43)).setCell ⟨gb222,1,none⟩ (.int .i64 t220)) w.heap.size (fun k_=>((P0_ k_∨P1_ k_)∨w.heap.size≤k_)∧some k_≠(u9:Value).ownBlock∧k_≠gb222) (.slice A216_0 ((rd_T54 x1_1 0).f0).length c216_0) ((rd_T54 x1_1 0).f0)):=⟨by (with_reducible repeat (first|apply Kd.V_alloc|apply Kd.V_drewN|apply Kd.V_drew));exact Kd.V_mono (Kd.V_far (p:=⟨gb222,1,none⟩) (Kd.V_far (p:=⟨gb222,0,none⟩) (Kd.V_mono HL216_0.out (fun k_ hk=>(⟨hk,hk.2.2⟩:_∧k_≠gb222))) (fun _ hk=>hk.2) (.slice Ao43 t217.length co43)) (fun _ hk=>hk.2) (.int .i64 t220)) (fun _ hk=>⟨hk.1.1,⟨hk.1.2.1,hk.1.2.2⟩⟩)⟩
             have n7_:Aside0 (Kd.V (Kd.int .i64) 3 ((w42.setCell ⟨gb222,0,none⟩ (.slice Ao43 t217.length co43)).setCell ⟨gb222,1,none⟩ (.int .i64 t220)) w.heap.size (fun k_=>((P0_ k_∨P1_ k_)∨w.heap.size≤k_)∧some k_≠(u9:Value).ownBlock∧k_≠gb222) (.slice Ao43 t217.length co43) t217):=⟨by (with_reducible repeat (first|apply Kd.V_alloc|apply Kd.V_drewN|apply Kd.V_drew));exact Kd.V_mono (Kd.V_far (p:=⟨gb222,1,none⟩) (Kd.V_far (p:=⟨gb222,0,none⟩) (Kd.V_mono HO219.out (fun k_ hk=>(⟨hk,hk.2.2⟩:_∧k_≠gb222))) (fun _ hk=>hk.2) (.slice Ao43 t217.length co43)) (fun _ hk=>hk.2) (.int .i64 t220)) (fun _ hk=>⟨hk.1.1,⟨hk.1.2.1,hk.1.2.2⟩⟩)⟩
             have n8_:Aside0 (((w42.setCell ⟨gb222,0,none⟩ (.slice Ao43 t217.length co43)).setCell ⟨gb222,1,none⟩ (.int .i64 t220)).heap[gb222]?=some (.cells #[.slice Ao43 t217.length co43,.int .i64 t220] 54 (0,0))):=⟨by (with_reducible repeat (first|refine blk_drewN ?_ _|refine blk_drew ?_|refine blk_alloc ?_ _));refine blk_put (cs:=#[.slice Ao43 t217.length co43,.int .i64 0]) ?_ 1 _ rfl;(with_reducible repeat (first|refine blk_drewN ?_ _|refine blk_drew ?_|refine blk_alloc ?_ _));refine blk_put (cs:=#[.slice none 0 0,.int .i64 0]) ?_ 0 _ rfl;(with_reducible repeat (first|refine blk_drewN ?_ _|refine blk_drew ?_|refine blk_alloc ?_ _));exact BK222.out⟩
             have n9_:Aside0 (Below w.heap.size w ((w42.setCell ⟨gb222,0,none⟩ (.slice Ao43 t217.length co43)).setCell ⟨gb222,1,none⟩ (.int .i64 t220))):=⟨by repeat (first|(with_reducible first|exact HB.out|apply below_alloc|apply pw_below_drewN|apply below_drew1|refine below_set ?_ GE222.out)|exact HB.out)⟩
             (try clear HO_0)
             (try clear HO_1)
             (try clear HO_9)
             (try clear HL194_0)
             (try clear HL195_0)
             (try clear HL215_0)
             (try clear HL216_0)
             (try clear HO219)
             (try clear BK222)
             (try clear HB)
             generalize ((w42.setCell ⟨gb222,0,none⟩ (.slice Ao43 t217.length co43)).setCell ⟨gb222,1,none⟩ (.int .i64 t220))=w46 at n0_ n1_ n2_ n3_ n4_ n5_ n6_ n7_ n8_ n9_ ⊢
             have HO_0:=n0_
             have HO_1:=n1_
             have HO_9:=n2_
             have HL194_0:=n3_
             have HL195_0:=n4_
             have HL215_0:=n5_
             have HL216_0:=n6_
             have HO219:=n7_
             have BK222:=n8_
             have HB:=n9_
             clear n0_ n1_ n2_ n3_ n4_ n5_ n6_ n7_ n8_ n9_
             have hcz47_0:w46.cell? ⟨gb222,0,none⟩=some (.slice Ao43 t217.length co43):=(blk_cell BK222.out 0).trans rfl
             have hcz47_1:w46.cell? ⟨gb222,1,none⟩=some (.int .i64 t220):=(blk_cell BK222.out 1).trans rfl
             have hfz47_0:=blk_frozen BK222.out 0
             have hfz47_1:=blk_frozen BK222.out 1
             try go_wp2_with (first|((with_reducible refine gate_builtin (b:=.append) (xs:=#[.tmp 41,.tmp 43]) rfl ?_);(try (refine gate_guard (by rfl) ?_;dsimp only));at_builtin;refine Kd.N_append k54 (w0:=w) w.heap.size rfl (.tmp 41) (.tmp 43) 24 54 (.agg #[(.slice none 0 0),(.int .i64 0)]) 32 rfl Try.underlying24 info54 rfl (by decide) (by omega) u9 x9_1 (⟨t217,t220⟩:S54) [.slice Ao43 t217.length co43,.int .i64 t220] (fun k_=>((P0_ k_∨P1_ k_)∨w.heap.size≤k_)∧k_≠gb222) (fun k_=>((fun k_=>((P0_ k_∨P1_ k_)∨w.heap.size≤k_)∧k_≠gb222)) k_∧some k_≠(u9:Value).ownBlock) rfl rfl ?aP (fun _ hk=>hk) ?aF ?aO ?aB ?aS ?aL ?_;(case aP=>exact (k54_mkF _ _ (⟨t217,t220⟩:S54) (Kd.V_reads' (Kd.V_mono (ok':=(fun k_=>((fun k_=>((P0_ k_∨P1_ k_)∨w.heap.size≤k_)∧k_≠gb222)) k_∧some k_≠(u9:Value).ownBlock)) (HO219.out) (fun k_ hk=>⟨⟨hk.1,hk.2.2⟩,hk.2.1⟩))).2.1 (Kd.V_F (Kd.V_mono (ok':=(fun k_=>((fun k_=>((P0_ k_∨P1_ k_)∨w.heap.size≤k_)∧k_≠gb222)) k_∧some k_≠(u9:Value).ownBlock)) (HO219.out) (fun k_ hk=>⟨⟨hk.1,hk.2.2⟩,hk.2.1⟩)))));(case aB=>exact (by repeat (first|(with_reducible first|exact HB.out|apply below_alloc|apply pw_below_drewN|apply below_drew1|refine below_set ?_ GE222.out)|exact HB.out)));(case aF=>exact (fun k_ hk=>⟨(.inr (Nat.le_trans (below_size (by repeat (first|(with_reducible first|exact HB.out|apply below_alloc|apply pw_below_drewN|apply below_drew1|refine below_set ?_ GE222.out)|exact HB.out))) hk)),Kd.freshB (g:=gb222) (o:=.cells #[.slice Ao43 t217.length co43,.int .i64 t220] 54 (0,0)) (by (with_reducible repeat (first|refine blk_drewN ?_ _|refine blk_drew ?_|refine blk_alloc ?_ _));exact BK222.out) k_ hk⟩));(case aO=>exact (zN HO_9.out));(case aS=>exact (below_size (by repeat (first|(with_reducible first|exact HB.out|apply below_alloc|apply pw_below_drewN|apply below_drew1|refine below_set ?_ GE222.out)|exact HB.out))));(case aL=>have:=LMc32.out;omega);intro v224 w48 ho hb hg hat;rw [← Ny223.out] at ho;have n0_:=Aside0.mk (Kd.V_afterv (ok:=(fun k_=>((P0_ k_∨P1_ k_)∨w.heap.size≤k_)∧k_≠gb222)) (by (with_reducible repeat (first|apply Kd.V_alloc|apply Kd.V_drewN|apply Kd.V_drew));exact Kd.V_mono HO_0.out (fun _ hk=>⟨⟨hk.1,hk.2.2⟩,hk.2.1⟩)) hg hat);have n1_:=Aside0.mk (Kd.V_afterv (ok:=(fun k_=>((P0_ k_∨P1_ k_)∨w.heap.size≤k_)∧k_≠gb222)) (by (with_reducible repeat (first|apply Kd.V_alloc|apply Kd.V_drewN|apply Kd.V_drew));exact Kd.V_mono HO_1.out (fun _ hk=>⟨⟨hk.1,hk.2.2⟩,hk.2.1⟩)) hg hat);have n2_:=Aside0.mk (Kd.V_afterv (ok:=(fun k_=>((P0_ k_∨P1_ k_)∨w.heap.size≤k_)∧k_≠gb222)) (by (with_reducible repeat (first|apply Kd.V_alloc|apply Kd.V_drewN|apply Kd.V_drew));exact Kd.V_mono HL194_0.out (fun _ hk=>⟨⟨hk.1,hk.2.2⟩,hk.2.1⟩)) hg hat);have n3_:=Aside0.mk (Kd.V_afterv (ok:=(fun k_=>((P0_ k_∨P1_ k_)∨w.heap.size≤k_)∧k_≠gb222)) (by (with_reducible repeat (first|apply Kd.V_alloc|apply Kd.V_drewN|apply Kd.V_drew));exact Kd.V_mono HL195_0.out (fun _ hk=>⟨⟨hk.1,hk.2.2⟩,hk.2.1⟩)) hg hat);have n4_:=Aside0.mk (Kd.V_afterv (ok:=(fun k_=>((P0_ k_∨P1_ k_)∨w.heap.size≤k_)∧k_≠gb222)) (by (with_reducible repeat (first|apply Kd.V_alloc|apply Kd.V_drewN|apply Kd.V_drew));exact Kd.V_mono HL215_0.out (fun _ hk=>⟨⟨hk.1,hk.2.2⟩,hk.2.1⟩)) hg hat);have n5_:=Aside0.mk (Kd.V_afterv (ok:=(fun k_=>((P0_ k_∨P1_ k_)∨w.heap.size≤k_)∧k_≠gb222)) (by (with_reducible repeat (first|apply Kd.V_alloc|apply Kd.V_drewN|apply Kd.V_drew));exact Kd.V_mono HL216_0.out (fun _ hk=>⟨⟨hk.1,hk.2.2⟩,hk.2.1⟩)) hg hat);have n6_:=Aside0.mk (Kd.V_afterv (ok:=(fun k_=>((P0_ k_∨P1_ k_)∨w.heap.size≤k_)∧k_≠gb222)) (by (with_reducible repeat (first|apply Kd.V_alloc|apply Kd.V_drewN|apply Kd.V_drew));exact Kd.V_mono HO219.out (fun _ hk=>⟨⟨hk.1,hk.2.2⟩,hk.2.1⟩)) hg hat);have n7_:=Aside0.mk (blk_grown (g:=gb222) (o:=.cells #[.slice Ao43 t217.length co43,.int .i64 t220] 54 (0,0)) (by (with_reducible repeat (first|refine blk_drewN ?_ _|refine blk_drew ?_|refine blk_alloc ?_ _));exact BK222.out) hg (Kd.N_away HO_9.out (fun _ hk=>hk.2)));have n8_:=Aside0.mk (hb);have n9_:=Aside0.mk (ho);clear HO_0;clear HO_1;clear HL194_0;clear HL195_0;clear HL215_0;clear HL216_0;clear HO219;clear BK222;clear HB;clear HO_9;have HO_0:=n0_;have HO_1:=n1_;have HL194_0:=n2_;have HL195_0:=n3_;have HL215_0:=n4_;have HL216_0:=n5_;have HO219:=n6_;have BK222:=n7_;have HB:=n8_;have HO225:=n9_;clear n0_ n1_ n2_ n3_ n4_ n5_ n6_ n7_ n8_ n9_;clear ho hb hg hat))
             have n0_:=Aside0.mk (Kd.V_drew HO_0.out)
             have n1_:=Aside0.mk (Kd.V_drew HO_1.out)
             have n2_:=Aside0.mk (Kd.V_drew HL194_0.out)
             have n3_:=Aside0.mk (Kd.V_drew HL195_0.out)
             have n4_:=Aside0.mk (Kd.V_drew HL215_0.out)
             have n5_:=Aside0.mk (Kd.V_drew HL216_0.out)
             have n6_:=Aside0.mk (Kd.V_drew HO219.out)
             have n7_:=Aside0.mk (Kd.N_drew HO225.out)
             have n8_:=Aside0.mk (blk_drew BK222.out)
             have n9_:=Aside0.mk (below_drew1 HB.out)
             clear HO_0
             clear HO_1
             clear HL194_0
             clear HL195_0
             clear HL215_0
             clear HL216_0
             clear HO219
             clear HO225
             clear BK222
             clear HB
             have HO_0:=n0_
             have HO_1:=n1_
             have HL194_0:=n2_
             have HL195_0:=n3_
             have HL215_0:=n4_
             have HL216_0:=n5_
             have HO219:=n6_
             have HO225:=n7_
             have BK222:=n8_
             have HB:=n9_
             clear n0_ n1_ n2_ n3_ n4_ n5_ n6_ n7_ n8_ n9_
             have q50:(1:Int)≤((x0_1.length:Int):Int):=zod
             obtain ⟨i050,hi050,_,hsz50,_⟩:=info_parts info54
             have hroom50:x0_1.length≤co35:=(Kd.V_reads' HO_0.out).2.1
             have hC50:Kd.F k54 _ _ (some ad194) x0_1.length x0_1:=(Kd.V_at (base:=w.heap.size) HO_0.out).2.2
             have hcut50:=cut_from (P:=Try.prog) 24 54 .i64 Try.underlying24 hi050 2 hsz50 (some ad194) x0_1.length co35 1 (by omega) q50
             have hr50:=Kd.F_cut (m:=(1:Int).toNat) (c:=co35) hC50 (by omega) hroom50
             obtain ⟨A50,hA50⟩ : ∃ A1,A1=(if co35=(1:Int).toNat then (some ad194) else ((some ad194):Option Addr).map (·.add ((1:Int).toNat * 2))):=⟨_,rfl⟩
             obtain ⟨c50,hc50⟩ : ∃ c1,c1=co35 - (1:Int).toNat:=⟨_,rfl⟩
             have hy50:y226.length=x0_1.length - (1:Int).toNat:=(by rw [Ny226.out,List.length_drop] <;> omega)
             rw [show (x0_1).drop (1:Int).toNat=y226 from Ny226.out.symm] at hr50
             replace hr50:Kd.F k54 _ _ A50 y226.length y226:=(by rw [hA50];exact hr50)
             rw [← hy50,← hA50,← hc50] at hcut50
             have HO230:=Aside0.mk (show Kd.V k54 54 _ w.heap.size _ (.slice A50 y226.length c50) y226 from Kd.V_mk (by rw [hy50,hc50];exact Nat.sub_le_sub_right hroom50 _) hr50)
             have HC230:=Aside0.mk (show y226.length≤c50 from by rw [hy50,hc50];exact Nat.sub_le_sub_right hroom50 _)
             clear hr50 hC50 hroom50 hi050 hsz50 hc50
             have KY50:=Aside0.mk hy50
             have KA50:=Aside0.mk hA50
             clear hy50 hA50
             replace q50:=eq_true q50
             have q51:(1:Int)≤((x1_1.length:Int):Int):=zod
             obtain ⟨i051,hi051,_,hsz51,_⟩:=info_parts info54
             have hroom51:x1_1.length≤co36:=(Kd.V_reads' HO_1.out).2.1
             have hC51:Kd.F k54 _ _ (some ad195) x1_1.length x1_1:=(Kd.V_at (base:=w.heap.size) HO_1.out).2.2
             have hcut51:=cut_from (P:=Try.prog) 24 54 .i64 Try.underlying24 hi051 2 hsz51 (some ad195) x1_1.length co36 1 (by omega) q51
             have hr51:=Kd.F_cut (m:=(1:Int).toNat) (c:=co36) hC51 (by omega) hroom51
             obtain ⟨A51,hA51⟩ : ∃ A1,A1=(if co36=(1:Int).toNat then (some ad195) else ((some ad195):Option Addr).map (·.add ((1:Int).toNat * 2))):=⟨_,rfl⟩
             obtain ⟨c51,hc51⟩ : ∃ c1,c1=co36 - (1:Int).toNat:=⟨_,rfl⟩
             have hy51:y231.length=x1_1.length - (1:Int).toNat:=(by rw [Ny231.out,List.length_drop] <;> omega)
             rw [show (x1_1).drop (1:Int).toNat=y231 from Ny231.out.symm] at hr51
             replace hr51:Kd.F k54 _ _ A51 y231.length y231:=(by rw [hA51];exact hr51)
             rw [← hy51,← hA51,← hc51] at hcut51
             have HO235:=Aside0.mk (show Kd.V k54 54 _ w.heap.size _ (.slice A51 y231.length c51) y231 from Kd.V_mk (by rw [hy51,hc51];exact Nat.sub_le_sub_right hroom51 _) hr51)
             have HC235:=Aside0.mk (show y231.length≤c51 from by rw [hy51,hc51];exact Nat.sub_le_sub_right hroom51 _)
             clear hr51 hC51 hroom51 hi051 hsz51 hc51
             have KY51:=Aside0.mk hy51
             have KA51:=Aside0.mk hA51
             clear hy51 hA51
             replace q51:=eq_true q51
             refine start_ (n:=6) (S:=fun w'=>True) (ds:=[]) #[X,X,X,X,X,X] (by kernel_rfl) rfl rfl trivial (fun hHeld=>?_)
             generalize w48.drew=w49 at HO_0 HO_1 HL194_0 HL195_0 HL215_0 HL216_0 HO219 HO225 BK222 HB HO230 HO235 hHeld ⊢
             refine pure_ (i:=0) (N:=some 45) (v:=?_) (a':=?_) #[Y,X,X,X,X,X] rfl rfl (by kernel_rfl) (fun _ _ _ h=>h) (Or.inl ⟨by rfl,?_⟩) ?_ ?_
             rotate_left
             ·intro w'
              go_simp
              with_reducible rfl
             rotate_left
             ·simp only [Act.put,zp1,zp2,zp3,i64_w,i32_w]
              rfl
             refine pure_ (i:=1) (N:=some 46) (v:=?_) (a':=?_) #[Y,Y,X,X,X,X] rfl rfl (by kernel_rfl) (fun _ _ _ h=>h) (Or.inl ⟨by rfl,?_⟩) ?_ ?_
             rotate_left
             ·intro w'
              go_simp
              with_reducible rfl
             rotate_left
             ·simp only [Act.put,zp1,zp2,zp3,i64_w,i32_w]
              rfl
             refine pure_ (i:=2) (N:=some 47) (v:=?_) (a':=?_) #[Y,Y,Y,X,X,X] rfl rfl (by kernel_rfl) (fun _ _ _ h=>h) (Or.inl ⟨by rfl,?_⟩) ?_ ?_
             rotate_left
             ·intro w'
              go_simp
              with_reducible rfl
             rotate_left
             ·simp only [Act.put,zp1,zp2,zp3,i64_w,i32_w]
              rfl
             refine pure_ (i:=3) (N:=some 48) (v:=?_) (a':=?_) #[Y,Y,Y,Y,X,X] rfl rfl (by kernel_rfl) (fun _ _ _ h=>h) (Or.inl ⟨by rfl,?_⟩) ?_ ?_
             rotate_left
             ·intro w'
              go_simp
              with_reducible rfl
             rotate_left
             ·simp only [Act.put,zp1,zp2,zp3,i64_w,i32_w]
              rfl
             refine pure_ (i:=4) (N:=some 0) (v:=?_) (a':=?_) #[Y,Y,Y,Y,Y,X] rfl rfl (by kernel_rfl) (fun _ _ _ h=>h) (Or.inl ⟨by rfl,?_⟩) ?_ ?_
             rotate_left
             ·intro w'
              go_simp
              with_reducible rfl
             rotate_left
             ·simp only [Act.put,zp1,zp2,zp3,i64_w,i32_w]
              rfl
             refine pure_ (i:=5) (N:=some 1) (v:=?_) (a':=?_) #[Y,Y,Y,Y,Y,Y] rfl rfl (by kernel_rfl) (fun _ _ _ h=>h) (Or.inl ⟨by rfl,?_⟩) ?_ ?_
             rotate_left
             ·intro w'
              go_simp
              with_reducible rfl
             rotate_left
             ·simp only [Act.put,zp1,zp2,zp3,i64_w,i32_w]
              rfl
             refine done_ (by kernel_rfl) ?_
             try go_wp2
             go_roundg k1
             case measure=>have:=HK1.out;omega
             case rel=>exact ⟨(y226),(y231),(y223),H',⟨by have:=HK1.out;omega⟩,⟨by (with_reducible repeat (first|apply Kd.V_alloc|apply Kd.V_drewN|apply Kd.V_drew));exact Kd.V_mono HO230.out (fun _ hk=>⟨hk.1.1,hk.2⟩)⟩,⟨by (with_reducible repeat (first|apply Kd.V_alloc|apply Kd.V_drewN|apply Kd.V_drew));exact Kd.V_mono HO235.out (fun _ hk=>⟨hk.1.1,hk.2⟩)⟩,⟨by (with_reducible repeat (first|apply Kd.N_alloc|apply Kd.N_drewN|apply Kd.N_drew));exact Kd.N_mono HO225.out (fun _ hk=>hk.1)⟩,⟨by repeat (first|(with_reducible first|exact HB.out|apply below_alloc|apply pw_below_drewN|apply below_drew1|refine below_set ?_ GE222.out)|exact HB.out)⟩⟩
            ·rw [if_neg c34] at H
             exact absurd H (by simp)
           ·rw [if_neg c33] at H
            exact absurd H (by simp)
          ·rw [if_neg c32] at H
           exact absurd H (by simp)
         ·replace c31:=Bool.eq_false_iff.mpr c31
          subst c31
          have H1:(if 1≤(x0_1.length:Int) then (if 1≤(x1_1.length:Int) then (impl_merged_impl_Item__impl_cmpItem_impl_together_1.l0 k1 (x0_1.drop 1) (x1_1.drop 1) x9_1) else (none)) else (none))=some r:=by rw [if_neg (show ¬ (false=true) by decide)] at H;exact H
          clear H
          have H:=H1
          clear H1
          by_cases c52:1≤(x0_1.length:Int)
          ·rw [if_pos c52] at H
           have c52b0:=eq_true c52
           have c52b1:decide (1≤(x0_1.length:Int))=true:=decide_eq_true c52
           clear c52
           obtain ⟨y236,hy236⟩ : ∃ y_:List (S54),y_=(x0_1.drop 1):=⟨_,rfl⟩
           replace H:(if 1≤(x1_1.length:Int) then (impl_merged_impl_Item__impl_cmpItem_impl_together_1.l0 k1 y236 (x1_1.drop 1) x9_1) else (none))=some r:=by first|(rw [hy236];with_reducible exact H)|(have H2_:=(Option.bind_some _ _).symm.trans H;rw [hy236];with_reducible exact H2_)|(have H2_:=(Option.bind_some _ _).symm.trans H;with_reducible exact H2_)|with_reducible exact H|(rw [hy236];exact H)|exact H
           have Ny236:=Aside0.mk hy236
           clear hy236
           by_cases c53:1≤(x1_1.length:Int)
           ·rw [if_pos c53] at H
            have c53b0:=eq_true c53
            have c53b1:decide (1≤(x1_1.length:Int))=true:=decide_eq_true c53
            clear c53
            obtain ⟨y241,hy241⟩ : ∃ y_:List (S54),y_=(x1_1.drop 1):=⟨_,rfl⟩
            replace H:(impl_merged_impl_Item__impl_cmpItem_impl_together_1.l0 k1 y236 y241 x9_1)=some r:=by first|(rw [hy241];with_reducible exact H)|(have H2_:=(Option.bind_some _ _).symm.trans H;rw [hy241];with_reducible exact H2_)|(have H2_:=(Option.bind_some _ _).symm.trans H;with_reducible exact H2_)|with_reducible exact H|(rw [hy241];exact H)|exact H
            have Ny241:=Aside0.mk hy241
            clear hy241
            have H':=Aside0.mk H
            clear H
            obtain ⟨Ao54,co54,eo54⟩:=Kd.V_slice HO_0.out
            subst eo54
            obtain ⟨Ao55,co55,eo55⟩:=Kd.V_slice HO_1.out
            subst eo55
            try go_wp2
            have n0_:=Aside0.mk (Kd.V_drew HO_0.out)
            have n1_:=Aside0.mk (Kd.V_drew HO_1.out)
            have n2_:=Aside0.mk (Kd.N_drew HO_9.out)
            have n3_:=Aside0.mk (below_drew1 HB.out)
            clear HO_0
            clear HO_1
            clear HO_9
            clear HB
            have HO_0:=n0_
            have HO_1:=n1_
            have HO_9:=n2_
            have HB:=n3_
            clear n0_ n1_ n2_ n3_
            have p194:0≤(0:Int):=(by omega)
            have q194:0 < (x0_1.length:Int):=zod
            obtain ⟨ad194,A194_0,c194_0,e194,hx194_0,hx194_1,hl194_0,hi194_0⟩:=at_T54 (Kd.V_reads' HO_0.out).2.2 0 p194 q194
            cases e194
            obtain ⟨ce194,hce194,hMe194,hcc194⟩:=Kd.V_get HO_0.out z54 0 p194 (by first|exact q194|exact zod|(have e_:=(Kd.V_reads' HO_0.out).1;omega))
            obtain ⟨ua194_0,uc194_0,rfl,ul194_0,ge194_0⟩:=k54_openF hMe194
            have hv194_0:=hcc194 0 _ rfl
            rw [Nat.add_zero] at hv194_0
            replace hv194_0:=Option.some.inj (hv194_0.symm.trans hx194_0)
            injection hv194_0 with hva_ hvn_ hvc_
            rw [hva_] at ge194_0
            rw [hvc_] at ul194_0
            have HL194_0:=Aside0.mk (show Kd.V (Kd.int .i64) 3 _ w.heap.size _ _ ((rd_T54 x0_1 0).f0) from Kd.V_mk ul194_0 ge194_0)
            clear hva_ hvn_ hvc_ ge194_0 ul194_0
            clear hcc194 hce194
            have qi194:(0 < x0_1.length)=True:=eq_true (by omega)
            (try rw [show ((0:Int)).toNat=0 from rfl] at hx194_0)
            (try rw [show 0 * 2=0 from rfl] at hx194_0)
            (try rw [Addr.add_zero'] at hx194_0)
            (try rw [show ((0:Int)).toNat=0 from rfl] at hx194_1)
            (try rw [show 0 * 2=0 from rfl] at hx194_1)
            (try rw [Addr.add_zero'] at hx194_1)
            have HR194_0:=Aside0.mk hi194_0
            have HC194_0:=Aside0.mk hl194_0
            clear hi194_0 hl194_0
            replace p194:=eq_true p194
            replace q194:=eq_true q194
            have p195:0≤(0:Int):=(by omega)
            have q195:0 < (x1_1.length:Int):=zod
            obtain ⟨ad195,A195_0,c195_0,e195,hx195_0,hx195_1,hl195_0,hi195_0⟩:=at_T54 (Kd.V_reads' HO_1.out).2.2 0 p195 q195
            cases e195
            obtain ⟨ce195,hce195,hMe195,hcc195⟩:=Kd.V_get HO_1.out z54 0 p195 (by first|exact q195|exact zod|(have e_:=(Kd.V_reads' HO_1.out).1;omega))
            obtain ⟨ua195_0,uc195_0,rfl,ul195_0,ge195_0⟩:=k54_openF hMe195
            have hv195_0:=hcc195 0 _ rfl
            rw [Nat.add_zero] at hv195_0
            replace hv195_0:=Option.some.inj (hv195_0.symm.trans hx195_0)
            injection hv195_0 with hva_ hvn_ hvc_
            rw [hva_] at ge195_0
            rw [hvc_] at ul195_0
            have HL195_0:=Aside0.mk (show Kd.V (Kd.int .i64) 3 _ w.heap.size _ _ ((rd_T54 x1_1 0).f0) from Kd.V_mk ul195_0 ge195_0)
            clear hva_ hvn_ hvc_ ge195_0 ul195_0
            clear hcc195 hce195
            have qi195:(0 < x1_1.length)=True:=eq_true (by omega)
            (try rw [show ((0:Int)).toNat=0 from rfl] at hx195_0)
            (try rw [show 0 * 2=0 from rfl] at hx195_0)
            (try rw [Addr.add_zero'] at hx195_0)
            (try rw [show ((0:Int)).toNat=0 from rfl] at hx195_1)
            (try rw [show 0 * 2=0 from rfl] at hx195_1)
            (try rw [Addr.add_zero'] at hx195_1)
            have HR195_0:=Aside0.mk hi195_0
            have HC195_0:=Aside0.mk hl195_0
            clear hi195_0 hl195_0
            replace p195:=eq_true p195
            replace q195:=eq_true q195
            refine start_ (n:=9) (S:=fun w'=>w'.cell? ad194=some (.slice A194_0 ((rd_T54 x0_1 0).f0).length c194_0)∧w'.cell? ⟨ad194.block,ad194.off + 1,none⟩=some (.int .i64 ((rd_T54 x0_1 0).f1))∧w'.cell? ad195=some (.slice A195_0 ((rd_T54 x1_1 0).f0).length c195_0)∧w'.cell? ⟨ad195.block,ad195.off + 1,none⟩=some (.int .i64 ((rd_T54 x1_1 0).f1))) (ds:=[]) #[X,X,X,X,X,X,X,X,X] (by kernel_rfl) rfl rfl ⟨hx194_0,hx194_1,hx195_0,hx195_1⟩ (fun hHeld=>?_);refine with_tabW impl_merged_impl_Item__impl_cmpItem_impl_together_1.tab3 impl_merged_impl_Item__impl_cmpItem_impl_together_1.bits3 (fun HT_ HW_=>?_)
            generalize wr.drew=w56 at HO_0 HO_1 HO_9 HB HL194_0 HL195_0 HR194_0 HR195_0 hx194_0 hx194_1 hx195_0 hx195_1 hHeld ⊢
            refine pure_ (i:=0) (N:=some 21) (v:=?_) (a':=?_) #[Y,X,X,X,X,X,X,X,X] rfl rfl zan (fun _ _ _ h=>h) (Or.inl ⟨by rfl,?_⟩) ?_ ?_
            rotate_left
            ·intro w'
             go_simp
             with_reducible rfl
            rotate_left
            ·simp only [Act.put,zp1,zp2,zp3,i64_w,i32_w]
             rfl
            refine pure_ (i:=1) (N:=some 22) (v:=?_) (a':=?_) #[Y,Y,X,X,X,X,X,X,X] rfl rfl zan (fun _ _ _ h=>h) (Or.inl ⟨by rfl,?_⟩) ?_ ?_
            rotate_left
            ·intro w'
             go_simp
             with_reducible rfl
            rotate_left
            ·simp only [Act.put,zp1,zp2,zp3,i64_w,i32_w]
             rfl
            refine pure_ (i:=2) (N:=some 23) (v:=?_) (a':=?_) #[Y,Y,Y,X,X,X,X,X,X] rfl rfl zan (fun _ _ _ h=>h) (Or.inl ⟨by rfl,?_⟩) ?_ ?_
            rotate_left
            ·intro w'
             go_simp
             with_reducible rfl
            rotate_left
            ·simp only [Act.put,zp1,zp2,zp3,i64_w,i32_w]
             rfl
            refine pure_ (i:=4) (N:=some 25) (v:=?_) (a':=?_) #[Y,Y,Y,X,Y,X,X,X,X] rfl rfl zan (fun _ _ _ h=>h) (Or.inl ⟨by rfl,?_⟩) ?_ ?_
            rotate_left
            ·intro w'
             go_simp
             with_reducible rfl
            rotate_left
            ·simp only [Act.put,zp1,zp2,zp3,i64_w,i32_w]
             rfl
            refine pure_ (i:=5) (N:=some 26) (v:=?_) (a':=?_) #[Y,Y,Y,X,Y,Y,X,X,X] rfl rfl zan (fun _ _ _ h=>h) (Or.inl ⟨by rfl,?_⟩) ?_ ?_
            rotate_left
            ·intro w'
             go_simp
             with_reducible rfl
            rotate_left
            ·simp only [Act.put,zp1,zp2,zp3,i64_w,i32_w]
             rfl
            refine take_ (i:=3) (N:=some 24) (v:=?_) (a':=?_) #[Y,Y,Y,Y,Y,Y,X,X,X] rfl rfl ztw (fun _ _ _ h=>h) (Or.inl ⟨by rfl,?_⟩) hHeld ?_ ?_
            rotate_left
            ·rintro w' ⟨s0,s1,s2,s3⟩
             go_simp
             with_reducible rfl
            rotate_left
            ·simp only [Act.put,zp1,zp2,zp3,i64_w,i32_w]
             rfl
            refine take_ (i:=6) (N:=some 27) (v:=?_) (a':=?_) #[Y,Y,Y,Y,Y,Y,Y,X,X] rfl rfl ztw (fun _ _ _ h=>h) (Or.inl ⟨by rfl,?_⟩) hHeld ?_ ?_
            rotate_left
            ·rintro w' ⟨s0,s1,s2,s3⟩
             go_simp
             with_reducible rfl
            rotate_left
            ·simp only [Act.put,zp1,zp2,zp3,i64_w,i32_w]
             rfl
            refine one_ (i:=7) (N:=some 28) #[Y,Y,Y,Y,Y,Y,Y,Y,X] rfl rfl (one_of HT_.out (by kernel_rfl)) (by decide) (fun K hK=>?_)
            refine goes_f (.tmp 21) Try.func109 (by kernel_rfl) rfl #[.agg #[.slice A194_0 ((rd_T54 x0_1 0).f0).length c194_0,.int .i64 ((rd_T54 x0_1 0).f1)],.agg #[.slice A195_0 ((rd_T54 x1_1 0).f0).length c195_0,.int .i64 ((rd_T54 x1_1 0).f1)]] (by rfl) rfl rfl rfl zar ?_
            with_reducible refine (impl_cmpItem.calls k1 _ _ ((rd_T54 x0_1 0).f0) ((rd_T54 x0_1 0).f1) _ _ ((rd_T54 x1_1 0).f0) ((rd_T54 x1_1 0).f1) t196 _ ?side1 ?side2 ?side3 ?side4 A9.out).mono ?_
            (case side1=>exact zC (zC HR194_0.out))
            (case side2=>exact HC194_0.out)
            (case side3=>exact zC (zC HR195_0.out))
            (case side4=>exact HC195_0.out)
            rintro e w57 ⟨rfl,hb⟩
            have HS0_:=zhs hb hHeld.1
            have HS1_:=zhs hb hHeld.2.1
            have HS2_:=zhs hb hHeld.2.2.1
            have HS3_:=zhs hb hHeld.2.2.2
            refine ⟨_,rfl,?_⟩
            have n0_:=Aside0.mk (Kd.V_below (zV HO_0.out) hb)
            have n1_:=Aside0.mk (Kd.V_below (zV HO_1.out) hb)
            have n2_:=Aside0.mk (Kd.N_below (zN HO_9.out) hb)
            have n3_:=Aside0.mk (Kd.V_below (zV HL194_0.out) hb)
            have n4_:=Aside0.mk (Kd.V_below (zV HL195_0.out) hb)
            have n5_:=Aside0.mk (Kd.C_below (zC HR194_0.out) hb)
            have n6_:=Aside0.mk (Kd.C_below (zC HR195_0.out) hb)
            have n7_:=Aside0.mk (below_step zhb hb)
            clear HO_0
            clear HO_1
            clear HO_9
            clear HL194_0
            clear HL195_0
            clear HR194_0
            clear HR195_0
            clear HB
            have HO_0:=n0_
            have HO_1:=n1_
            have HO_9:=n2_
            have HL194_0:=n3_
            have HL195_0:=n4_
            have HR194_0:=n5_
            have HR195_0:=n6_
            have HB:=n7_
            clear n0_ n1_ n2_ n3_ n4_ n5_ n6_ n7_
            (try clear hb)
            (try clear hb2)
            (try clear hk)
            (try clear hi)
            refine hK.out _ _ ⟨HS0_,HS1_,HS2_,HS3_⟩ (fun hHeld=>?_)
            clear hK K
            refine norm_ (a':=?_) ?_ ?_
            rotate_left
            ·show Act.put _ (some 28) _=_
             simp only [Act.put,zp1,zp2,zp3,i64_w,i32_w]
             rfl
            refine pure_ (i:=8) (N:=some 10) (v:=?_) (a':=?_) #[Y,Y,Y,Y,Y,Y,Y,Y,Y] rfl rfl zan (fun _ _ _ h=>h) (Or.inl ⟨by rfl,?_⟩) ?_ ?_
            rotate_left
            ·intro w'
             go_simp
             with_reducible rfl
            rotate_left
            ·simp only [Act.put,zp1,zp2,zp3,i64_w,i32_w]
             rfl
            refine done_ (done_of HT_.out (by kernel_rfl)) ?_
            try go_wp2
            have n0_:=Aside0.mk (Kd.V_drew HO_0.out)
            have n1_:=Aside0.mk (Kd.V_drew HO_1.out)
            have n2_:=Aside0.mk (Kd.N_drew HO_9.out)
            have n3_:=Aside0.mk (Kd.V_drew HL194_0.out)
            have n4_:=Aside0.mk (Kd.V_drew HL195_0.out)
            have n5_:=Aside0.mk (Kd.C_drew HR194_0.out)
            have n6_:=Aside0.mk (Kd.C_drew HR195_0.out)
            have n7_:=Aside0.mk (below_drew1 HB.out)
            clear HO_0
            clear HO_1
            clear HO_9
            clear HL194_0
            clear HL195_0
            clear HR194_0
            clear HR195_0
            clear HB
            have HO_0:=n0_
            have HO_1:=n1_
            have HO_9:=n2_
            have HL194_0:=n3_
            have HL195_0:=n4_
            have HR194_0:=n5_
            have HR195_0:=n6_
            have HB:=n7_
            clear n0_ n1_ n2_ n3_ n4_ n5_ n6_ n7_
            have p215:0≤(0:Int):=(by omega)
            have q215:0 < (x0_1.length:Int):=zod
            obtain ⟨ad215,A215_0,c215_0,e215,hx215_0,hx215_1,hl215_0,hi215_0⟩:=at_T54 (Kd.V_reads' HO_0.out).2.2 0 p215 q215
            obtain rfl:ad194=ad215:=(by injection e215)
            obtain ⟨ce215,hce215,hMe215,hcc215⟩:=Kd.V_get HO_0.out z54 0 p215 (by first|exact q215|exact zod|(have e_:=(Kd.V_reads' HO_0.out).1;omega))
            obtain ⟨ua215_0,uc215_0,rfl,ul215_0,ge215_0⟩:=k54_openF hMe215
            have hv215_0:=hcc215 0 _ rfl
            rw [Nat.add_zero] at hv215_0
            replace hv215_0:=Option.some.inj (hv215_0.symm.trans hx215_0)
            injection hv215_0 with hva_ hvn_ hvc_
            rw [hva_] at ge215_0
            rw [hvc_] at ul215_0
            have HL215_0:=Aside0.mk (show Kd.V (Kd.int .i64) 3 _ w.heap.size _ _ ((rd_T54 x0_1 0).f0) from Kd.V_mk ul215_0 ge215_0)
            clear hva_ hvn_ hvc_ ge215_0 ul215_0
            clear hcc215 hce215
            have qi215:(0 < x0_1.length)=True:=eq_true (by omega)
            (try rw [show ((0:Int)).toNat=0 from rfl] at hx215_0)
            (try rw [show 0 * 2=0 from rfl] at hx215_0)
            (try rw [Addr.add_zero'] at hx215_0)
            (try rw [show ((0:Int)).toNat=0 from rfl] at hx215_1)
            (try rw [show 0 * 2=0 from rfl] at hx215_1)
            (try rw [Addr.add_zero'] at hx215_1)
            have HR215_0:=Aside0.mk hi215_0
            have HC215_0:=Aside0.mk hl215_0
            clear hi215_0 hl215_0
            replace p215:=eq_true p215
            replace q215:=eq_true q215
            have p216:0≤(0:Int):=(by omega)
            have q216:0 < (x1_1.length:Int):=zod
            obtain ⟨ad216,A216_0,c216_0,e216,hx216_0,hx216_1,hl216_0,hi216_0⟩:=at_T54 (Kd.V_reads' HO_1.out).2.2 0 p216 q216
            obtain rfl:ad195=ad216:=(by injection e216)
            obtain ⟨ce216,hce216,hMe216,hcc216⟩:=Kd.V_get HO_1.out z54 0 p216 (by first|exact q216|exact zod|(have e_:=(Kd.V_reads' HO_1.out).1;omega))
            obtain ⟨ua216_0,uc216_0,rfl,ul216_0,ge216_0⟩:=k54_openF hMe216
            have hv216_0:=hcc216 0 _ rfl
            rw [Nat.add_zero] at hv216_0
            replace hv216_0:=Option.some.inj (hv216_0.symm.trans hx216_0)
            injection hv216_0 with hva_ hvn_ hvc_
            rw [hva_] at ge216_0
            rw [hvc_] at ul216_0
            have HL216_0:=Aside0.mk (show Kd.V (Kd.int .i64) 3 _ w.heap.size _ _ ((rd_T54 x1_1 0).f0) from Kd.V_mk ul216_0 ge216_0)
            clear hva_ hvn_ hvc_ ge216_0 ul216_0
            clear hcc216 hce216
            have qi216:(0 < x1_1.length)=True:=eq_true (by omega)
            (try rw [show ((0:Int)).toNat=0 from rfl] at hx216_0)
            (try rw [show 0 * 2=0 from rfl] at hx216_0)
            (try rw [Addr.add_zero'] at hx216_0)
            (try rw [show ((0:Int)).toNat=0 from rfl] at hx216_1)
            (try rw [show 0 * 2=0 from rfl] at hx216_1)
            (try rw [Addr.add_zero'] at hx216_1)
            have HR216_0:=Aside0.mk hi216_0
            have HC216_0:=Aside0.mk hl216_0
            clear hi216_0 hl216_0
            replace p216:=eq_true p216
            replace q216:=eq_true q216
            refine start_ (n:=14) (S:=fun w'=>w'.cell? ad194=some (.slice A215_0 ((rd_T54 x0_1 0).f0).length c215_0)∧w'.cell? ⟨ad194.block,ad194.off + 1,none⟩=some (.int .i64 ((rd_T54 x0_1 0).f1))∧w'.cell? ad195=some (.slice A216_0 ((rd_T54 x1_1 0).f0).length c216_0)∧w'.cell? ⟨ad195.block,ad195.off + 1,none⟩=some (.int .i64 ((rd_T54 x1_1 0).f1))) (ds:=[]) #[X,X,X,X,X,X,X,X,X,X,X,X,X,X] (by kernel_rfl) rfl rfl ⟨hx215_0,hx215_1,hx216_0,hx216_1⟩ (fun hHeld=>?_);refine with_tabW impl_merged_impl_Item__impl_cmpItem_impl_together_1.tab4 impl_merged_impl_Item__impl_cmpItem_impl_together_1.bits4 (fun HT_ HW_=>?_)
            generalize w57.drew=w58 at HO_0 HO_1 HO_9 HL194_0 HL195_0 HR194_0 HR195_0 HB HL215_0 HL216_0 HR215_0 HR216_0 hx215_0 hx215_1 hx216_0 hx216_1 hHeld ⊢
            refine pure_ (i:=0) (N:=some 30) (v:=?_) (a':=?_) #[Y,X,X,X,X,X,X,X,X,X,X,X,X,X] rfl rfl zan (fun _ _ _ h=>h) (Or.inl ⟨by rfl,?_⟩) ?_ ?_
            rotate_left
            ·intro w'
             go_simp
             with_reducible rfl
            rotate_left
            ·simp only [Act.put,zp1,zp2,zp3,i64_w,i32_w]
             rfl
            refine pure_ (i:=1) (N:=some 31) (v:=?_) (a':=?_) #[Y,Y,X,X,X,X,X,X,X,X,X,X,X,X] rfl rfl zan (fun _ _ _ h=>h) (Or.inl ⟨by rfl,?_⟩) ?_ ?_
            rotate_left
            ·intro w'
             go_simp
             with_reducible rfl
            rotate_left
            ·simp only [Act.put,zp1,zp2,zp3,i64_w,i32_w]
             rfl
            refine pure_ (i:=2) (N:=some 32) (v:=?_) (a':=?_) #[Y,Y,Y,X,X,X,X,X,X,X,X,X,X,X] rfl rfl zan (fun _ _ _ h=>h) (Or.inl ⟨by rfl,?_⟩) ?_ ?_
            rotate_left
            ·intro w'
             go_simp
             with_reducible rfl
            rotate_left
            ·simp only [Act.put,zp1,zp2,zp3,i64_w,i32_w]
             rfl
            refine pure_ (i:=4) (N:=some 34) (v:=?_) (a':=?_) #[Y,Y,Y,X,Y,X,X,X,X,X,X,X,X,X] rfl rfl zan (fun _ _ _ h=>h) (Or.inl ⟨by rfl,?_⟩) ?_ ?_
            rotate_left
            ·intro w'
             go_simp
             with_reducible rfl
            rotate_left
            ·simp only [Act.put,zp1,zp2,zp3,i64_w,i32_w]
             rfl
            refine pure_ (i:=5) (N:=some 35) (v:=?_) (a':=?_) #[Y,Y,Y,X,Y,Y,X,X,X,X,X,X,X,X] rfl rfl zan (fun _ _ _ h=>h) (Or.inl ⟨by rfl,?_⟩) ?_ ?_
            rotate_left
            ·intro w'
             go_simp
             with_reducible rfl
            rotate_left
            ·simp only [Act.put,zp1,zp2,zp3,i64_w,i32_w]
             rfl
            refine take_ (i:=3) (N:=some 33) (v:=?_) (a':=?_) #[Y,Y,Y,Y,Y,Y,X,X,X,X,X,X,X,X] rfl rfl ztw (fun _ _ _ h=>h) (Or.inl ⟨by rfl,?_⟩) hHeld ?_ ?_
            rotate_left
            ·rintro w' ⟨s0,s1,s2,s3⟩
             go_simp
             with_reducible rfl
            rotate_left
            ·simp only [Act.put,zp1,zp2,zp3,i64_w,i32_w]
             rfl
            refine take_ (i:=6) (N:=some 36) (v:=?_) (a':=?_) #[Y,Y,Y,Y,Y,Y,Y,X,X,X,X,X,X,X] rfl rfl ztw (fun _ _ _ h=>h) (Or.inl ⟨by rfl,?_⟩) hHeld ?_ ?_
            rotate_left
            ·rintro w' ⟨s0,s1,s2,s3⟩
             go_simp
             with_reducible rfl
            rotate_left
            ·simp only [Act.put,zp1,zp2,zp3,i64_w,i32_w]
             rfl
            refine join_ (σ:=Value × Nat) 2 #[Y,Y,Y,Y,Y,Y,Y,Y,Y,Y,Y,Y,X,X] (fun s_=>[(37,.tuple #[.agg #[s_.1,.int .i64 t220],.bool false]),(11,.pointer (some ⟨s_.2,0,none⟩)),(29,.tuple #[.agg #[s_.1,.int .i64 t220],.bool false]),(38,.agg #[s_.1,.int .i64 t220]),(39,.bool false)]) (fun s_ w'=>(w'.cell? ad194=some (.slice A215_0 ((rd_T54 x0_1 0).f0).length c215_0)∧w'.cell? ⟨ad194.block,ad194.off + 1,none⟩=some (.int .i64 ((rd_T54 x0_1 0).f1))∧w'.cell? ad195=some (.slice A216_0 ((rd_T54 x1_1 0).f0).length c216_0)∧w'.cell? ⟨ad195.block,ad195.off + 1,none⟩=some (.int .i64 ((rd_T54 x1_1 0).f1)))∧(Kd.V (Kd.int .i64) 3 w' w.heap.size (fun k_=>((P0_ k_∨P1_ k_)∨w.heap.size≤k_)∧some k_≠(u9:Value).ownBlock∧k_≠s_.2) (.slice A194_0 ((rd_T54 x0_1 0).f0).length c194_0) ((rd_T54 x0_1 0).f0))∧(Kd.V (Kd.int .i64) 3 w' w.heap.size (fun k_=>((P0_ k_∨P1_ k_)∨w.heap.size≤k_)∧some k_≠(u9:Value).ownBlock∧k_≠s_.2) (.slice A195_0 ((rd_T54 x1_1 0).f0).length c195_0) ((rd_T54 x1_1 0).f0))∧(Kd.V (Kd.int .i64) 3 w' w.heap.size (fun k_=>((P0_ k_∨P1_ k_)∨w.heap.size≤k_)∧some k_≠(u9:Value).ownBlock∧k_≠s_.2) (.slice A215_0 ((rd_T54 x0_1 0).f0).length c215_0) ((rd_T54 x0_1 0).f0))∧(Kd.V (Kd.int .i64) 3 w' w.heap.size (fun k_=>((P0_ k_∨P1_ k_)∨w.heap.size≤k_)∧some k_≠(u9:Value).ownBlock∧k_≠s_.2) (.slice A216_0 ((rd_T54 x1_1 0).f0).length c216_0) ((rd_T54 x1_1 0).f0))∧(Kd.V (Kd.int .i64) 3 w' w.heap.size (fun k_=>((P0_ k_∨P1_ k_)∨w.heap.size≤k_)∧some k_≠(u9:Value).ownBlock∧k_≠s_.2) s_.1 t217)∧(Kd.V k54 54 w' w.heap.size (fun k_=>((P0_ k_∨P1_ k_)∨w.heap.size≤k_)∧some k_≠(u9:Value).ownBlock∧k_≠s_.2) (.slice (some ad194) x0_1.length co54) x0_1)∧(Kd.V k54 54 w' w.heap.size (fun k_=>((P0_ k_∨P1_ k_)∨w.heap.size≤k_)∧some k_≠(u9:Value).ownBlock∧k_≠s_.2) (.slice (some ad195) x1_1.length co55) x1_1)∧(Kd.N k54 54 w' w.heap.size (fun k_=>((P0_ k_∨P1_ k_)∨w.heap.size≤k_)∧k_≠s_.2) u9 x9_1)∧(w'.heap[s_.2]?=some (.cells #[.slice none 0 0,.int .i64 0] 54 (0,0)))∧(w.heap.size≤s_.2)∧(w.heap.size≤s_.2)∧(Below w.heap.size w w')) ?_ ?_
            rotate_left
            ·intro hCont
             refine two_ (i:=7) (j:=11) (Ni:=some 37) (Nj:=some 11) #[Y,Y,Y,Y,Y,Y,Y,Y,X,X,X,X,X,X] #[Y,Y,Y,Y,Y,Y,Y,X,X,X,X,Y,X,X] rfl rfl rfl rfl (two_of HT_.out (by kernel_rfl)) (by decide) (by decide) (fun K hK=>?_) (fun K hK=>?_)
             ·skip
              refine goes_f (.tmp 30) Try.func110 (by kernel_rfl) rfl #[.agg #[.slice A215_0 ((rd_T54 x0_1 0).f0).length c215_0,.int .i64 ((rd_T54 x0_1 0).f1)],.agg #[.slice A216_0 ((rd_T54 x1_1 0).f0).length c216_0,.int .i64 ((rd_T54 x1_1 0).f1)]] (by rfl) rfl rfl rfl zar ?_
              with_reducible refine (impl_together_1.calls (fun k_=>(((P0_ k_∨P1_ k_)∨w.heap.size≤k_)∧some k_≠(u9:Value).ownBlock)) _ _ ((rd_T54 x0_1 0).f0) ((rd_T54 x0_1 0).f1) _ _ ((rd_T54 x1_1 0).f0) ((rd_T54 x1_1 0).f1) t217 t220 false _ ?side1 ?side2 ?side3 A30.out).mono ?_
              (case side1=>exact HL215_0.out)
              (case side2=>exact zC (zC HR216_0.out))
              (case side3=>exact HC216_0.out)
              rintro e w59 ⟨v218,rfl,ho0,hb⟩
              have HS0_:=zhs hb hHeld.1
              have HS1_:=zhs hb hHeld.2.1
              have HS2_:=zhs hb hHeld.2.2.1
              have HS3_:=zhs hb hHeld.2.2.2
              refine ⟨_,rfl,?_⟩
              have n0_:=Aside0.mk (Kd.V_below (zV HO_0.out) hb)
              have n1_:=Aside0.mk (Kd.V_below (zV HO_1.out) hb)
              have n2_:=Aside0.mk (Kd.N_below (zN HO_9.out) hb)
              have n3_:=Aside0.mk (Kd.V_below (zV HL194_0.out) hb)
              have n4_:=Aside0.mk (Kd.V_below (zV HL195_0.out) hb)
              have n5_:=Aside0.mk (Kd.V_below (zV HL215_0.out) hb)
              have n6_:=Aside0.mk (Kd.V_below (zV HL216_0.out) hb)
              have n7_:=Aside0.mk (Kd.V_lower (Kd.V_mono (ok':=fun k_=>((P0_ k_∨P1_ k_)∨w.heap.size≤k_)∧some k_≠(u9:Value).ownBlock) ho0 (fun k_ hk_=>⟨Or.elim hk_ (fun hs_=>hs_.1) (fun hn_=>(.inr (Nat.le_trans (below_size zhb) hn_))),Or.elim hk_ (fun hs_=>hs_.2) (fun hn_=>(Kd.fresh' (Kd.N_lt (zN HO_9.out)) k_ hn_))⟩)) (below_size zhb))
              have n8_:=Aside0.mk (Kd.C_below (zC HR194_0.out) hb)
              have n9_:=Aside0.mk (Kd.C_below (zC HR195_0.out) hb)
              have n10_:=Aside0.mk (Kd.C_below (zC HR215_0.out) hb)
              have n11_:=Aside0.mk (Kd.C_below (zC HR216_0.out) hb)
              have n12_:=Aside0.mk (below_step zhb hb)
              clear HO_0
              clear HO_1
              clear HO_9
              clear HL194_0
              clear HL195_0
              clear HL215_0
              clear HL216_0
              clear HR194_0
              clear HR195_0
              clear HR215_0
              clear HR216_0
              clear HB
              have HO_0:=n0_
              have HO_1:=n1_
              have HO_9:=n2_
              have HL194_0:=n3_
              have HL195_0:=n4_
              have HL215_0:=n5_
              have HL216_0:=n6_
              have HO219:=n7_
              have HR194_0:=n8_
              have HR195_0:=n9_
              have HR215_0:=n10_
              have HR216_0:=n11_
              have HB:=n12_
              clear n0_ n1_ n2_ n3_ n4_ n5_ n6_ n7_ n8_ n9_ n10_ n11_ n12_
              (try clear hb)
              (try clear hb2)
              (try clear hk)
              (try clear hi)
              (try clear ho0)
              refine hK.out _ _ ⟨HS0_,HS1_,HS2_,HS3_⟩ (fun hHeld=>?_)
              clear hK K
              refine norm_ (a':=?_) ?_ ?_
              rotate_left
              ·show Act.put _ (some 37) _=_
               simp only [Act.put,zp1,zp2,zp3,i64_w,i32_w]
               rfl
              refine pure_ (i:=8) (N:=some 29) (v:=?_) (a':=?_) #[Y,Y,Y,Y,Y,Y,Y,Y,Y,X,X,X,X,X] rfl rfl zan (fun _ _ _ h=>h) (Or.inl ⟨by rfl,?_⟩) ?_ ?_
              rotate_left
              ·intro w'
               go_simp
               with_reducible rfl
              rotate_left
              ·simp only [Act.put,zp1,zp2,zp3,i64_w,i32_w]
               rfl
              refine pure_ (i:=9) (N:=some 38) (v:=?_) (a':=?_) #[Y,Y,Y,Y,Y,Y,Y,Y,Y,Y,X,X,X,X] rfl rfl zan (fun _ _ _ h=>h) (Or.inl ⟨by rfl,?_⟩) ?_ ?_
              rotate_left
              ·intro w'
               go_simp
               with_reducible rfl
              rotate_left
              ·simp only [Act.put,zp1,zp2,zp3,i64_w,i32_w]
               rfl
              refine pure_ (i:=10) (N:=some 39) (v:=?_) (a':=?_) #[Y,Y,Y,Y,Y,Y,Y,Y,Y,Y,Y,X,X,X] rfl rfl zan (fun _ _ _ h=>h) (Or.inl ⟨by rfl,?_⟩) ?_ ?_
              rotate_left
              ·intro w'
               go_simp
               with_reducible rfl
              rotate_left
              ·simp only [Act.put,zp1,zp2,zp3,i64_w,i32_w]
               rfl
              refine one_ (i:=11) (N:=some 11) #[Y,Y,Y,Y,Y,Y,Y,Y,Y,Y,Y,Y,X,X] rfl rfl (one_of HT_.out (by kernel_rfl)) (by decide) (fun K hK=>?_)
              refine box_step ?hg (N:=11) ?hd (cs:=#[.slice none 0 0,.int .i64 0]) (t:=54) ?hr ?_;(case hd=>rfl);(case hg=>rfl);(case hr=>first|(go_simp;done)|(go_simp;rfl))
              intro gb222 hg w60 hbox hb
              have HS0_:=zhs hb hHeld.1
              have HS1_:=zhs hb hHeld.2.1
              have HS2_:=zhs hb hHeld.2.2.1
              have HS3_:=zhs hb hHeld.2.2.2
              have n0_:=Aside0.mk (Kd.V_below (Kd.V_elderB (zV HO_0.out) gb222 (Nat.le_of_eq hg.symm)) hb)
              have n1_:=Aside0.mk (Kd.V_below (Kd.V_elderB (zV HO_1.out) gb222 (Nat.le_of_eq hg.symm)) hb)
              have n2_:=Aside0.mk (Kd.N_below (Kd.N_elderB (zN HO_9.out) gb222 (Nat.le_of_eq hg.symm)) hb)
              have n3_:=Aside0.mk (Kd.V_below (Kd.V_elderB (zV HL194_0.out) gb222 (Nat.le_of_eq hg.symm)) hb)
              have n4_:=Aside0.mk (Kd.V_below (Kd.V_elderB (zV HL195_0.out) gb222 (Nat.le_of_eq hg.symm)) hb)
              have n5_:=Aside0.mk (Kd.V_below (Kd.V_elderB (zV HL215_0.out) gb222 (Nat.le_of_eq hg.symm)) hb)
              have n6_:=Aside0.mk (Kd.V_below (Kd.V_elderB (zV HL216_0.out) gb222 (Nat.le_of_eq hg.symm)) hb)
              have n7_:=Aside0.mk (Kd.V_below (Kd.V_elderB (zV HO219.out) gb222 (Nat.le_of_eq hg.symm)) hb)
              have n8_:=Aside0.mk (Kd.C_below (zC HR194_0.out) hb)
              have n9_:=Aside0.mk (Kd.C_below (zC HR195_0.out) hb)
              have n10_:=Aside0.mk (Kd.C_below (zC HR215_0.out) hb)
              have n11_:=Aside0.mk (Kd.C_below (zC HR216_0.out) hb)
              have n12_:=Aside0.mk (below_step zhb hb)
              have n13_:=Aside0.mk (hbox)
              have n14_:=Aside0.mk ((by rw [hg];exact (below_size zhb):w.heap.size≤gb222))
              have n15_:=Aside0.mk ((by rw [hg];exact (below_size zhb):w.heap.size≤gb222))
              clear HO_0
              clear HO_1
              clear HO_9
              clear HL194_0
              clear HL195_0
              clear HL215_0
              clear HL216_0
              clear HO219
              clear HR194_0
              clear HR195_0
              clear HR215_0
              clear HR216_0
              clear HB
              have HO_0:=n0_
              have HO_1:=n1_
              have HO_9:=n2_
              have HL194_0:=n3_
              have HL195_0:=n4_
              have HL215_0:=n5_
              have HL216_0:=n6_
              have HO219:=n7_
              have HR194_0:=n8_
              have HR195_0:=n9_
              have HR215_0:=n10_
              have HR216_0:=n11_
              have HB:=n12_
              have BK222:=n13_
              have GW222:=n14_
              have GE222:=n15_
              clear n0_ n1_ n2_ n3_ n4_ n5_ n6_ n7_ n8_ n9_ n10_ n11_ n12_ n13_ n14_ n15_
              clear hb hbox hg
              refine hK.out _ _ ⟨HS0_,HS1_,HS2_,HS3_⟩ (fun hHeld=>?_)
              clear hK K
              refine norm_ (a':=?_) ?_ ?_
              rotate_left
              ·show Act.put _ (some 11) _=_
               simp only [Act.put,zp1,zp2,zp3,i64_w,i32_w]
               rfl
              exact norm_ (by simp only [putAll,Act.put,zp1,zp2,zp3]) (hCont (v218,gb222) _ ⟨hHeld,(by (with_reducible repeat (first|apply Kd.V_alloc|apply Kd.V_drewN|apply Kd.V_drew));exact Kd.V_mono HL194_0.out (fun _ hk=>⟨hk.1.1,⟨hk.1.2,hk.2⟩⟩)),(by (with_reducible repeat (first|apply Kd.V_alloc|apply Kd.V_drewN|apply Kd.V_drew));exact Kd.V_mono HL195_0.out (fun _ hk=>⟨hk.1.1,⟨hk.1.2,hk.2⟩⟩)),(by (with_reducible repeat (first|apply Kd.V_alloc|apply Kd.V_drewN|apply Kd.V_drew));exact Kd.V_mono HL215_0.out (fun _ hk=>⟨hk.1.1,⟨hk.1.2,hk.2⟩⟩)),(by (with_reducible repeat (first|apply Kd.V_alloc|apply Kd.V_drewN|apply Kd.V_drew));exact Kd.V_mono HL216_0.out (fun _ hk=>⟨hk.1.1,⟨hk.1.2,hk.2⟩⟩)),(by (with_reducible repeat (first|apply Kd.V_alloc|apply Kd.V_drewN|apply Kd.V_drew));exact Kd.V_mono HO219.out (fun _ hk=>⟨hk.1.1,⟨hk.1.2,hk.2⟩⟩)),(by (with_reducible repeat (first|apply Kd.V_alloc|apply Kd.V_drewN|apply Kd.V_drew));exact Kd.V_mono HO_0.out (fun _ hk=>⟨hk.1.1,⟨hk.1.2,hk.2⟩⟩)),(by (with_reducible repeat (first|apply Kd.V_alloc|apply Kd.V_drewN|apply Kd.V_drew));exact Kd.V_mono HO_1.out (fun _ hk=>⟨hk.1.1,⟨hk.1.2,hk.2⟩⟩)),(zN HO_9.out),(by (with_reducible repeat (first|refine blk_drewN ?_ _|refine blk_drew ?_|refine blk_alloc ?_ _));exact BK222.out),GW222.out,GE222.out,(by repeat (first|(with_reducible first|exact HB.out|apply below_alloc|apply pw_below_drewN|apply below_drew1|refine below_set ?_ GE222.out)|exact HB.out))⟩)
             ·skip
              refine box_step ?hg (N:=11) ?hd (cs:=#[.slice none 0 0,.int .i64 0]) (t:=54) ?hr ?_;(case hd=>rfl);(case hg=>rfl);(case hr=>first|(go_simp;done)|(go_simp;rfl))
              intro gb222 hg w59 hbox hb
              have HS0_:=zhs hb hHeld.1
              have HS1_:=zhs hb hHeld.2.1
              have HS2_:=zhs hb hHeld.2.2.1
              have HS3_:=zhs hb hHeld.2.2.2
              have n0_:=Aside0.mk (Kd.V_below (Kd.V_elderB (zV HO_0.out) gb222 (Nat.le_of_eq hg.symm)) hb)
              have n1_:=Aside0.mk (Kd.V_below (Kd.V_elderB (zV HO_1.out) gb222 (Nat.le_of_eq hg.symm)) hb)
              have n2_:=Aside0.mk (Kd.N_below (Kd.N_elderB (zN HO_9.out) gb222 (Nat.le_of_eq hg.symm)) hb)
              have n3_:=Aside0.mk (Kd.V_below (Kd.V_elderB (zV HL194_0.out) gb222 (Nat.le_of_eq hg.symm)) hb)
              have n4_:=Aside0.mk (Kd.V_below (Kd.V_elderB (zV HL195_0.out) gb222 (Nat.le_of_eq hg.symm)) hb)
              have n5_:=Aside0.mk (Kd.V_below (Kd.V_elderB (zV HL215_0.out) gb222 (Nat.le_of_eq hg.symm)) hb)
              have n6_:=Aside0.mk (Kd.V_below (Kd.V_elderB (zV HL216_0.out) gb222 (Nat.le_of_eq hg.symm)) hb)
              have n7_:=Aside0.mk (Kd.C_below (zC HR194_0.out) hb)
              have n8_:=Aside0.mk (Kd.C_below (zC HR195_0.out) hb)
              have n9_:=Aside0.mk (Kd.C_below (zC HR215_0.out) hb)
              have n10_:=Aside0.mk (Kd.C_below (zC HR216_0.out) hb)
              have n11_:=Aside0.mk (below_step zhb hb)
              have n12_:=Aside0.mk (hbox)
              have n13_:=Aside0.mk ((by rw [hg];exact (below_size zhb):w.heap.size≤gb222))
              have n14_:=Aside0.mk ((by rw [hg];exact (below_size zhb):w.heap.size≤gb222))
              clear HO_0
              clear HO_1
              clear HO_9
              clear HL194_0
              clear HL195_0
              clear HL215_0
              clear HL216_0
              clear HR194_0
              clear HR195_0
              clear HR215_0
              clear HR216_0
              clear HB
              have HO_0:=n0_
              have HO_1:=n1_
              have HO_9:=n2_
              have HL194_0:=n3_
              have HL195_0:=n4_
              have HL215_0:=n5_
              have HL216_0:=n6_
              have HR194_0:=n7_
              have HR195_0:=n8_
              have HR215_0:=n9_
              have HR216_0:=n10_
              have HB:=n11_
              have BK222:=n12_
              have GW222:=n13_
              have GE222:=n14_
              clear n0_ n1_ n2_ n3_ n4_ n5_ n6_ n7_ n8_ n9_ n10_ n11_ n12_ n13_ n14_
              clear hb hbox hg
              refine hK.out _ _ ⟨HS0_,HS1_,HS2_,HS3_⟩ (fun hHeld=>?_)
              clear hK K
              refine norm_ (a':=?_) ?_ ?_
              rotate_left
              ·show Act.put _ (some 11) _=_
               simp only [Act.put,zp1,zp2,zp3,i64_w,i32_w]
               rfl
              refine one_ (i:=7) (N:=some 37) #[Y,Y,Y,Y,Y,Y,Y,Y,X,X,X,Y,X,X] rfl rfl (one_of HT_.out (by kernel_rfl)) (by decide) (fun K hK=>?_)
              refine goes_f (.tmp 30) Try.func110 (by kernel_rfl) rfl #[.agg #[.slice A215_0 ((rd_T54 x0_1 0).f0).length c215_0,.int .i64 ((rd_T54 x0_1 0).f1)],.agg #[.slice A216_0 ((rd_T54 x1_1 0).f0).length c216_0,.int .i64 ((rd_T54 x1_1 0).f1)]] (by rfl) rfl rfl rfl zar ?_
              with_reducible refine (impl_together_1.calls (fun k_=>((((P0_ k_∨P1_ k_)∨w.heap.size≤k_)∧some k_≠(u9:Value).ownBlock)∧k_≠gb222)) _ _ ((rd_T54 x0_1 0).f0) ((rd_T54 x0_1 0).f1) _ _ ((rd_T54 x1_1 0).f0) ((rd_T54 x1_1 0).f1) t217 t220 false _ ?side1 ?side2 ?side3 A30.out).mono ?_
              (case side1=>exact HL215_0.out)
              (case side2=>exact zC (zC HR216_0.out))
              (case side3=>exact HC216_0.out)
              rintro e w60 ⟨v218,rfl,ho0,hb⟩
              have HS0_:=zhs hb hHeld.1
              have HS1_:=zhs hb hHeld.2.1
              have HS2_:=zhs hb hHeld.2.2.1
              have HS3_:=zhs hb hHeld.2.2.2
              refine ⟨_,rfl,?_⟩
              have n0_:=Aside0.mk (Kd.V_below (zV HO_0.out) hb)
              have n1_:=Aside0.mk (Kd.V_below (zV HO_1.out) hb)
              have n2_:=Aside0.mk (Kd.N_below (zN HO_9.out) hb)
              have n3_:=Aside0.mk (Kd.V_below (zV HL194_0.out) hb)
              have n4_:=Aside0.mk (Kd.V_below (zV HL195_0.out) hb)
              have n5_:=Aside0.mk (Kd.V_below (zV HL215_0.out) hb)
              have n6_:=Aside0.mk (Kd.V_below (zV HL216_0.out) hb)
              have n7_:=Aside0.mk (Kd.V_lower (Kd.V_mono (ok':=fun k_=>((P0_ k_∨P1_ k_)∨w.heap.size≤k_)∧some k_≠(u9:Value).ownBlock∧k_≠gb222) ho0 (fun k_ hk_=>⟨Or.elim hk_ (fun hs_=>hs_.1.1) (fun hn_=>(.inr (Nat.le_trans (below_size (by repeat (first|(with_reducible first|exact HB.out|apply below_alloc|apply pw_below_drewN|apply below_drew1|refine below_set ?_ GE222.out)|exact HB.out))) hn_))),Or.elim hk_ (fun hs_=>hs_.1.2) (fun hn_=>(Kd.fresh' (Kd.N_lt (zN HO_9.out)) k_ hn_)),Or.elim hk_ (fun hs_=>hs_.2) (fun hn_=>(Kd.freshB (g:=gb222) (o:=.cells #[.slice none 0 0,.int .i64 0] 54 (0,0)) (by (with_reducible repeat (first|refine blk_drewN ?_ _|refine blk_drew ?_|refine blk_alloc ?_ _));exact BK222.out) k_ hn_))⟩)) (below_size (by repeat (first|(with_reducible first|exact HB.out|apply below_alloc|apply pw_below_drewN|apply below_drew1|refine below_set ?_ GE222.out)|exact HB.out))))
              have n8_:=Aside0.mk (Kd.C_below (zC HR194_0.out) hb)
              have n9_:=Aside0.mk (Kd.C_below (zC HR195_0.out) hb)
              have n10_:=Aside0.mk (Kd.C_below (zC HR215_0.out) hb)
              have n11_:=Aside0.mk (Kd.C_below (zC HR216_0.out) hb)
              have n12_:=Aside0.mk (blk_below (g:=gb222) (o:=.cells #[.slice none 0 0,.int .i64 0] 54 (0,0)) (by (with_reducible repeat (first|refine blk_drewN ?_ _|refine blk_drew ?_|refine blk_alloc ?_ _));exact BK222.out) hb)
              have n13_:=Aside0.mk (below_step (by repeat (first|(with_reducible first|exact HB.out|apply below_alloc|apply pw_below_drewN|apply below_drew1|refine below_set ?_ GE222.out)|exact HB.out)) hb)
              clear HO_0
              clear HO_1
              clear HO_9
              clear HL194_0
              clear HL195_0
              clear HL215_0
              clear HL216_0
              clear HR194_0
              clear HR195_0
              clear HR215_0
              clear HR216_0
              clear BK222
              clear HB
              have HO_0:=n0_
              have HO_1:=n1_
              have HO_9:=n2_
              have HL194_0:=n3_
              have HL195_0:=n4_
              have HL215_0:=n5_
              have HL216_0:=n6_
              have HO219:=n7_
              have HR194_0:=n8_
              have HR195_0:=n9_
              have HR215_0:=n10_
              have HR216_0:=n11_
              have BK222:=n12_
              have HB:=n13_
              clear n0_ n1_ n2_ n3_ n4_ n5_ n6_ n7_ n8_ n9_ n10_ n11_ n12_ n13_
              (try clear hb)
              (try clear hb2)
              (try clear hk)
              (try clear hi)
              (try clear ho0)
              refine hK.out _ _ ⟨HS0_,HS1_,HS2_,HS3_⟩ (fun hHeld=>?_)
              clear hK K
              refine norm_ (a':=?_) ?_ ?_
              rotate_left
              ·show Act.put _ (some 37) _=_
               simp only [Act.put,zp1,zp2,zp3,i64_w,i32_w]
               rfl
              refine pure_ (i:=8) (N:=some 29) (v:=?_) (a':=?_) #[Y,Y,Y,Y,Y,Y,Y,Y,Y,X,X,Y,X,X] rfl rfl zan (fun _ _ _ h=>h) (Or.inl ⟨by rfl,?_⟩) ?_ ?_
              rotate_left
              ·intro w'
               go_simp
               with_reducible rfl
              rotate_left
              ·simp only [Act.put,zp1,zp2,zp3,i64_w,i32_w]
               rfl
              refine pure_ (i:=9) (N:=some 38) (v:=?_) (a':=?_) #[Y,Y,Y,Y,Y,Y,Y,Y,Y,Y,X,Y,X,X] rfl rfl zan (fun _ _ _ h=>h) (Or.inl ⟨by rfl,?_⟩) ?_ ?_
              rotate_left
              ·intro w'
               go_simp
               with_reducible rfl
              rotate_left
              ·simp only [Act.put,zp1,zp2,zp3,i64_w,i32_w]
               rfl
              refine pure_ (i:=10) (N:=some 39) (v:=?_) (a':=?_) #[Y,Y,Y,Y,Y,Y,Y,Y,Y,Y,Y,Y,X,X] rfl rfl zan (fun _ _ _ h=>h) (Or.inl ⟨by rfl,?_⟩) ?_ ?_
              rotate_left
              ·intro w'
               go_simp
               with_reducible rfl
              rotate_left
              ·simp only [Act.put,zp1,zp2,zp3,i64_w,i32_w]
               rfl
              exact norm_ (by simp only [putAll,Act.put,zp1,zp2,zp3]) (hCont (v218,gb222) _ ⟨hHeld,(by (with_reducible repeat (first|apply Kd.V_alloc|apply Kd.V_drewN|apply Kd.V_drew));exact Kd.V_mono HL194_0.out (fun _ hk=>⟨hk.1.1,⟨hk.1.2,hk.2⟩⟩)),(by (with_reducible repeat (first|apply Kd.V_alloc|apply Kd.V_drewN|apply Kd.V_drew));exact Kd.V_mono HL195_0.out (fun _ hk=>⟨hk.1.1,⟨hk.1.2,hk.2⟩⟩)),(by (with_reducible repeat (first|apply Kd.V_alloc|apply Kd.V_drewN|apply Kd.V_drew));exact Kd.V_mono HL215_0.out (fun _ hk=>⟨hk.1.1,⟨hk.1.2,hk.2⟩⟩)),(by (with_reducible repeat (first|apply Kd.V_alloc|apply Kd.V_drewN|apply Kd.V_drew));exact Kd.V_mono HL216_0.out (fun _ hk=>⟨hk.1.1,⟨hk.1.2,hk.2⟩⟩)),(zV HO219.out),(by (with_reducible repeat (first|apply Kd.V_alloc|apply Kd.V_drewN|apply Kd.V_drew));exact Kd.V_mono HO_0.out (fun _ hk=>⟨hk.1.1,⟨hk.1.2,hk.2⟩⟩)),(by (with_reducible repeat (first|apply Kd.V_alloc|apply Kd.V_drewN|apply Kd.V_drew));exact Kd.V_mono HO_1.out (fun _ hk=>⟨hk.1.1,⟨hk.1.2,hk.2⟩⟩)),(zN HO_9.out),(by (with_reducible repeat (first|refine blk_drewN ?_ _|refine blk_drew ?_|refine blk_alloc ?_ _));exact BK222.out),GW222.out,GE222.out,(by repeat (first|(with_reducible first|exact HB.out|apply below_alloc|apply pw_below_drewN|apply below_drew1|refine below_set ?_ GE222.out)|exact HB.out))⟩)
            rintro ⟨v218,gb222⟩ w61 ⟨hS_,h0_,h1_,h2_,h3_,h4_,h5_,h6_,h7_,h8_,h9_,h10_,h11_⟩
            have n0_:Aside0 (Kd.V (Kd.int .i64) 3 w61 w.heap.size (fun k_=>((P0_ k_∨P1_ k_)∨w.heap.size≤k_)∧some k_≠(u9:Value).ownBlock∧k_≠gb222) (.slice A194_0 ((rd_T54 x0_1 0).f0).length c194_0) ((rd_T54 x0_1 0).f0)):=⟨h0_⟩
            have n1_:Aside0 (Kd.V (Kd.int .i64) 3 w61 w.heap.size (fun k_=>((P0_ k_∨P1_ k_)∨w.heap.size≤k_)∧some k_≠(u9:Value).ownBlock∧k_≠gb222) (.slice A195_0 ((rd_T54 x1_1 0).f0).length c195_0) ((rd_T54 x1_1 0).f0)):=⟨h1_⟩
            have n2_:Aside0 (Kd.V (Kd.int .i64) 3 w61 w.heap.size (fun k_=>((P0_ k_∨P1_ k_)∨w.heap.size≤k_)∧some k_≠(u9:Value).ownBlock∧k_≠gb222) (.slice A215_0 ((rd_T54 x0_1 0).f0).length c215_0) ((rd_T54 x0_1 0).f0)):=⟨h2_⟩
            have n3_:Aside0 (Kd.V (Kd.int .i64) 3 w61 w.heap.size (fun k_=>((P0_ k_∨P1_ k_)∨w.heap.size≤k_)∧some k_≠(u9:Value).ownBlock∧k_≠gb222) (.slice A216_0 ((rd_T54 x1_1 0).f0).length c216_0) ((rd_T54 x1_1 0).f0)):=⟨h3_⟩
            have n4_:Aside0 (Kd.V (Kd.int .i64) 3 w61 w.heap.size (fun k_=>((P0_ k_∨P1_ k_)∨w.heap.size≤k_)∧some k_≠(u9:Value).ownBlock∧k_≠gb222) v218 t217):=⟨h4_⟩
            have n5_:Aside0 (Kd.V k54 54 w61 w.heap.size (fun k_=>((P0_ k_∨P1_ k_)∨w.heap.size≤k_)∧some k_≠(u9:Value).ownBlock∧k_≠gb222) (.slice (some ad194) x0_1.length co54) x0_1):=⟨h5_⟩
            have n6_:Aside0 (Kd.V k54 54 w61 w.heap.size (fun k_=>((P0_ k_∨P1_ k_)∨w.heap.size≤k_)∧some k_≠(u9:Value).ownBlock∧k_≠gb222) (.slice (some ad195) x1_1.length co55) x1_1):=⟨h6_⟩
            have n7_:Aside0 (Kd.N k54 54 w61 w.heap.size (fun k_=>((P0_ k_∨P1_ k_)∨w.heap.size≤k_)∧k_≠gb222) u9 x9_1):=⟨h7_⟩
            have n8_:Aside0 (w61.heap[gb222]?=some (.cells #[.slice none 0 0,.int .i64 0] 54 (0,0))):=⟨h8_⟩
            have n9_:Aside0 (w.heap.size≤gb222):=⟨h9_⟩
            have n10_:Aside0 (w.heap.size≤gb222):=⟨h10_⟩
            have n11_:Aside0 (Below w.heap.size w w61):=⟨h11_⟩
            clear HO_0
            clear HO_1
            clear HO_9
            clear HL194_0
            clear HL195_0
            clear HR194_0
            clear HR195_0
            clear HB
            clear h0_ h1_ h2_ h3_ h4_ h5_ h6_ h7_ h8_ h9_ h10_ h11_
            have HL194_0:=n0_
            have HL195_0:=n1_
            have HL215_0:=n2_
            have HL216_0:=n3_
            have HO219:=n4_
            have HO_0:=n5_
            have HO_1:=n6_
            have HO_9:=n7_
            have BK222:=n8_
            have GW222:=n9_
            have GE222:=n10_
            have HB:=n11_
            clear n0_ n1_ n2_ n3_ n4_ n5_ n6_ n7_ n8_ n9_ n10_ n11_
            have hHeld:w61.cell? ad194=some (.slice A215_0 ((rd_T54 x0_1 0).f0).length c215_0)∧w61.cell? ⟨ad194.block,ad194.off + 1,none⟩=some (.int .i64 ((rd_T54 x0_1 0).f1))∧w61.cell? ad195=some (.slice A216_0 ((rd_T54 x1_1 0).f0).length c216_0)∧w61.cell? ⟨ad195.block,ad195.off + 1,none⟩=some (.int .i64 ((rd_T54 x1_1 0).f1)):=hS_
            obtain ⟨Ao62,co62,eo62⟩:=Kd.V_slice HO219.out
            (first|subst eo62|(injection eo62 with f1_ f2_ f3_;have f4_:=f1_.symm;have f5_:=f3_.symm;clear f1_ f2_ f3_;subst f4_;subst f5_))
            refine norm_ (a':=?_) ?_ ?_
            rotate_left
            ·simp only [putAll,Act.put,zp1,zp2,zp3]
             rfl
            refine one_ (i:=12) (N:=none) #[Y,Y,Y,Y,Y,Y,Y,Y,Y,Y,Y,Y,Y,X] rfl rfl (one_of HT_.out (by kernel_rfl)) (by decide) (fun K hK=>?_)
            have hs63:w61.cell? ⟨gb222,0,none⟩=some (.slice none 0 0):=(blk_cell BK222.out 0).trans rfl
            have hfs63:=blk_frozen BK222.out 0
            have hs64:w61.cell? ⟨gb222,1,none⟩=some (.int .i64 0):=(blk_cell BK222.out 1).trans rfl
            have hfs64:=blk_frozen BK222.out 1
            refine skip_ (w1:=?_) (by rfl) rfl ?_ ?_
            rotate_left
            ·go_simp
             rfl
            refine hK.out _ _ ⟨((cell_far (p:=⟨gb222,_,none⟩) (by first|exact Kd.own_blk (Kd.V_away HO_0.out (fun _ hk=>hk.2.2))|(rw [add_block];exact Kd.own_blk (Kd.V_away HO_0.out (fun _ hk=>hk.2.2)))|(show (Addr.add _ _).block≠_;rw [add_block];exact Kd.own_blk (Kd.V_away HO_0.out (fun _ hk=>hk.2.2)))|(dsimp only;exact Kd.own_blk (Kd.V_away HO_0.out (fun _ hk=>hk.2.2)))) _).trans (((cell_far (p:=⟨gb222,_,none⟩) (by first|exact Kd.own_blk (Kd.V_away HO_0.out (fun _ hk=>hk.2.2))|(rw [add_block];exact Kd.own_blk (Kd.V_away HO_0.out (fun _ hk=>hk.2.2)))|(show (Addr.add _ _).block≠_;rw [add_block];exact Kd.own_blk (Kd.V_away HO_0.out (fun _ hk=>hk.2.2)))|(dsimp only;exact Kd.own_blk (Kd.V_away HO_0.out (fun _ hk=>hk.2.2)))) _).trans (hHeld.1)))),((cell_far (p:=⟨gb222,_,none⟩) (by first|exact Kd.own_blk (Kd.V_away HO_0.out (fun _ hk=>hk.2.2))|(rw [add_block];exact Kd.own_blk (Kd.V_away HO_0.out (fun _ hk=>hk.2.2)))|(show (Addr.add _ _).block≠_;rw [add_block];exact Kd.own_blk (Kd.V_away HO_0.out (fun _ hk=>hk.2.2)))|(dsimp only;exact Kd.own_blk (Kd.V_away HO_0.out (fun _ hk=>hk.2.2)))) _).trans (((cell_far (p:=⟨gb222,_,none⟩) (by first|exact Kd.own_blk (Kd.V_away HO_0.out (fun _ hk=>hk.2.2))|(rw [add_block];exact Kd.own_blk (Kd.V_away HO_0.out (fun _ hk=>hk.2.2)))|(show (Addr.add _ _).block≠_;rw [add_block];exact Kd.own_blk (Kd.V_away HO_0.out (fun _ hk=>hk.2.2)))|(dsimp only;exact Kd.own_blk (Kd.V_away HO_0.out (fun _ hk=>hk.2.2)))) _).trans (hHeld.2.1)))),((cell_far (p:=⟨gb222,_,none⟩) (by first|exact Kd.own_blk (Kd.V_away HO_1.out (fun _ hk=>hk.2.2))|(rw [add_block];exact Kd.own_blk (Kd.V_away HO_1.out (fun _ hk=>hk.2.2)))|(show (Addr.add _ _).block≠_;rw [add_block];exact Kd.own_blk (Kd.V_away HO_1.out (fun _ hk=>hk.2.2)))|(dsimp only;exact Kd.own_blk (Kd.V_away HO_1.out (fun _ hk=>hk.2.2)))) _).trans (((cell_far (p:=⟨gb222,_,none⟩) (by first|exact Kd.own_blk (Kd.V_away HO_1.out (fun _ hk=>hk.2.2))|(rw [add_block];exact Kd.own_blk (Kd.V_away HO_1.out (fun _ hk=>hk.2.2)))|(show (Addr.add _ _).block≠_;rw [add_block];exact Kd.own_blk (Kd.V_away HO_1.out (fun _ hk=>hk.2.2)))|(dsimp only;exact Kd.own_blk (Kd.V_away HO_1.out (fun _ hk=>hk.2.2)))) _).trans (hHeld.2.2.1)))),((cell_far (p:=⟨gb222,_,none⟩) (by first|exact Kd.own_blk (Kd.V_away HO_1.out (fun _ hk=>hk.2.2))|(rw [add_block];exact Kd.own_blk (Kd.V_away HO_1.out (fun _ hk=>hk.2.2)))|(show (Addr.add _ _).block≠_;rw [add_block];exact Kd.own_blk (Kd.V_away HO_1.out (fun _ hk=>hk.2.2)))|(dsimp only;exact Kd.own_blk (Kd.V_away HO_1.out (fun _ hk=>hk.2.2)))) _).trans (((cell_far (p:=⟨gb222,_,none⟩) (by first|exact Kd.own_blk (Kd.V_away HO_1.out (fun _ hk=>hk.2.2))|(rw [add_block];exact Kd.own_blk (Kd.V_away HO_1.out (fun _ hk=>hk.2.2)))|(show (Addr.add _ _).block≠_;rw [add_block];exact Kd.own_blk (Kd.V_away HO_1.out (fun _ hk=>hk.2.2)))|(dsimp only;exact Kd.own_blk (Kd.V_away HO_1.out (fun _ hk=>hk.2.2)))) _).trans (hHeld.2.2.2))))⟩ (fun hHeld=>?_)
            clear hK K
            refine pure_ (i:=13) (N:=some 12) (v:=?_) (a':=?_) #[Y,Y,Y,Y,Y,Y,Y,Y,Y,Y,Y,Y,Y,Y] rfl rfl zan (fun _ _ _ h=>h) (Or.inl ⟨by rfl,?_⟩) ?_ ?_
            rotate_left
            ·intro w'
             go_simp
             with_reducible rfl
            rotate_left
            ·simp only [Act.put,zp1,zp2,zp3,i64_w,i32_w]
             rfl
            refine done_ (done_of HT_.out (by kernel_rfl)) ?_
            try go_wp2
            have n0_:Aside0 (Kd.V k54 54 ((w61.setCell ⟨gb222,0,none⟩ (.slice Ao62 t217.length co62)).setCell ⟨gb222,1,none⟩ (.int .i64 t220)) w.heap.size (fun k_=>((P0_ k_∨P1_ k_)∨w.heap.size≤k_)∧some k_≠(u9:Value).ownBlock∧k_≠gb222) (.slice (some ad194) x0_1.length co54) x0_1):=⟨by (with_reducible repeat (first|apply Kd.V_alloc|apply Kd.V_drewN|apply Kd.V_drew));exact Kd.V_mono (Kd.V_far (p:=⟨gb222,1,none⟩) (Kd.V_far (p:=⟨gb222,0,none⟩) (Kd.V_mono HO_0.out (fun k_ hk=>(⟨hk,hk.2.2⟩:_∧k_≠gb222))) (fun _ hk=>hk.2) (.slice Ao62 t217.length co62)) (fun _ hk=>hk.2) (.int .i64 t220)) (fun _ hk=>⟨hk.1.1,⟨hk.1.2.1,hk.1.2.2⟩⟩)⟩
            have n1_:Aside0 (Kd.V k54 54 ((w61.setCell ⟨gb222,0,none⟩ (.slice Ao62 t217.length co62)).setCell ⟨gb222,1,none⟩ (.int .i64 t220)) w.heap.size (fun k_=>((P0_ k_∨P1_ k_)∨w.heap.size≤k_)∧some k_≠(u9:Value).ownBlock∧k_≠gb222) (.slice (some ad195) x1_1.length co55) x1_1):=⟨by (with_reducible repeat (first|apply Kd.V_alloc|apply Kd.V_drewN|apply Kd.V_drew));exact Kd.V_mono (Kd.V_far (p:=⟨gb222,1,none⟩) (Kd.V_far (p:=⟨gb222,0,none⟩) (Kd.V_mono HO_1.out (fun k_ hk=>(⟨hk,hk.2.2⟩:_∧k_≠gb222))) (fun _ hk=>hk.2) (.slice Ao62 t217.length co62)) (fun _ hk=>hk.2) (.int .i64 t220)) (fun _ hk=>⟨hk.1.1,⟨hk.1.2.1,hk.1.2.2⟩⟩)⟩
            have n2_:Aside0 (Kd.N k54 54 ((w61.setCell ⟨gb222,0,none⟩ (.slice Ao62 t217.length co62)).setCell ⟨gb222,1,none⟩ (.int .i64 t220)) w.heap.size (fun k_=>((P0_ k_∨P1_ k_)∨w.heap.size≤k_)∧k_≠gb222) u9 x9_1):=⟨by (with_reducible repeat (first|apply Kd.N_alloc|apply Kd.N_drewN|apply Kd.N_drew));exact Kd.N_mono (Kd.N_far (p:=⟨gb222,1,none⟩) (Kd.N_far (p:=⟨gb222,0,none⟩) (Kd.N_mono HO_9.out (fun k_ hk=>(⟨hk,hk.2⟩:_∧k_≠gb222))) (fun _ hk=>hk.2) (.slice Ao62 t217.length co62)) (fun _ hk=>hk.2) (.int .i64 t220)) (fun _ hk=>⟨hk.1.1,hk.1.2⟩)⟩
            have n3_:Aside0 (Kd.V (Kd.int .i64) 3 ((w61.setCell ⟨gb222,0,none⟩ (.slice Ao62 t217.length co62)).setCell ⟨gb222,1,none⟩ (.int .i64 t220)) w.heap.size (fun k_=>((P0_ k_∨P1_ k_)∨w.heap.size≤k_)∧some k_≠(u9:Value).ownBlock∧k_≠gb222) (.slice A194_0 ((rd_T54 x0_1 0).f0).length c194_0) ((rd_T54 x0_1 0).f0)):=⟨by (with_reducible repeat (first|apply Kd.V_alloc|apply Kd.V_drewN|apply Kd.V_drew));exact Kd.V_mono (Kd.V_far (p:=⟨gb222,1,none⟩) (Kd.V_far (p:=⟨gb222,0,none⟩) (Kd.V_mono HL194_0.out (fun k_ hk=>(⟨hk,hk.2.2⟩:_∧k_≠gb222))) (fun _ hk=>hk.2) (.slice Ao62 t217.length co62)) (fun _ hk=>hk.2) (.int .i64 t220)) (fun _ hk=>⟨hk.1.1,⟨hk.1.2.1,hk.1.2.2⟩⟩)⟩
            have n4_:Aside0 (Kd.V (Kd.int .i64) 3 ((w61.setCell ⟨gb222,0,none⟩ (.slice Ao62 t217.length co62)).setCell ⟨gb222,1,none⟩ (.int .i64 t220)) w.heap.size (fun k_=>((P0_ k_∨P1_ k_)∨w.heap.size≤k_)∧some k_≠(u9:Value).ownBlock∧k_≠gb222) (.slice A195_0 ((rd_T54 x1_1 0).f0).length c195_0) ((rd_T54 x1_1 0).f0)):=⟨by (with_reducible repeat (first|apply Kd.V_alloc|apply Kd.V_drewN|apply Kd.V_drew));exact Kd.V_mono (Kd.V_far (p:=⟨gb222,1,none⟩) (Kd.V_far (p:=⟨gb222,0,none⟩) (Kd.V_mono HL195_0.out (fun k_ hk=>(⟨hk,hk.2.2⟩:_∧k_≠gb222))) (fun _ hk=>hk.2) (.slice Ao62 t217.length co62)) (fun _ hk=>hk.2) (.int .i64 t220)) (fun _ hk=>⟨hk.1.1,⟨hk.1.2.1,hk.1.2.2⟩⟩)⟩
            have n5_:Aside0 (Kd.V (Kd.int .i64) 3 ((w61.setCell ⟨gb222,0,none⟩ (.slice Ao62 t217.length co62)).setCell ⟨gb222,1,none⟩ (.int .i64 t220)) w.heap.size (fun k_=>((P0_ k_∨P1_ k_)∨w.heap.size≤k_)∧some k_≠(u9:Value).ownBlock∧k_≠gb222) (.slice A215_0 ((rd_T54 x0_1 0).f0).length c215_0) ((rd_T54 x0_1 0).f0)):=⟨by (with_reducible repeat (first|apply Kd.V_alloc|apply Kd.V_drewN|apply Kd.V_drew));exact Kd.V_mono (Kd.V_far (p:=⟨gb222,1,none⟩) (Kd.V_far (p:=⟨gb222,0,none⟩) (Kd.V_mono HL215_0.out (fun k_ hk=>(⟨hk,hk.2.2⟩:_∧k_≠gb222))) (fun _ hk=>hk.2) (.slice Ao62 t217.length co62)) (fun _ hk=>hk.2) (.int .i64 t220)) (fun _ hk=>⟨hk.1.1,⟨hk.1.2.1,hk.1.2.2⟩⟩)⟩
            have n6_:Aside0 (Kd.V (Kd.int .i64) 3 ((w61.setCell ⟨gb222,0,none⟩ (.slice Ao62 t217.length co62)).setCell ⟨gb222,1,none⟩ (.int .i64 t220)) w.heap.size (fun k_=>((P0_ k_∨P1_ k_)∨w.heap.size≤k_)∧some k_≠(u9:Value).ownBlock∧k_≠gb222) (.slice A216_0 ((rd_T54 x1_1 0).f0).length c216_0) ((rd_T54 x1_1 0).f0)):=⟨by (with_reducible repeat (first|apply Kd.V_alloc|apply Kd.V_drewN|apply Kd.V_drew));exact Kd.V_mono (Kd.V_far (p:=⟨gb222,1,none⟩) (Kd.V_far (p:=⟨gb222,0,none⟩) (Kd.V_mono HL216_0.out (fun k_ hk=>(⟨hk,hk.2.2⟩:_∧k_≠gb222))) (fun _ hk=>hk.2) (.slice Ao62 t217.length co62)) (fun _ hk=>hk.2) (.int .i64 t220)) (fun _ hk=>⟨hk.1.1,⟨hk.1.2.1,hk.1.2.2⟩⟩)⟩
            have n7_:Aside0 (Kd.V (Kd.int .i64) 3 ((w61.setCell ⟨gb222,0,none⟩ (.slice Ao62 t217.length co62)).setCell ⟨gb222,1,none⟩ (.int .i64 t220)) w.heap.size (fun k_=>((P0_ k_∨P1_ k_)∨w.heap.size≤k_)∧some k_≠(u9:Value).ownBlock∧k_≠gb222) (.slice Ao62 t217.length co62) t217):=⟨by (with_reducible repeat (first|apply Kd.V_alloc|apply Kd.V_drewN|apply Kd.V_drew));exact Kd.V_mono (Kd.V_far (p:=⟨gb222,1,none⟩) (Kd.V_far (p:=⟨gb222,0,none⟩) (Kd.V_mono HO219.out (fun k_ hk=>(⟨hk,hk.2.2⟩:_∧k_≠gb222))) (fun _ hk=>hk.2) (.slice Ao62 t217.length co62)) (fun _ hk=>hk.2) (.int .i64 t220)) (fun _ hk=>⟨hk.1.1,⟨hk.1.2.1,hk.1.2.2⟩⟩)⟩
            have n8_:Aside0 (((w61.setCell ⟨gb222,0,none⟩ (.slice Ao62 t217.length co62)).setCell ⟨gb222,1,none⟩ (.int .i64 t220)).heap[gb222]?=some (.cells #[.slice Ao62 t217.length co62,.int .i64 t220] 54 (0,0))):=⟨by (with_reducible repeat (first|refine blk_drewN ?_ _|refine blk_drew ?_|refine blk_alloc ?_ _));refine blk_put (cs:=#[.slice Ao62 t217.length co62,.int .i64 0]) ?_ 1 _ rfl;(with_reducible repeat (first|refine blk_drewN ?_ _|refine blk_drew ?_|refine blk_alloc ?_ _));refine blk_put (cs:=#[.slice none 0 0,.int .i64 0]) ?_ 0 _ rfl;(with_reducible repeat (first|refine blk_drewN ?_ _|refine blk_drew ?_|refine blk_alloc ?_ _));exact BK222.out⟩
            have n9_:Aside0 (Below w.heap.size w ((w61.setCell ⟨gb222,0,none⟩ (.slice Ao62 t217.length co62)).setCell ⟨gb222,1,none⟩ (.int .i64 t220))):=⟨by repeat (first|(with_reducible first|exact HB.out|apply below_alloc|apply pw_below_drewN|apply below_drew1|refine below_set ?_ GE222.out)|exact HB.out)⟩
            (try clear HO_0)
            (try clear HO_1)
            (try clear HO_9)
            (try clear HL194_0)
            (try clear HL195_0)
            (try clear HL215_0)
            (try clear HL216_0)
            (try clear HO219)
            (try clear BK222)
            (try clear HB)
            generalize ((w61.setCell ⟨gb222,0,none⟩ (.slice Ao62 t217.length co62)).setCell ⟨gb222,1,none⟩ (.int .i64 t220))=w65 at n0_ n1_ n2_ n3_ n4_ n5_ n6_ n7_ n8_ n9_ ⊢
            have HO_0:=n0_
            have HO_1:=n1_
            have HO_9:=n2_
            have HL194_0:=n3_
            have HL195_0:=n4_
            have HL215_0:=n5_
            have HL216_0:=n6_
            have HO219:=n7_
            have BK222:=n8_
            have HB:=n9_
            clear n0_ n1_ n2_ n3_ n4_ n5_ n6_ n7_ n8_ n9_
            have n0_:=Aside0.mk (Kd.V_drew HO_0.out)
            have n1_:=Aside0.mk (Kd.V_drew HO_1.out)
            have n2_:=Aside0.mk (Kd.N_drew HO_9.out)
            have n3_:=Aside0.mk (Kd.V_drew HL194_0.out)
            have n4_:=Aside0.mk (Kd.V_drew HL195_0.out)
            have n5_:=Aside0.mk (Kd.V_drew HL215_0.out)
            have n6_:=Aside0.mk (Kd.V_drew HL216_0.out)
            have n7_:=Aside0.mk (Kd.V_drew HO219.out)
            have n8_:=Aside0.mk (blk_drew BK222.out)
            have n9_:=Aside0.mk (below_drew1 HB.out)
            clear HO_0
            clear HO_1
            clear HO_9
            clear HL194_0
            clear HL195_0
            clear HL215_0
            clear HL216_0
            clear HO219
            clear BK222
            clear HB
            have HO_0:=n0_
            have HO_1:=n1_
            have HO_9:=n2_
            have HL194_0:=n3_
            have HL195_0:=n4_
            have HL215_0:=n5_
            have HL216_0:=n6_
            have HO219:=n7_
            have BK222:=n8_
            have HB:=n9_
            clear n0_ n1_ n2_ n3_ n4_ n5_ n6_ n7_ n8_ n9_
            have q67:(1:Int)≤((x0_1.length:Int):Int):=zod
            obtain ⟨i067,hi067,_,hsz67,_⟩:=info_parts info54
            have hroom67:x0_1.length≤co54:=(Kd.V_reads' HO_0.out).2.1
            have hC67:Kd.F k54 _ _ (some ad194) x0_1.length x0_1:=(Kd.V_at (base:=w.heap.size) HO_0.out).2.2
            have hcut67:=cut_from (P:=Try.prog) 24 54 .i64 Try.underlying24 hi067 2 hsz67 (some ad194) x0_1.length co54 1 (by omega) q67
            have hr67:=Kd.F_cut (m:=(1:Int).toNat) (c:=co54) hC67 (by omega) hroom67
            obtain ⟨A67,hA67⟩ : ∃ A1,A1=(if co54=(1:Int).toNat then (some ad194) else ((some ad194):Option Addr).map (·.add ((1:Int).toNat * 2))):=⟨_,rfl⟩
            obtain ⟨c67,hc67⟩ : ∃ c1,c1=co54 - (1:Int).toNat:=⟨_,rfl⟩
            have hy67:y236.length=x0_1.length - (1:Int).toNat:=(by rw [Ny236.out,List.length_drop] <;> omega)
            rw [show (x0_1).drop (1:Int).toNat=y236 from Ny236.out.symm] at hr67
            replace hr67:Kd.F k54 _ _ A67 y236.length y236:=(by rw [hA67];exact hr67)
            rw [← hy67,← hA67,← hc67] at hcut67
            have HO240:=Aside0.mk (show Kd.V k54 54 _ w.heap.size _ (.slice A67 y236.length c67) y236 from Kd.V_mk (by rw [hy67,hc67];exact Nat.sub_le_sub_right hroom67 _) hr67)
            have HC240:=Aside0.mk (show y236.length≤c67 from by rw [hy67,hc67];exact Nat.sub_le_sub_right hroom67 _)
            clear hr67 hC67 hroom67 hi067 hsz67 hc67
            have KY67:=Aside0.mk hy67
            have KA67:=Aside0.mk hA67
            clear hy67 hA67
            replace q67:=eq_true q67
            have q68:(1:Int)≤((x1_1.length:Int):Int):=zod
            obtain ⟨i068,hi068,_,hsz68,_⟩:=info_parts info54
            have hroom68:x1_1.length≤co55:=(Kd.V_reads' HO_1.out).2.1
            have hC68:Kd.F k54 _ _ (some ad195) x1_1.length x1_1:=(Kd.V_at (base:=w.heap.size) HO_1.out).2.2
            have hcut68:=cut_from (P:=Try.prog) 24 54 .i64 Try.underlying24 hi068 2 hsz68 (some ad195) x1_1.length co55 1 (by omega) q68
            have hr68:=Kd.F_cut (m:=(1:Int).toNat) (c:=co55) hC68 (by omega) hroom68
            obtain ⟨A68,hA68⟩ : ∃ A1,A1=(if co55=(1:Int).toNat then (some ad195) else ((some ad195):Option Addr).map (·.add ((1:Int).toNat * 2))):=⟨_,rfl⟩
            obtain ⟨c68,hc68⟩ : ∃ c1,c1=co55 - (1:Int).toNat:=⟨_,rfl⟩
            have hy68:y241.length=x1_1.length - (1:Int).toNat:=(by rw [Ny241.out,List.length_drop] <;> omega)
            rw [show (x1_1).drop (1:Int).toNat=y241 from Ny241.out.symm] at hr68
            replace hr68:Kd.F k54 _ _ A68 y241.length y241:=(by rw [hA68];exact hr68)
            rw [← hy68,← hA68,← hc68] at hcut68
            have HO245:=Aside0.mk (show Kd.V k54 54 _ w.heap.size _ (.slice A68 y241.length c68) y241 from Kd.V_mk (by rw [hy68,hc68];exact Nat.sub_le_sub_right hroom68 _) hr68)
            have HC245:=Aside0.mk (show y241.length≤c68 from by rw [hy68,hc68];exact Nat.sub_le_sub_right hroom68 _)
            clear hr68 hC68 hroom68 hi068 hsz68 hc68
            have KY68:=Aside0.mk hy68
            have KA68:=Aside0.mk hA68
            clear hy68 hA68
            replace q68:=eq_true q68
            refine start_ (n:=6) (S:=fun w'=>True) (ds:=[]) #[X,X,X,X,X,X] (by kernel_rfl) rfl rfl trivial (fun hHeld=>?_)
            generalize w65.drew=w66 at HO_0 HO_1 HO_9 HL194_0 HL195_0 HL215_0 HL216_0 HO219 BK222 HB HO240 HO245 hHeld ⊢
            refine pure_ (i:=0) (N:=some 45) (v:=?_) (a':=?_) #[Y,X,X,X,X,X] rfl rfl (by kernel_rfl) (fun _ _ _ h=>h) (Or.inl ⟨by rfl,?_⟩) ?_ ?_
            rotate_left
            ·intro w'
             go_simp
             with_reducible rfl
            rotate_left
            ·simp only [Act.put,zp1,zp2,zp3,i64_w,i32_w]
             rfl
            refine pure_ (i:=1) (N:=some 46) (v:=?_) (a':=?_) #[Y,Y,X,X,X,X] rfl rfl (by kernel_rfl) (fun _ _ _ h=>h) (Or.inl ⟨by rfl,?_⟩) ?_ ?_
            rotate_left
            ·intro w'
             go_simp
             with_reducible rfl
            rotate_left
            ·simp only [Act.put,zp1,zp2,zp3,i64_w,i32_w]
             rfl
            refine pure_ (i:=2) (N:=some 47) (v:=?_) (a':=?_) #[Y,Y,Y,X,X,X] rfl rfl (by kernel_rfl) (fun _ _ _ h=>h) (Or.inl ⟨by rfl,?_⟩) ?_ ?_
            rotate_left
            ·intro w'
             go_simp
             with_reducible rfl
            rotate_left
            ·simp only [Act.put,zp1,zp2,zp3,i64_w,i32_w]
             rfl
            refine pure_ (i:=3) (N:=some 48) (v:=?_) (a':=?_) #[Y,Y,Y,Y,X,X] rfl rfl (by kernel_rfl) (fun _ _ _ h=>h) (Or.inl ⟨by rfl,?_⟩) ?_ ?_
            rotate_left
            ·intro w'
             go_simp
             with_reducible rfl
            rotate_left
            ·simp only [Act.put,zp1,zp2,zp3,i64_w,i32_w]
             rfl
            refine pure_ (i:=4) (N:=some 0) (v:=?_) (a':=?_) #[Y,Y,Y,Y,Y,X] rfl rfl (by kernel_rfl) (fun _ _ _ h=>h) (Or.inl ⟨by rfl,?_⟩) ?_ ?_
            rotate_left
            ·intro w'
             go_simp
             with_reducible rfl
            rotate_left
            ·simp only [Act.put,zp1,zp2,zp3,i64_w,i32_w]
             rfl
            refine pure_ (i:=5) (N:=some 1) (v:=?_) (a':=?_) #[Y,Y,Y,Y,Y,Y] rfl rfl (by kernel_rfl) (fun _ _ _ h=>h) (Or.inl ⟨by rfl,?_⟩) ?_ ?_
            rotate_left
            ·intro w'
             go_simp
             with_reducible rfl
            rotate_left
            ·simp only [Act.put,zp1,zp2,zp3,i64_w,i32_w]
             rfl
            refine done_ (by kernel_rfl) ?_
            try go_wp2
            go_roundg k1
            case measure=>have:=HK1.out;omega
            case rel=>exact ⟨(y236),(y241),(x9_1),H',⟨by have:=HK1.out;omega⟩,⟨by (with_reducible repeat (first|apply Kd.V_alloc|apply Kd.V_drewN|apply Kd.V_drew));exact Kd.V_mono HO240.out (fun _ hk=>⟨hk.1,hk.2.1⟩)⟩,⟨by (with_reducible repeat (first|apply Kd.V_alloc|apply Kd.V_drewN|apply Kd.V_drew));exact Kd.V_mono HO245.out (fun _ hk=>⟨hk.1,hk.2.1⟩)⟩,⟨by (with_reducible repeat (first|apply Kd.N_alloc|apply Kd.N_drewN|apply Kd.N_drew));exact Kd.N_mono HO_9.out (fun _ hk=>hk.1)⟩,⟨by repeat (first|(with_reducible first|exact HB.out|apply below_alloc|apply pw_below_drewN|apply below_drew1|refine below_set ?_ GE222.out)|exact HB.out)⟩⟩
           ·rw [if_neg c53] at H
            exact absurd H (by simp)
          ·rw [if_neg c52] at H
           exact absurd H (by simp)
      ·rw [if_neg c8] at H
       exact absurd H (by simp)
     ·rw [if_neg c7] at H
      exact absurd H (by simp)
    ·rw [if_neg c6] at H
     have c6b0:decide (0 < (x1_1.length:Int))=false:=decide_eq_false c6
     have c6b1:decide (0 < x1_1.length)=false:=decide_eq_false (by omega)
     clear c6
     by_cases c69:x9_1.length + x0_1.length < 4398046511104
     ·rw [if_pos c69] at H
      have LMc69:=Aside0.mk c69
      clear c69
      obtain ⟨y246,hy246⟩ : ∃ y_:List (S54),y_=(x9_1 ++ x0_1):=⟨_,rfl⟩
      replace H:(if y246.length + x1_1.length < 4398046511104 then (some (y246 ++ x1_1)) else (none))=some r:=by first|(rw [hy246];with_reducible exact H)|(have H2_:=(Option.bind_some _ _).symm.trans H;rw [hy246];with_reducible exact H2_)|(have H2_:=(Option.bind_some _ _).symm.trans H;with_reducible exact H2_)|with_reducible exact H|(rw [hy246];exact H)|exact H
      have Ny246:=Aside0.mk hy246
      clear hy246
      by_cases c70:y246.length + x1_1.length < 4398046511104
      ·rw [if_pos c70] at H
       have LMc70:=Aside0.mk c70
       clear c70
       obtain ⟨y249,hy249⟩ : ∃ y_:List (S54),y_=(y246 ++ x1_1):=⟨_,rfl⟩
       replace H:(some y249)=some r:=by first|(rw [hy249];with_reducible exact H)|(have H2_:=(Option.bind_some _ _).symm.trans H;rw [hy249];with_reducible exact H2_)|(have H2_:=(Option.bind_some _ _).symm.trans H;with_reducible exact H2_)|with_reducible exact H|(rw [hy249];exact H)|exact H
       have Ny249:=Aside0.mk hy249
       clear hy249
       obtain rfl:=Option.some.inj H
       obtain ⟨Ao71,co71,eo71⟩:=Kd.V_slice HO_0.out
       subst eo71
       obtain ⟨Ao72,co72,eo72⟩:=Kd.V_slice HO_1.out
       subst eo72
       go_wp2_with (first|((with_reducible refine gate_builtin (b:=.append) (xs:=#[.tmp 71,.tmp 72]) rfl ?_);(try (refine gate_guard (by rfl) ?_;dsimp only));at_builtin;refine Kd.N_append_rows k54 (w0:=w) w.heap.size rfl (.tmp 71) (.tmp 72) 24 54 (.agg #[(.slice none 0 0),(.int .i64 0)]) 32 rfl Try.underlying24 info54 rfl (by decide) (by omega) u9 x9_1 x0_1 _ _ _ (fun k_=>((P0_ k_∨P1_ k_)∨w.heap.size≤k_)) (fun k_=>((fun k_=>((P0_ k_∨P1_ k_)∨w.heap.size≤k_))) k_∧some k_≠(u9:Value).ownBlock) rfl rfl ?aO ?aR (fun _ hk=>hk) ?aF ?aB ?aS ?aL ?_;(case aR=>exact (by skip;exact Kd.V_F (Kd.V_mono (ok':=(fun k_=>((fun k_=>((P0_ k_∨P1_ k_)∨w.heap.size≤k_))) k_∧some k_≠(u9:Value).ownBlock)) (HO_0.out) (fun k_ hk=>⟨hk.1,hk.2⟩))));(case aB=>exact zhb);(case aF=>exact (fun k_ hk=>(.inr (Nat.le_trans (below_size zhb) hk))));(case aO=>exact (zN HO_9.out));(case aS=>exact (below_size zhb));(case aL=>have:=LMc69.out;omega);intro v247 w73 ho hb hg hat;rw [← Ny246.out] at ho;have n0_:=Aside0.mk (Kd.V_afterv (ok:=(fun k_=>((P0_ k_∨P1_ k_)∨w.heap.size≤k_))) (zV HO_0.out) hg hat);have n1_:=Aside0.mk (Kd.V_afterv (ok:=(fun k_=>((P0_ k_∨P1_ k_)∨w.heap.size≤k_))) (zV HO_1.out) hg hat);have n2_:=Aside0.mk (hb);have n3_:=Aside0.mk (ho);clear HO_0;clear HO_1;clear HB;clear HO_9;have HO_0:=n0_;have HO_1:=n1_;have HB:=n2_;have HO248:=n3_;clear n0_ n1_ n2_ n3_;clear ho hb hg hat)|((with_reducible refine gate_builtin (b:=.append) (xs:=#[.tmp 73,.tmp 74]) rfl ?_);(try (refine gate_guard (by rfl) ?_;dsimp only));at_builtin;refine Kd.N_append_rows k54 (w0:=w) w.heap.size rfl (.tmp 73) (.tmp 74) 24 54 (.agg #[(.slice none 0 0),(.int .i64 0)]) 32 rfl Try.underlying24 info54 rfl (by decide) (by omega) v247 y246 x1_1 _ _ _ (fun k_=>((P0_ k_∨P1_ k_)∨w.heap.size≤k_)) (fun k_=>((fun k_=>((P0_ k_∨P1_ k_)∨w.heap.size≤k_))) k_∧some k_≠(v247:Value).ownBlock) rfl rfl ?aO ?aR (fun _ hk=>hk) ?aF ?aB ?aS ?aL ?_;(case aR=>exact (by skip;exact Kd.V_F (Kd.V_mono (ok':=(fun k_=>((fun k_=>((P0_ k_∨P1_ k_)∨w.heap.size≤k_))) k_∧some k_≠(v247:Value).ownBlock)) (HO_1.out) (fun k_ hk=>⟨hk.1,hk.2⟩))));(case aB=>exact zhb);(case aF=>exact (fun k_ hk=>(.inr (Nat.le_trans (below_size zhb) hk))));(case aO=>exact (zN HO248.out));(case aS=>exact (below_size zhb));(case aL=>have:=LMc70.out;omega);intro v250 w74 ho hb hg hat;rw [← Ny249.out] at ho;have n0_:=Aside0.mk (Kd.V_afterv (ok:=(fun k_=>((P0_ k_∨P1_ k_)∨w.heap.size≤k_))) (zV HO_0.out) hg hat);have n1_:=Aside0.mk (Kd.V_afterv (ok:=(fun k_=>((P0_ k_∨P1_ k_)∨w.heap.size≤k_))) (zV HO_1.out) hg hat);have n2_:=Aside0.mk (hb);have n3_:=Aside0.mk (ho);clear HO_0;clear HO_1;clear HB;clear HO248;have HO_0:=n0_;have HO_1:=n1_;have HB:=n2_;have HO251:=n3_;clear n0_ n1_ n2_ n3_;clear ho hb hg hat))
       go_ret
       exact ⟨_,by first|rfl|(simp [errW_none,errW_some] <;> rfl)|(simp [*,errW_none,errW_some] <;> rfl),by (with_reducible repeat (first|apply Kd.N_alloc|apply Kd.N_drewN|apply Kd.N_drew));exact HO251.out,zhb⟩
      ·rw [if_neg c70] at H
       exact absurd H (by simp)
     ·rw [if_neg c69] at H
      exact absurd H (by simp)
   ·rw [if_neg c5] at H
    have c5b0:decide (0 < (x0_1.length:Int))=false:=decide_eq_false c5
    have c5b1:decide (0 < x0_1.length)=false:=decide_eq_false (by omega)
    clear c5
    by_cases c75:x9_1.length + x0_1.length < 4398046511104
    ·rw [if_pos c75] at H
     have LMc75:=Aside0.mk c75
     clear c75
     obtain ⟨y252,hy252⟩ : ∃ y_:List (S54),y_=(x9_1 ++ x0_1):=⟨_,rfl⟩
     replace H:(if y252.length + x1_1.length < 4398046511104 then (some (y252 ++ x1_1)) else (none))=some r:=by first|(rw [hy252];with_reducible exact H)|(have H2_:=(Option.bind_some _ _).symm.trans H;rw [hy252];with_reducible exact H2_)|(have H2_:=(Option.bind_some _ _).symm.trans H;with_reducible exact H2_)|with_reducible exact H|(rw [hy252];exact H)|exact H
     have Ny252:=Aside0.mk hy252
     clear hy252
     by_cases c76:y252.length + x1_1.length < 4398046511104
     ·rw [if_pos c76] at H
      have LMc76:=Aside0.mk c76
      clear c76
      obtain ⟨y255,hy255⟩ : ∃ y_:List (S54),y_=(y252 ++ x1_1):=⟨_,rfl⟩
      replace H:(some y255)=some r:=by first|(rw [hy255];with_reducible exact H)|(have H2_:=(Option.bind_some _ _).symm.trans H;rw [hy255];with_reducible exact H2_)|(have H2_:=(Option.bind_some _ _).symm.trans H;with_reducible exact H2_)|with_reducible exact H|(rw [hy255];exact H)|exact H
      have Ny255:=Aside0.mk hy255
      clear hy255
      obtain rfl:=Option.some.inj H
      obtain ⟨Ao77,co77,eo77⟩:=Kd.V_slice HO_0.out
      subst eo77
      go_wp2_with (first|((with_reducible refine gate_builtin (b:=.append) (xs:=#[.tmp 71,.tmp 72]) rfl ?_);(try (refine gate_guard (by rfl) ?_;dsimp only));at_builtin;refine Kd.N_append_rows k54 (w0:=w) w.heap.size rfl (.tmp 71) (.tmp 72) 24 54 (.agg #[(.slice none 0 0),(.int .i64 0)]) 32 rfl Try.underlying24 info54 rfl (by decide) (by omega) u9 x9_1 x0_1 _ _ _ (fun k_=>((P0_ k_∨P1_ k_)∨w.heap.size≤k_)) (fun k_=>((fun k_=>((P0_ k_∨P1_ k_)∨w.heap.size≤k_))) k_∧some k_≠(u9:Value).ownBlock) rfl rfl ?aO ?aR (fun _ hk=>hk) ?aF ?aB ?aS ?aL ?_;(case aR=>exact (by skip;exact Kd.V_F (Kd.V_mono (ok':=(fun k_=>((fun k_=>((P0_ k_∨P1_ k_)∨w.heap.size≤k_))) k_∧some k_≠(u9:Value).ownBlock)) (HO_0.out) (fun k_ hk=>⟨hk.1,hk.2⟩))));(case aB=>exact zhb);(case aF=>exact (fun k_ hk=>(.inr (Nat.le_trans (below_size zhb) hk))));(case aO=>exact (zN HO_9.out));(case aS=>exact (below_size zhb));(case aL=>have:=LMc75.out;omega);intro v253 w78 ho hb hg hat;rw [← Ny252.out] at ho;have n0_:=Aside0.mk (Kd.V_afterv (ok:=(fun k_=>((P0_ k_∨P1_ k_)∨w.heap.size≤k_))) (zV HO_0.out) hg hat);have n1_:=Aside0.mk (Kd.V_afterv (ok:=(fun k_=>((P0_ k_∨P1_ k_)∨w.heap.size≤k_))) (zV HO_1.out) hg hat);have n2_:=Aside0.mk (hb);have n3_:=Aside0.mk (ho);clear HO_0;clear HO_1;clear HB;clear HO_9;have HO_0:=n0_;have HO_1:=n1_;have HB:=n2_;have HO254:=n3_;clear n0_ n1_ n2_ n3_;clear ho hb hg hat;obtain ⟨Ao80,co80,eo80⟩:=Kd.V_slice HO_1.out;subst eo80)|((with_reducible refine gate_builtin (b:=.append) (xs:=#[.tmp 73,.tmp 74]) rfl ?_);(try (refine gate_guard (by rfl) ?_;dsimp only));at_builtin;refine Kd.N_append_rows k54 (w0:=w) w.heap.size rfl (.tmp 73) (.tmp 74) 24 54 (.agg #[(.slice none 0 0),(.int .i64 0)]) 32 rfl Try.underlying24 info54 rfl (by decide) (by omega) v253 y252 x1_1 _ _ _ (fun k_=>((P0_ k_∨P1_ k_)∨w.heap.size≤k_)) (fun k_=>((fun k_=>((P0_ k_∨P1_ k_)∨w.heap.size≤k_))) k_∧some k_≠(v253:Value).ownBlock) rfl rfl ?aO ?aR (fun _ hk=>hk) ?aF ?aB ?aS ?aL ?_;(case aR=>exact (by skip;exact Kd.V_F (Kd.V_mono (ok':=(fun k_=>((fun k_=>((P0_ k_∨P1_ k_)∨w.heap.size≤k_))) k_∧some k_≠(v253:Value).ownBlock)) (HO_1.out) (fun k_ hk=>⟨hk.1,hk.2⟩))));(case aB=>exact zhb);(case aF=>exact (fun k_ hk=>(.inr (Nat.le_trans (below_size zhb) hk))));(case aO=>exact (zN HO254.out));(case aS=>exact (below_size zhb));(case aL=>have:=LMc76.out;omega);intro v256 w79 ho hb hg hat;rw [← Ny255.out] at ho;have n0_:=Aside0.mk (Kd.V_afterv (ok:=(fun k_=>((P0_ k_∨P1_ k_)∨w.heap.size≤k_))) (zV HO_0.out) hg hat);have n1_:=Aside0.mk (Kd.V_afterv (ok:=(fun k_=>((P0_ k_∨P1_ k_)∨w.heap.size≤k_))) (zV HO_1.out) hg hat);have n2_:=Aside0.mk (hb);have n3_:=Aside0.mk (ho);clear HO_0;clear HO_1;clear HB;clear HO254;have HO_0:=n0_;have HO_1:=n1_;have HB:=n2_;have HO257:=n3_;clear n0_ n1_ n2_ n3_;clear ho hb hg hat))
      go_ret
      exact ⟨_,by first|rfl|(simp [errW_none,errW_some] <;> rfl)|(simp [*,errW_none,errW_some] <;> rfl),by (with_reducible repeat (first|apply Kd.N_alloc|apply Kd.N_drewN|apply Kd.N_drew));exact HO257.out,zhb⟩
     ·rw [if_neg c76] at H
      exact absurd H (by simp)
    ·rw [if_neg c75] at H
     exact absurd H (by simp)

end Go.Proofs.Ytaifnkapbffmaaa.PFnZ
