-- Written by wip/tools/pp.py, a program of this session over the kit's printer: not the kit's own print
import Derived.Test.YtlknceioincaeaaDoorPFnJoinx0
import Derived.Test.YtlknceioincaeaaDoorPFnJoinx13
namespace Go.Proofs.YtlknceioincaeaaDoor.PFnJoin
open Go.RowKit Go.Proofs.YtlknceioincaeaaDoorW.PrintWords Go.Proofs.YtlknceioincaeaaDoorW.PrintLast Go.Proofs.YtlknceioincaeaaDoorW.PrintMore
attribute [local go_sem] max2_int min2_int max_two min_two max_three min_three max_four min_four   -- for this text's walks alone
set_option linter.unusedVariables false
set_option linter.unusedSimpArgs false

/-! ### impl_merged_impl_Item__impl_cmpItem_impl_together_1: function 67 -/
def impl_merged_impl_Item__impl_cmpItem_impl_together_1.l0:Nat→List (S31)→List (S31)→List (S31)→Option ((List (S31)))
 | 0,_,_,_=>none
 | k + 1,x0,x1,x9=>if (x0.length:Int) > 0 then (if (x1.length:Int) > 0 then (if 0 < (x0.length:Int) then (if 0 < (x1.length:Int) then ((impl_cmpItem.f k ((rd_T31 x0 0).f0) ((rd_T31 x0 0).f1) ((rd_T31 x1 0).f0) ((rd_T31 x1 0).f1)).bind fun t352=>(if t352 < 0 then (if x9.length < 4398046511104 then (if 1≤(x0.length:Int) then (impl_merged_impl_Item__impl_cmpItem_impl_together_1.l0 k (x0.drop 1) x1 (x9 ++ [(⟨(rd_T31 x0 0).f0,(rd_T31 x0 0).f1⟩:S31)])) else (none)) else (none)) else (if t352 > 0 then (if x9.length < 4398046511104 then (if 1≤(x1.length:Int) then (impl_merged_impl_Item__impl_cmpItem_impl_together_1.l0 k x0 (x1.drop 1) (x9 ++ [(⟨(rd_T31 x1 0).f0,(rd_T31 x1 0).f1⟩:S31)])) else (none)) else (none)) else ((impl_together_1.f ((rd_T31 x0 0).f0) ((rd_T31 x0 0).f1) ((rd_T31 x1 0).f0) ((rd_T31 x1 0).f1)).bind fun bt373=>(if bt373.2.2=true then (if x9.length < 4398046511104 then (if 1≤(x0.length:Int) then (if 1≤(x1.length:Int) then (impl_merged_impl_Item__impl_cmpItem_impl_together_1.l0 k (x0.drop 1) (x1.drop 1) (x9 ++ [(⟨bt373.1,bt373.2.1⟩:S31)])) else (none)) else (none)) else (none)) else (if 1≤(x0.length:Int) then (if 1≤(x1.length:Int) then (impl_merged_impl_Item__impl_cmpItem_impl_together_1.l0 k (x0.drop 1) (x1.drop 1) x9) else (none)) else (none))))))) else (none)) else (none)) else (if x9.length + x0.length < 4398046511104 then ((some (x9 ++ x0:List (S31))).bind fun y402=>(if y402.length + x1.length < 4398046511104 then (some (y402 ++ x1)) else (none))) else (none))) else (if x9.length + x0.length < 4398046511104 then ((some (x9 ++ x0:List (S31))).bind fun y408=>(if y408.length + x1.length < 4398046511104 then (some (y408 ++ x1)) else (none))) else (none))
def impl_merged_impl_Item__impl_cmpItem_impl_together_1.f (k:Nat) (l0:List (S31)) (l1:List (S31))  :Option ((List (S31))):=impl_merged_impl_Item__impl_cmpItem_impl_together_1.l0 k l0 l1 ([]:List (S31))
theorem impl_merged_impl_Item__impl_cmpItem_impl_together_1.mono_l : ∀ k,(∀ y0 y1 y2,LeO (impl_merged_impl_Item__impl_cmpItem_impl_together_1.l0 k y0 y1 y2) (impl_merged_impl_Item__impl_cmpItem_impl_together_1.l0 (k + 1) y0 y1 y2))
 | 0=>fun _ _ _ r h=>by simp [impl_merged_impl_Item__impl_cmpItem_impl_together_1.l0] at h
 | k + 1=>by
  have ih0:=impl_merged_impl_Item__impl_cmpItem_impl_together_1.mono_l k
  ·intro y0 y1 y2
   unfold impl_merged_impl_Item__impl_cmpItem_impl_together_1.l0
   repeat' first
   | (with_reducible exact ih0 _ _ _)
   | (with_reducible exact impl_cmpItem.mono _ _ _ _ _)
   | (with_reducible exact LeO.refl _)
   | (with_reducible exact LeO.none _)
   | (with_reducible refine LeO.ite ?_ ?_)
   | (with_reducible refine LeO.bind ?_ (fun _=>?_))
   | exact LeO.none _
   | refine LeO.ite ?_ ?_
   | refine LeO.bind ?_ (fun _=>?_)
theorem impl_merged_impl_Item__impl_cmpItem_impl_together_1.mono : ∀ a0 a1 k,LeO (impl_merged_impl_Item__impl_cmpItem_impl_together_1.f k a0 a1) (impl_merged_impl_Item__impl_cmpItem_impl_together_1.f (k + 1) a0 a1):=by
 intro a0 a1 k
 have ih0:=impl_merged_impl_Item__impl_cmpItem_impl_together_1.mono_l k
 unfold impl_merged_impl_Item__impl_cmpItem_impl_together_1.f
 repeat' first
   | (with_reducible exact ih0 _ _ _)
   | (with_reducible exact impl_cmpItem.mono _ _ _ _ _)
   | (with_reducible exact LeO.refl _)
   | (with_reducible exact LeO.none _)
   | (with_reducible refine LeO.ite ?_ ?_)
   | (with_reducible refine LeO.bind ?_ (fun _=>?_))
   | exact LeO.none _
   | refine LeO.ite ?_ ?_
   | refine LeO.bind ?_ (fun _=>?_)
def impl_merged_impl_Item__impl_cmpItem_impl_together_1.T3:Bool × List (List Nat × List Nat):=(true,[([],[]),([],[]),([1],[1]),([2],[2]),([],[]),([4],[4]),([5],[5]),([0,3,6],[0,3,6]),([7,7,0,1,2,3,4,5,6,7],[7])])
def impl_merged_impl_Item__impl_cmpItem_impl_together_1.B3:List Nat:=[0,0,2,6,0,16,48,127,255]
theorem impl_merged_impl_Item__impl_cmpItem_impl_together_1.tab3:rtab .any (opsOf Tryd.f67 3)=impl_merged_impl_Item__impl_cmpItem_impl_together_1.T3:=by kernel_rfl
theorem impl_merged_impl_Item__impl_cmpItem_impl_together_1.bits3:waitsOk impl_merged_impl_Item__impl_cmpItem_impl_together_1.T3.2 impl_merged_impl_Item__impl_cmpItem_impl_together_1.B3=true:=by kernel_rfl
def impl_merged_impl_Item__impl_cmpItem_impl_together_1.T4:Bool × List (List Nat × List Nat):=(true,[([],[]),([],[]),([1],[1]),([2],[2]),([],[]),([4],[4]),([5],[5]),([0,3,6],[0,3,6]),([7],[7]),([8],[8]),([8],[8]),([],[]),([11,9,7,0,1,2,3,4,5,6,7,8,9,11],[9,11]),([10,12,0,1,2,3,4,5,6,7,8,9,10,11,12],[10])])
def impl_merged_impl_Item__impl_cmpItem_impl_together_1.B4:List Nat:=[0,0,2,6,0,16,48,127,255,511,511,0,3071,8191]
theorem impl_merged_impl_Item__impl_cmpItem_impl_together_1.tab4:rtab .any (opsOf Tryd.f67 4)=impl_merged_impl_Item__impl_cmpItem_impl_together_1.T4:=by kernel_rfl
theorem impl_merged_impl_Item__impl_cmpItem_impl_together_1.bits4:waitsOk impl_merged_impl_Item__impl_cmpItem_impl_together_1.T4.2 impl_merged_impl_Item__impl_cmpItem_impl_together_1.B4=true:=by kernel_rfl
def impl_merged_impl_Item__impl_cmpItem_impl_together_1.T9:Bool × List (List Nat × List Nat):=(true,[([],[]),([],[]),([1],[1]),([2],[2]),([3],[3]),([0,4],[0,4]),([],[]),([6],[6]),([5,5,0,1,2,3,4,5],[0,5]),([7,8,0,1,2,3,4,5,6,7,8],[1,6,7])])
def impl_merged_impl_Item__impl_cmpItem_impl_together_1.B9:List Nat:=[0,0,2,6,14,31,0,64,63,511]
theorem impl_merged_impl_Item__impl_cmpItem_impl_together_1.tab9:rtab .any (opsOf Tryd.f67 9)=impl_merged_impl_Item__impl_cmpItem_impl_together_1.T9:=by kernel_rfl
theorem impl_merged_impl_Item__impl_cmpItem_impl_together_1.bits9:waitsOk impl_merged_impl_Item__impl_cmpItem_impl_together_1.T9.2 impl_merged_impl_Item__impl_cmpItem_impl_together_1.B9=true:=by kernel_rfl
def impl_merged_impl_Item__impl_cmpItem_impl_together_1.T11:Bool × List (List Nat × List Nat):=(true,[([],[]),([],[]),([1],[1]),([2],[2]),([3],[3]),([0,4],[0,4]),([],[]),([6],[6]),([5,5,0,1,2,3,4,5],[0,5]),([7,8,0,1,2,3,4,5,6,7,8],[1,6,7])])
def impl_merged_impl_Item__impl_cmpItem_impl_together_1.B11:List Nat:=[0,0,2,6,14,31,0,64,63,511]
theorem impl_merged_impl_Item__impl_cmpItem_impl_together_1.tab11:rtab .any (opsOf Tryd.f67 11)=impl_merged_impl_Item__impl_cmpItem_impl_together_1.T11:=by kernel_rfl
theorem impl_merged_impl_Item__impl_cmpItem_impl_together_1.bits11:waitsOk impl_merged_impl_Item__impl_cmpItem_impl_together_1.T11.2 impl_merged_impl_Item__impl_cmpItem_impl_together_1.B11=true:=by kernel_rfl
set_option maxHeartbeats 8000000 in
set_option maxRecDepth 100000 in
theorem impl_merged_impl_Item__impl_cmpItem_impl_together_1.calls (k:Nat) (P0_:Nat→Prop) (A0:Option Addr) (c0:Nat) (l0:List (S31)) (P1_:Nat→Prop) (A1:Option Addr) (c1:Nat) (l1:List (S31))   (r:List (S31)) (w:World) (hs0:Kd.V k31 31 w w.heap.size (fun k_=>P0_ k_) (.slice A0 l0.length c0) l0) (hs1:Kd.V k31 31 w w.heap.size (fun k_=>P1_ k_) (.slice A1 l1.length c1) l1) (h:impl_merged_impl_Item__impl_cmpItem_impl_together_1.f k l0 l1=some r) :
  Calls Tryd.prog 67 #[.slice A0 l0.length c0,.slice A1 l1.length c1,.func (.func 54) #[] #[],.func (.func 68) #[] #[]] w fun e w'=>∃ v0_:Value,e=.returned (v0_)∧Kd.N k31 31 w' w.heap.size (fun k_=>((P0_ k_∨P1_ k_)∨w.heap.size≤k_)) v0_ r∧Below w.heap.size w w':=by
 have hu31:=Tryd.underlying31
 have HO0:=Aside0.mk (show Kd.V k31 31 w w.heap.size (fun k_=>((P0_ k_∨P1_ k_)∨w.heap.size≤k_)) (.slice A0 l0.length c0) l0 from Kd.V_mono hs0 (fun k_ hk=>.inl (.inl hk)))
 have HO1:=Aside0.mk (show Kd.V k31 31 w w.heap.size (fun k_=>((P0_ k_∨P1_ k_)∨w.heap.size≤k_)) (.slice A1 l1.length c1) l1 from Kd.V_mono hs1 (fun k_ hk=>.inl (.inr hk)))
 have HB:=Aside0.mk (Below.refl w.heap.size w)
 have H:(impl_merged_impl_Item__impl_cmpItem_impl_together_1.l0 k l0 l1 ([]:List (S31)))=some r:=h
 clear h
 have H':=Aside0.mk H
 clear H
 go_enter Tryd.func67,Tryd.ntmps67
 go_wp2
 go_loopg [0,1,9] k (fun kq v0 v1 v9 w'=>∃ (x0_1:List (S31)) (x1_1:List (S31)) (x9_1:List (S31)),Aside0 (impl_merged_impl_Item__impl_cmpItem_impl_together_1.l0 kq x0_1 x1_1 x9_1=some r)∧Aside0 (kq≤k)∧Aside0 (Kd.V k31 31 w' w.heap.size (fun k_=>((P0_ k_∨P1_ k_)∨w.heap.size≤k_)∧some k_≠(v9:Value).ownBlock) v0 x0_1)∧Aside0 (Kd.V k31 31 w' w.heap.size (fun k_=>((P0_ k_∨P1_ k_)∨w.heap.size≤k_)∧some k_≠(v9:Value).ownBlock) v1 x1_1)∧Aside0 (Kd.N k31 31 w' w.heap.size (fun k_=>((P0_ k_∨P1_ k_)∨w.heap.size≤k_)) v9 x9_1)∧Aside0 (Below w.heap.size w w'))
 case atStart=>exact ⟨(l0),(l1),(([]:List (S31))),H',⟨Nat.le_refl _⟩,⟨by (with_reducible repeat (first|apply Kd.V_alloc|apply Kd.V_drewN|apply Kd.V_drew));exact Kd.V_mono HO0.out (fun _ hk=>⟨hk,(by simp [Value.ownBlock])⟩)⟩,⟨by (with_reducible repeat (first|apply Kd.V_alloc|apply Kd.V_drewN|apply Kd.V_drew));exact Kd.V_mono HO1.out (fun _ hk=>⟨hk,(by simp [Value.ownBlock])⟩)⟩,⟨by first|exact Kd.S_nil _ _ _ _ _|exact Kd.N_nil _ _ _ _ _|exact Kd.V_nil _ _ _ _ _|exact Kd.Q_nil _ _ _ _ _|exact Kd.R_nil _ _ _ _ _⟩,⟨zhb⟩⟩
 case round =>
  clear H'
  try clear c1
  try clear p2
  obtain ⟨x0_1,x1_1,x9_1,HA,HK1,HO_0,HO_1,HO_9,HB⟩:=hrel
  cases gk with
  | zero=>exact absurd HA.out (by simp [impl_merged_impl_Item__impl_cmpItem_impl_together_1.l0])
  | succ k1 =>
   have H:=HA.out
   clear HA
   simp only [impl_merged_impl_Item__impl_cmpItem_impl_together_1.l0] at H
   by_cases c5:(x0_1.length:Int) > 0
   rotate_left
   ·rw [if_neg c5] at H
    have c5b0:decide (0 < (x0_1.length:Int))=false:=decide_eq_false c5
    have c5b1:decide (0 < x0_1.length)=false:=decide_eq_false (by omega)
    clear c5
    by_cases c75:x9_1.length + x0_1.length < 4398046511104
    rotate_left
    ·rw [if_neg c75] at H
     exact absurd H (by simp)

    rw [if_pos c75] at H
    have LMc75:=Aside0.mk c75
    clear c75
    obtain ⟨y408,hy408⟩ : ∃ y_:List (S31),y_=(x9_1 ++ x0_1):=⟨_,rfl⟩
    replace H:(if y408.length + x1_1.length < 4398046511104 then (some (y408 ++ x1_1)) else (none))=some r:=by first|(rw [hy408];with_reducible exact H)|(have H2_:=(Option.bind_some _ _).symm.trans H;rw [hy408];with_reducible exact H2_)|(have H2_:=(Option.bind_some _ _).symm.trans H;with_reducible exact H2_)|with_reducible exact H|(rw [hy408];exact H)|exact H
    have Ny408:=Aside0.mk hy408
    clear hy408
    by_cases c76:y408.length + x1_1.length < 4398046511104
    rotate_left
    ·rw [if_neg c76] at H
     exact absurd H (by simp)
    rw [if_pos c76] at H
    have LMc76:=Aside0.mk c76
    clear c76
    obtain ⟨y411,hy411⟩ : ∃ y_:List (S31),y_=(y408 ++ x1_1):=⟨_,rfl⟩
    replace H:(some y411)=some r:=by first|(rw [hy411];with_reducible exact H)|(have H2_:=(Option.bind_some _ _).symm.trans H;rw [hy411];with_reducible exact H2_)|(have H2_:=(Option.bind_some _ _).symm.trans H;with_reducible exact H2_)|with_reducible exact H|(rw [hy411];exact H)|exact H
    have Ny411:=Aside0.mk hy411
    clear hy411
    obtain rfl:=Option.some.inj H
    obtain ⟨Ao77,co77,eo77⟩:=Kd.V_slice HO_0.out
    subst eo77
    go_wp2_with (first|((with_reducible refine gate_builtin (b:=.append) (xs:=#[.tmp 71,.tmp 72]) rfl ?_);(try (refine gate_guard (by rfl) ?_;dsimp only));at_builtin;refine Kd.N_append_rows k31 (w0:=w) w.heap.size rfl (.tmp 71) (.tmp 72) 23 31 (.agg #[(.slice none 0 0),(.int .i64 0)]) 32 rfl Tryd.underlying23 info31 rfl (by decide) (by omega) u9 x9_1 x0_1 _ _ _ (fun k_=>((P0_ k_∨P1_ k_)∨w.heap.size≤k_)) (fun k_=>((fun k_=>((P0_ k_∨P1_ k_)∨w.heap.size≤k_))) k_∧some k_≠(u9:Value).ownBlock) rfl rfl ?aO ?aR (fun _ hk=>hk) ?aF ?aB ?aS ?aL ?_;(case aR=>exact (by skip;exact Kd.V_F (Kd.V_mono (ok':=(fun k_=>((fun k_=>((P0_ k_∨P1_ k_)∨w.heap.size≤k_))) k_∧some k_≠(u9:Value).ownBlock)) (HO_0.out) (fun k_ hk=>⟨hk.1,hk.2⟩))));(case aB=>exact zhb);(case aF=>exact (fun k_ hk=>(.inr (Nat.le_trans (below_size zhb) hk))));(case aO=>exact (zN HO_9.out));(case aS=>exact (below_size zhb));(case aL=>have:=LMc75.out;omega);intro v409 w78 ho hb hg hat;rw [← Ny408.out] at ho;have n0_:=Aside0.mk (Kd.V_afterv (ok:=(fun k_=>((P0_ k_∨P1_ k_)∨w.heap.size≤k_))) (zV HO_0.out) hg hat);have n1_:=Aside0.mk (Kd.V_afterv (ok:=(fun k_=>((P0_ k_∨P1_ k_)∨w.heap.size≤k_))) (zV HO_1.out) hg hat);have n2_:=Aside0.mk (hb);have n3_:=Aside0.mk (ho);clear HO_0;clear HO_1;clear HB;clear HO_9;have HO_0:=n0_;have HO_1:=n1_;have HB:=n2_;have HO410:=n3_;clear n0_ n1_ n2_ n3_;clear ho hb hg hat;obtain ⟨Ao80,co80,eo80⟩:=Kd.V_slice HO_1.out;subst eo80)|((with_reducible refine gate_builtin (b:=.append) (xs:=#[.tmp 73,.tmp 74]) rfl ?_);(try (refine gate_guard (by rfl) ?_;dsimp only));at_builtin;refine Kd.N_append_rows k31 (w0:=w) w.heap.size rfl (.tmp 73) (.tmp 74) 23 31 (.agg #[(.slice none 0 0),(.int .i64 0)]) 32 rfl Tryd.underlying23 info31 rfl (by decide) (by omega) v409 y408 x1_1 _ _ _ (fun k_=>((P0_ k_∨P1_ k_)∨w.heap.size≤k_)) (fun k_=>((fun k_=>((P0_ k_∨P1_ k_)∨w.heap.size≤k_))) k_∧some k_≠(v409:Value).ownBlock) rfl rfl ?aO ?aR (fun _ hk=>hk) ?aF ?aB ?aS ?aL ?_;(case aR=>exact (by skip;exact Kd.V_F (Kd.V_mono (ok':=(fun k_=>((fun k_=>((P0_ k_∨P1_ k_)∨w.heap.size≤k_))) k_∧some k_≠(v409:Value).ownBlock)) (HO_1.out) (fun k_ hk=>⟨hk.1,hk.2⟩))));(case aB=>exact zhb);(case aF=>exact (fun k_ hk=>(.inr (Nat.le_trans (below_size zhb) hk))));(case aO=>exact (zN HO410.out));(case aS=>exact (below_size zhb));(case aL=>have:=LMc76.out;omega);intro v412 w79 ho hb hg hat;rw [← Ny411.out] at ho;have n0_:=Aside0.mk (Kd.V_afterv (ok:=(fun k_=>((P0_ k_∨P1_ k_)∨w.heap.size≤k_))) (zV HO_0.out) hg hat);have n1_:=Aside0.mk (Kd.V_afterv (ok:=(fun k_=>((P0_ k_∨P1_ k_)∨w.heap.size≤k_))) (zV HO_1.out) hg hat);have n2_:=Aside0.mk (hb);have n3_:=Aside0.mk (ho);clear HO_0;clear HO_1;clear HB;clear HO410;have HO_0:=n0_;have HO_1:=n1_;have HB:=n2_;have HO413:=n3_;clear n0_ n1_ n2_ n3_;clear ho hb hg hat))
    go_ret
    exact ⟨_,by first|rfl|(simp [errW_none,errW_some] <;> rfl)|(simp [*,errW_none,errW_some] <;> rfl),by (with_reducible repeat (first|apply Kd.N_alloc|apply Kd.N_drewN|apply Kd.N_drew));exact HO413.out,zhb⟩
   rw [if_pos c5] at H
   have c5b0:decide (0 < (x0_1.length:Int))=true:=decide_eq_true c5
   have c5b1:decide (0 < x0_1.length)=true:=decide_eq_true (by omega)
   clear c5
   by_cases c6:(x1_1.length:Int) > 0
   rotate_left
   ·rw [if_neg c6] at H
    have c6b0:decide (0 < (x1_1.length:Int))=false:=decide_eq_false c6
    have c6b1:decide (0 < x1_1.length)=false:=decide_eq_false (by omega)
    clear c6
    by_cases c69:x9_1.length + x0_1.length < 4398046511104
    rotate_left
    ·rw [if_neg c69] at H
     exact absurd H (by simp)
    rw [if_pos c69] at H
    have LMc69:=Aside0.mk c69
    clear c69
    obtain ⟨y402,hy402⟩ : ∃ y_:List (S31),y_=(x9_1 ++ x0_1):=⟨_,rfl⟩
    replace H:(if y402.length + x1_1.length < 4398046511104 then (some (y402 ++ x1_1)) else (none))=some r:=by first|(rw [hy402];with_reducible exact H)|(have H2_:=(Option.bind_some _ _).symm.trans H;rw [hy402];with_reducible exact H2_)|(have H2_:=(Option.bind_some _ _).symm.trans H;with_reducible exact H2_)|with_reducible exact H|(rw [hy402];exact H)|exact H
    have Ny402:=Aside0.mk hy402
    clear hy402
    by_cases c70:y402.length + x1_1.length < 4398046511104
    rotate_left
    ·rw [if_neg c70] at H
     exact absurd H (by simp)
    rw [if_pos c70] at H
    have LMc70:=Aside0.mk c70
    clear c70
    obtain ⟨y405,hy405⟩ : ∃ y_:List (S31),y_=(y402 ++ x1_1):=⟨_,rfl⟩
    replace H:(some y405)=some r:=by first|(rw [hy405];with_reducible exact H)|(have H2_:=(Option.bind_some _ _).symm.trans H;rw [hy405];with_reducible exact H2_)|(have H2_:=(Option.bind_some _ _).symm.trans H;with_reducible exact H2_)|with_reducible exact H|(rw [hy405];exact H)|exact H
    have Ny405:=Aside0.mk hy405
    clear hy405
    obtain rfl:=Option.some.inj H
    obtain ⟨Ao71,co71,eo71⟩:=Kd.V_slice HO_0.out
    subst eo71
    obtain ⟨Ao72,co72,eo72⟩:=Kd.V_slice HO_1.out
    subst eo72
    go_wp2_with (first|((with_reducible refine gate_builtin (b:=.append) (xs:=#[.tmp 71,.tmp 72]) rfl ?_);(try (refine gate_guard (by rfl) ?_;dsimp only));at_builtin;refine Kd.N_append_rows k31 (w0:=w) w.heap.size rfl (.tmp 71) (.tmp 72) 23 31 (.agg #[(.slice none 0 0),(.int .i64 0)]) 32 rfl Tryd.underlying23 info31 rfl (by decide) (by omega) u9 x9_1 x0_1 _ _ _ (fun k_=>((P0_ k_∨P1_ k_)∨w.heap.size≤k_)) (fun k_=>((fun k_=>((P0_ k_∨P1_ k_)∨w.heap.size≤k_))) k_∧some k_≠(u9:Value).ownBlock) rfl rfl ?aO ?aR (fun _ hk=>hk) ?aF ?aB ?aS ?aL ?_;(case aR=>exact (by skip;exact Kd.V_F (Kd.V_mono (ok':=(fun k_=>((fun k_=>((P0_ k_∨P1_ k_)∨w.heap.size≤k_))) k_∧some k_≠(u9:Value).ownBlock)) (HO_0.out) (fun k_ hk=>⟨hk.1,hk.2⟩))));(case aB=>exact zhb);(case aF=>exact (fun k_ hk=>(.inr (Nat.le_trans (below_size zhb) hk))));(case aO=>exact (zN HO_9.out));(case aS=>exact (below_size zhb));(case aL=>have:=LMc69.out;omega);intro v403 w73 ho hb hg hat;rw [← Ny402.out] at ho;have n0_:=Aside0.mk (Kd.V_afterv (ok:=(fun k_=>((P0_ k_∨P1_ k_)∨w.heap.size≤k_))) (zV HO_0.out) hg hat);have n1_:=Aside0.mk (Kd.V_afterv (ok:=(fun k_=>((P0_ k_∨P1_ k_)∨w.heap.size≤k_))) (zV HO_1.out) hg hat);have n2_:=Aside0.mk (hb);have n3_:=Aside0.mk (ho);clear HO_0;clear HO_1;clear HB;clear HO_9;have HO_0:=n0_;have HO_1:=n1_;have HB:=n2_;have HO404:=n3_;clear n0_ n1_ n2_ n3_;clear ho hb hg hat)|((with_reducible refine gate_builtin (b:=.append) (xs:=#[.tmp 73,.tmp 74]) rfl ?_);(try (refine gate_guard (by rfl) ?_;dsimp only));at_builtin;refine Kd.N_append_rows k31 (w0:=w) w.heap.size rfl (.tmp 73) (.tmp 74) 23 31 (.agg #[(.slice none 0 0),(.int .i64 0)]) 32 rfl Tryd.underlying23 info31 rfl (by decide) (by omega) v403 y402 x1_1 _ _ _ (fun k_=>((P0_ k_∨P1_ k_)∨w.heap.size≤k_)) (fun k_=>((fun k_=>((P0_ k_∨P1_ k_)∨w.heap.size≤k_))) k_∧some k_≠(v403:Value).ownBlock) rfl rfl ?aO ?aR (fun _ hk=>hk) ?aF ?aB ?aS ?aL ?_;(case aR=>exact (by skip;exact Kd.V_F (Kd.V_mono (ok':=(fun k_=>((fun k_=>((P0_ k_∨P1_ k_)∨w.heap.size≤k_))) k_∧some k_≠(v403:Value).ownBlock)) (HO_1.out) (fun k_ hk=>⟨hk.1,hk.2⟩))));(case aB=>exact zhb);(case aF=>exact (fun k_ hk=>(.inr (Nat.le_trans (below_size zhb) hk))));(case aO=>exact (zN HO404.out));(case aS=>exact (below_size zhb));(case aL=>have:=LMc70.out;omega);intro v406 w74 ho hb hg hat;rw [← Ny405.out] at ho;have n0_:=Aside0.mk (Kd.V_afterv (ok:=(fun k_=>((P0_ k_∨P1_ k_)∨w.heap.size≤k_))) (zV HO_0.out) hg hat);have n1_:=Aside0.mk (Kd.V_afterv (ok:=(fun k_=>((P0_ k_∨P1_ k_)∨w.heap.size≤k_))) (zV HO_1.out) hg hat);have n2_:=Aside0.mk (hb);have n3_:=Aside0.mk (ho);clear HO_0;clear HO_1;clear HB;clear HO404;have HO_0:=n0_;have HO_1:=n1_;have HB:=n2_;have HO407:=n3_;clear n0_ n1_ n2_ n3_;clear ho hb hg hat))
    go_ret
    exact ⟨_,by first|rfl|(simp [errW_none,errW_some] <;> rfl)|(simp [*,errW_none,errW_some] <;> rfl),by (with_reducible repeat (first|apply Kd.N_alloc|apply Kd.N_drewN|apply Kd.N_drew));exact HO407.out,zhb⟩
   rw [if_pos c6] at H
   have c6b0:decide (0 < (x1_1.length:Int))=true:=decide_eq_true c6
   have c6b1:decide (0 < x1_1.length)=true:=decide_eq_true (by omega)
   clear c6
   by_cases c7:0 < (x0_1.length:Int)
   rotate_left
   ·rw [if_neg c7] at H
    exact absurd H (by simp)
   rw [if_pos c7] at H
   have c7b0:decide (0 < (x0_1.length:Int))=true:=decide_eq_true c7
   have c7b1:decide (0 < x0_1.length)=true:=decide_eq_true (by omega)
   clear c7
   by_cases c8:0 < (x1_1.length:Int)
   rotate_left
   ·rw [if_neg c8] at H
    exact absurd H (by simp)
   rw [if_pos c8] at H
   have c8b0:decide (0 < (x1_1.length:Int))=true:=decide_eq_true c8
   have c8b1:decide (0 < x1_1.length)=true:=decide_eq_true (by omega)
   clear c8
   replace H:=Option.bind_eq_some_iff.mp H
   obtain ⟨t352,A90,H⟩:=H
   (try dsimp only at H)
   have A9:=Aside0.mk A90
   clear A90
   by_cases c10:t352 < 0
   ·rw [if_pos c10] at H
    have c10b0:decide (t352 < 0)=true:=decide_eq_true c10
    clear c10
    by_cases c11:x9_1.length < 4398046511104
    rotate_left
    ·rw [if_neg c11] at H
     exact absurd H (by simp)
    rw [if_pos c11] at H
    have LMc11:=Aside0.mk c11
    clear c11
    obtain ⟨y354,hy354⟩ : ∃ y_:List (S31),y_=(x9_1 ++ [(⟨(rd_T31 x0_1 0).f0,(rd_T31 x0_1 0).f1⟩:S31)]):=⟨_,rfl⟩
    replace H:(if 1≤(x0_1.length:Int) then (impl_merged_impl_Item__impl_cmpItem_impl_together_1.l0 k1 (x0_1.drop 1) x1_1 y354) else (none))=some r:=by first|(rw [hy354];with_reducible exact H)|(have H2_:=(Option.bind_some _ _).symm.trans H;rw [hy354];with_reducible exact H2_)|(have H2_:=(Option.bind_some _ _).symm.trans H;with_reducible exact H2_)|with_reducible exact H|(rw [hy354];exact H)|exact H
    have Ny354:=Aside0.mk hy354
    clear hy354
    by_cases c12:1≤(x0_1.length:Int)
    rotate_left
    ·rw [if_neg c12] at H
     exact absurd H (by simp)
    rw [if_pos c12] at H
    have c12b0:=eq_true c12
    have c12b1:decide (1≤(x0_1.length:Int))=true:=decide_eq_true c12
    clear c12
    obtain ⟨y357,hy357⟩ : ∃ y_:List (S31),y_=(x0_1.drop 1):=⟨_,rfl⟩
    replace H:(impl_merged_impl_Item__impl_cmpItem_impl_together_1.l0 k1 y357 x1_1 y354)=some r:=by first|(rw [hy357];with_reducible exact H)|(have H2_:=(Option.bind_some _ _).symm.trans H;rw [hy357];with_reducible exact H2_)|(have H2_:=(Option.bind_some _ _).symm.trans H;with_reducible exact H2_)|with_reducible exact H|(rw [hy357];exact H)|exact H
    have Ny357:=Aside0.mk hy357
    clear hy357
    have H':=Aside0.mk H
    clear H
    obtain ⟨Ao13,co13,eo13⟩:=Kd.V_slice HO_0.out
    subst eo13
    obtain ⟨Ao14,co14,eo14⟩:=Kd.V_slice HO_1.out
    subst eo14
    try go_wp2
    have n0_:=Aside0.mk (Kd.V_drew HO_0.out)
    have n1_:=Aside0.mk (Kd.V_drew HO_1.out)
    have n2_:=Aside0.mk (Kd.N_drew HO_9.out)
    have n3_:=Aside0.mk (below_drew1 HB.out)
    clear HO_0
    clear HO_1
    clear HO_9
    clear HB
    have HO_0:=n0_
    have HO_1:=n1_
    have HO_9:=n2_
    have HB:=n3_
    clear n0_ n1_ n2_ n3_
    have p350:0≤(0:Int):=(by omega)
    have q350:0 < (x0_1.length:Int):=zod
    obtain ⟨ad350,A350_0,c350_0,e350,hx350_0,hx350_1,hl350_0,hi350_0⟩:=at_T31 (Kd.V_reads' HO_0.out).2.2 0 p350 q350
    cases e350
    obtain ⟨ce350,hce350,hMe350,hcc350⟩:=Kd.V_get HO_0.out z31 0 p350 (by first|exact q350|exact zod|(have e_:=(Kd.V_reads' HO_0.out).1;omega))
    obtain ⟨ua350_0,uc350_0,rfl,ul350_0,ge350_0⟩:=k31_openF hMe350
    have hv350_0:=hcc350 0 _ rfl
    rw [Nat.add_zero] at hv350_0
    replace hv350_0:=Option.some.inj (hv350_0.symm.trans hx350_0)
    injection hv350_0 with hva_ hvn_ hvc_
    rw [hva_] at ge350_0
    rw [hvc_] at ul350_0
    have HL350_0:=Aside0.mk (show Kd.V (Kd.int .i64) 3 _ w.heap.size _ _ ((rd_T31 x0_1 0).f0) from Kd.V_mk ul350_0 ge350_0)
    clear hva_ hvn_ hvc_ ge350_0 ul350_0
    clear hcc350 hce350
    have qi350:(0 < x0_1.length)=True:=eq_true (by omega)
    (try rw [show ((0:Int)).toNat=0 from rfl] at hx350_0)
    (try rw [show 0 * 2=0 from rfl] at hx350_0)
    (try rw [Addr.add_zero'] at hx350_0)
    (try rw [show ((0:Int)).toNat=0 from rfl] at hx350_1)
    (try rw [show 0 * 2=0 from rfl] at hx350_1)
    (try rw [Addr.add_zero'] at hx350_1)
    have HR350_0:=Aside0.mk hi350_0
    have HC350_0:=Aside0.mk hl350_0
    clear hi350_0 hl350_0
    replace p350:=eq_true p350
    replace q350:=eq_true q350
    have p351:0≤(0:Int):=(by omega)
    have q351:0 < (x1_1.length:Int):=zod
    obtain ⟨ad351,A351_0,c351_0,e351,hx351_0,hx351_1,hl351_0,hi351_0⟩:=at_T31 (Kd.V_reads' HO_1.out).2.2 0 p351 q351
    cases e351
    obtain ⟨ce351,hce351,hMe351,hcc351⟩:=Kd.V_get HO_1.out z31 0 p351 (by first|exact q351|exact zod|(have e_:=(Kd.V_reads' HO_1.out).1;omega))
    obtain ⟨ua351_0,uc351_0,rfl,ul351_0,ge351_0⟩:=k31_openF hMe351
    have hv351_0:=hcc351 0 _ rfl
    rw [Nat.add_zero] at hv351_0
    replace hv351_0:=Option.some.inj (hv351_0.symm.trans hx351_0)
    injection hv351_0 with hva_ hvn_ hvc_
    rw [hva_] at ge351_0
    rw [hvc_] at ul351_0
    have HL351_0:=Aside0.mk (show Kd.V (Kd.int .i64) 3 _ w.heap.size _ _ ((rd_T31 x1_1 0).f0) from Kd.V_mk ul351_0 ge351_0)
    clear hva_ hvn_ hvc_ ge351_0 ul351_0
    clear hcc351 hce351
    have qi351:(0 < x1_1.length)=True:=eq_true (by omega)
    (try rw [show ((0:Int)).toNat=0 from rfl] at hx351_0)
    (try rw [show 0 * 2=0 from rfl] at hx351_0)
    (try rw [Addr.add_zero'] at hx351_0)
    (try rw [show ((0:Int)).toNat=0 from rfl] at hx351_1)
    (try rw [show 0 * 2=0 from rfl] at hx351_1)
    (try rw [Addr.add_zero'] at hx351_1)
    have HR351_0:=Aside0.mk hi351_0
    have HC351_0:=Aside0.mk hl351_0
    clear hi351_0 hl351_0
    replace p351:=eq_true p351
    replace q351:=eq_true q351
    refine start_ (n:=9) (S:=fun w'=>w'.cell? ad350=some (.slice A350_0 ((rd_T31 x0_1 0).f0).length c350_0)∧w'.cell? ⟨ad350.block,ad350.off + 1,none⟩=some (.int .i64 ((rd_T31 x0_1 0).f1))∧w'.cell? ad351=some (.slice A351_0 ((rd_T31 x1_1 0).f0).length c351_0)∧w'.cell? ⟨ad351.block,ad351.off + 1,none⟩=some (.int .i64 ((rd_T31 x1_1 0).f1))) (ds:=[]) (zm 9 0) (by kernel_rfl) rfl rfl ⟨hx350_0,hx350_1,hx351_0,hx351_1⟩ (fun hHeld=>?_);refine with_tabW impl_merged_impl_Item__impl_cmpItem_impl_together_1.tab3 impl_merged_impl_Item__impl_cmpItem_impl_together_1.bits3 (fun HT_ HW_=>?_)
    generalize wr.drew=w15 at HO_0 HO_1 HO_9 HB HL350_0 HL351_0 HR350_0 HR351_0 hx350_0 hx350_1 hx351_0 hx351_1 hHeld ⊢
    refine zpu 0 21 9 1 ?_
    refine zpu 1 22 9 3 ?_
    refine zpu 2 23 9 7 ?_
    refine zpu 4 25 9 23 ?_
    refine zpu 5 26 9 55 ?_
    refine zta 3 24 9 63 ?_
    refine zta 6 27 9 127 ?_
    refine one_ (i:=7) (N:=some 28) (zm 9 255) rfl rfl (one_of HT_.out (by kernel_rfl)) (by decide) (fun K hK=>?_)
    refine goes_f (.tmp 21) Tryd.func54 (by kernel_rfl) rfl #[.agg #[.slice A350_0 ((rd_T31 x0_1 0).f0).length c350_0,.int .i64 ((rd_T31 x0_1 0).f1)],.agg #[.slice A351_0 ((rd_T31 x1_1 0).f0).length c351_0,.int .i64 ((rd_T31 x1_1 0).f1)]] (by rfl) rfl rfl rfl zar ?_
    with_reducible refine (impl_cmpItem.calls k1 _ _ ((rd_T31 x0_1 0).f0) ((rd_T31 x0_1 0).f1) _ _ ((rd_T31 x1_1 0).f0) ((rd_T31 x1_1 0).f1) t352 _ ?side1 ?side2 ?side3 ?side4 A9.out).mono ?_
    (case side1=>exact zC (zC HR350_0.out))
    (case side2=>exact HC350_0.out)
    (case side3=>exact zC (zC HR351_0.out))
    (case side4=>exact HC351_0.out)
    rintro e w16 ⟨rfl,hb⟩
    have HS0_:=zhs hb hHeld.1
    have HS1_:=zhs hb hHeld.2.1
    have HS2_:=zhs hb hHeld.2.2.1
    have HS3_:=zhs hb hHeld.2.2.2
    refine ⟨_,rfl,?_⟩
    have n0_:=Aside0.mk (Kd.V_below (zV HO_0.out) hb)
    have n1_:=Aside0.mk (Kd.V_below (zV HO_1.out) hb)
    have n2_:=Aside0.mk (Kd.N_below (zN HO_9.out) hb)
    have n3_:=Aside0.mk (Kd.V_below (zV HL350_0.out) hb)
    have n4_:=Aside0.mk (Kd.V_below (zV HL351_0.out) hb)
    have n5_:=Aside0.mk (Kd.C_below (zC HR350_0.out) hb)
    have n6_:=Aside0.mk (Kd.C_below (zC HR351_0.out) hb)
    have n7_:=Aside0.mk (below_step zhb hb)
    clear HO_0
    clear HO_1
    clear HO_9
    clear HL350_0
    clear HL351_0
    clear HR350_0
    clear HR351_0
    clear HB
    have HO_0:=n0_
    have HO_1:=n1_
    have HO_9:=n2_
    have HL350_0:=n3_
    have HL351_0:=n4_
    have HR350_0:=n5_
    have HR351_0:=n6_
    have HB:=n7_
    clear n0_ n1_ n2_ n3_ n4_ n5_ n6_ n7_
    (try clear hb)
    (try clear hb2)
    (try clear hk)
    (try clear hi)
    refine hK.out _ _ ⟨HS0_,HS1_,HS2_,HS3_⟩ (fun hHeld=>?_)
    clear hK K
    refine norm_ (a':=?_) ?_ ?_
    rotate_left
    ·show Act.put _ (some 28) _=_
     simp only [Act.put,zp1,zp2,zp3,i64_w,i32_w]
     rfl
    refine zpu 8 10 9 511 ?_
    refine done_ (done_of HT_.out (by kernel_rfl)) ?_
    try go_wp2
    have n0_:=Aside0.mk (Kd.V_drew HO_0.out)
    have n1_:=Aside0.mk (Kd.V_drew HO_1.out)
    have n2_:=Aside0.mk (Kd.N_drew HO_9.out)
    have n3_:=Aside0.mk (Kd.V_drew HL350_0.out)
    have n4_:=Aside0.mk (Kd.V_drew HL351_0.out)
    have n5_:=Aside0.mk (Kd.C_drew HR350_0.out)
    have n6_:=Aside0.mk (Kd.C_drew HR351_0.out)
    have n7_:=Aside0.mk (below_drew1 HB.out)
    clear HO_0
    clear HO_1
    clear HO_9
    clear HL350_0
    clear HL351_0
    clear HR350_0
    clear HR351_0
    clear HB
    have HO_0:=n0_
    have HO_1:=n1_
    have HO_9:=n2_
    have HL350_0:=n3_
    have HL351_0:=n4_
    have HR350_0:=n5_
    have HR351_0:=n6_
    have HB:=n7_
    clear n0_ n1_ n2_ n3_ n4_ n5_ n6_ n7_
    have p353:0≤(0:Int):=(by omega)
    have q353:0 < (x0_1.length:Int):=zod
    obtain ⟨ad353,A353_0,c353_0,e353,hx353_0,hx353_1,hl353_0,hi353_0⟩:=at_T31 (Kd.V_reads' HO_0.out).2.2 0 p353 q353
    obtain rfl:ad350=ad353:=(by injection e353)
    obtain ⟨ce353,hce353,hMe353,hcc353⟩:=Kd.V_get HO_0.out z31 0 p353 (by first|exact q353|exact zod|(have e_:=(Kd.V_reads' HO_0.out).1;omega))
    obtain ⟨ua353_0,uc353_0,rfl,ul353_0,ge353_0⟩:=k31_openF hMe353
    have hv353_0:=hcc353 0 _ rfl
    rw [Nat.add_zero] at hv353_0
    replace hv353_0:=Option.some.inj (hv353_0.symm.trans hx353_0)
    injection hv353_0 with hva_ hvn_ hvc_
    rw [hva_] at ge353_0
    rw [hvc_] at ul353_0
    have HL353_0:=Aside0.mk (show Kd.V (Kd.int .i64) 3 _ w.heap.size _ _ ((rd_T31 x0_1 0).f0) from Kd.V_mk ul353_0 ge353_0)
    clear hva_ hvn_ hvc_ ge353_0 ul353_0
    clear hcc353 hce353
    have qi353:(0 < x0_1.length)=True:=eq_true (by omega)
    (try rw [show ((0:Int)).toNat=0 from rfl] at hx353_0)
    (try rw [show 0 * 2=0 from rfl] at hx353_0)
    (try rw [Addr.add_zero'] at hx353_0)
    (try rw [show ((0:Int)).toNat=0 from rfl] at hx353_1)
    (try rw [show 0 * 2=0 from rfl] at hx353_1)
    (try rw [Addr.add_zero'] at hx353_1)
    have HR353_0:=Aside0.mk hi353_0
    have HC353_0:=Aside0.mk hl353_0
    clear hi353_0 hl353_0
    replace p353:=eq_true p353
    replace q353:=eq_true q353
    have q18:(1:Int)≤((x0_1.length:Int):Int):=zod
    obtain ⟨i018,hi018,_,hsz18,_⟩:=info_parts info31
    have hroom18:x0_1.length≤co13:=(Kd.V_reads' HO_0.out).2.1
    have hC18:Kd.F k31 _ _ (some ad350) x0_1.length x0_1:=(Kd.V_at (base:=w.heap.size) HO_0.out).2.2
    have hcut18:=cut_from (P:=Tryd.prog) 23 31 .i64 Tryd.underlying23 hi018 2 hsz18 (some ad350) x0_1.length co13 1 (by omega) q18
    have hr18:=Kd.F_cut (m:=(1:Int).toNat) (c:=co13) hC18 (by omega) hroom18
    obtain ⟨A18,hA18⟩ : ∃ A1,A1=(if co13=(1:Int).toNat then (some ad350) else ((some ad350):Option Addr).map (·.add ((1:Int).toNat * 2))):=⟨_,rfl⟩
    obtain ⟨c18,hc18⟩ : ∃ c1,c1=co13 - (1:Int).toNat:=⟨_,rfl⟩
    have hy18:y357.length=x0_1.length - (1:Int).toNat:=(by rw [Ny357.out,List.length_drop] <;> omega)
    rw [show (x0_1).drop (1:Int).toNat=y357 from Ny357.out.symm] at hr18
    replace hr18:Kd.F k31 _ _ A18 y357.length y357:=(by rw [hA18];exact hr18)
    rw [← hy18,← hA18,← hc18] at hcut18
    have HO361:=Aside0.mk (show Kd.V k31 31 _ w.heap.size _ (.slice A18 y357.length c18) y357 from Kd.V_mk (by rw [hy18,hc18];exact Nat.sub_le_sub_right hroom18 _) hr18)
    have HC361:=Aside0.mk (show y357.length≤c18 from by rw [hy18,hc18];exact Nat.sub_le_sub_right hroom18 _)
    clear hr18 hC18 hroom18 hi018 hsz18 hc18
    have KY18:=Aside0.mk hy18
    have KA18:=Aside0.mk hA18
    clear hy18 hA18
    replace q18:=eq_true q18
    refine start_ (n:=10) (S:=fun w'=>w'.cell? ad350=some (.slice A353_0 ((rd_T31 x0_1 0).f0).length c353_0)∧w'.cell? ⟨ad350.block,ad350.off + 1,none⟩=some (.int .i64 ((rd_T31 x0_1 0).f1))) (ds:=[4,5]) (zm 10 0) (by kernel_rfl) rfl rfl ⟨hx353_0,hx353_1⟩ (fun hHeld=>?_);refine with_tabW impl_merged_impl_Item__impl_cmpItem_impl_together_1.tab9 impl_merged_impl_Item__impl_cmpItem_impl_together_1.bits9 (fun HT_ HW_=>?_)
    generalize w16.drew=w17 at HO_0 HO_1 HO_9 HL350_0 HL351_0 HR350_0 HR351_0 HB HL353_0 HO361 HR353_0 hx353_0 hx353_1 hHeld ⊢
    refine zpu 0 52 10 1 ?_
    refine zpu 1 53 10 3 ?_
    refine zpu 2 54 10 7 ?_
    refine zpu 6 58 10 71 ?_
    refine zpu 7 59 10 199 ?_
    refine zta 3 55 10 207 ?_
    refine last_ (i:=4) (N:=some 56) (zm 10 223) rfl rfl (one_of HT_.out (by kernel_rfl)) (by decide) (fun K hK=>?_)
    refine value_ (w1:=?_) (v:=?_) (by rfl) rfl ?_ ?_
    rotate_left 2
    ·go_simp
     constructor
     ·rfl
     rfl
    refine hK.out _ _ ?_
    clear hK K
    refine norm_ (a':=?_) ?_ ?_
    rotate_left
    ·show Act.put _ (some 56) _=_
     simp only [Act.put,zp1,zp2,zp3,i64_w,i32_w]
     rfl
    refine last_ (i:=5) (N:=some 57) (zm 10 255) rfl rfl (one_of HT_.out (by kernel_rfl)) (by decide) (fun K hK=>?_)
    refine Kd.N_append_step k31 (w0:=w) w.heap.size (by rfl) (.tmp 52) (.tmp 56) 23 31 (.agg #[(.slice none 0 0),(.int .i64 0)]) 32 rfl Tryd.underlying23 info31 rfl (by decide) (by omega) u9 x9_1 (⟨(rd_T31 x0_1 0).f0,(rd_T31 x0_1 0).f1⟩:S31) [.slice A353_0 ((rd_T31 x0_1 0).f0).length c353_0,.int .i64 ((rd_T31 x0_1 0).f1)] (fun k_=>((P0_ k_∨P1_ k_)∨w.heap.size≤k_)) (fun k_=>((fun k_=>((P0_ k_∨P1_ k_)∨w.heap.size≤k_))) k_∧some k_≠(u9:Value).ownBlock) rfl rfl ?aP (fun _ hk=>hk) ?aF ?aO ?aB ?aS ?aL ?_
    (case aP=>exact (k31_mkF _ _ (⟨(rd_T31 x0_1 0).f0,(rd_T31 x0_1 0).f1⟩:S31) (Kd.V_reads' (Kd.V_mono (ok':=(fun k_=>((fun k_=>((P0_ k_∨P1_ k_)∨w.heap.size≤k_))) k_∧some k_≠(u9:Value).ownBlock)) (HL353_0.out) (fun k_ hk=>⟨hk.1,hk.2⟩))).2.1 (Kd.V_F (Kd.V_mono (ok':=(fun k_=>((fun k_=>((P0_ k_∨P1_ k_)∨w.heap.size≤k_))) k_∧some k_≠(u9:Value).ownBlock)) (HL353_0.out) (fun k_ hk=>⟨hk.1,hk.2⟩)))))
    (case aB=>exact zhb)
    (case aF=>exact (fun k_ hk=>(.inr (Nat.le_trans (below_size zhb) hk))))
    (case aO=>exact (zN HO_9.out))
    (case aS=>exact (below_size zhb))
    (case aL=>have:=LMc11.out;omega)
    intro v355 w19 ho hb hg hat
    rw [← Ny354.out] at ho
    have n0_:=Aside0.mk (Kd.V_afterv (ok:=(fun k_=>((P0_ k_∨P1_ k_)∨w.heap.size≤k_))) (zV HO_0.out) hg hat)
    have n1_:=Aside0.mk (Kd.V_afterv (ok:=(fun k_=>((P0_ k_∨P1_ k_)∨w.heap.size≤k_))) (zV HO_1.out) hg hat)
    have n2_:=Aside0.mk (Kd.V_afterv (ok:=(fun k_=>((P0_ k_∨P1_ k_)∨w.heap.size≤k_))) (zV HL350_0.out) hg hat)
    have n3_:=Aside0.mk (Kd.V_afterv (ok:=(fun k_=>((P0_ k_∨P1_ k_)∨w.heap.size≤k_))) (zV HL351_0.out) hg hat)
    have n4_:=Aside0.mk (Kd.V_afterv (ok:=(fun k_=>((P0_ k_∨P1_ k_)∨w.heap.size≤k_))) (zV HL353_0.out) hg hat)
    have n5_:=Aside0.mk (Kd.V_afterv (ok:=(fun k_=>((P0_ k_∨P1_ k_)∨w.heap.size≤k_))) (zV HO361.out) hg hat)
    have n6_:=Aside0.mk (hb)
    have n7_:=Aside0.mk (ho)
    clear HO_0
    clear HO_1
    clear HL350_0
    clear HL351_0
    clear HL353_0
    clear HO361
    clear HB
    clear HO_9
    have HO_0:=n0_
    have HO_1:=n1_
    have HL350_0:=n2_
    have HL351_0:=n3_
    have HL353_0:=n4_
    have HO361:=n5_
    have HB:=n6_
    have HO356:=n7_
    clear n0_ n1_ n2_ n3_ n4_ n5_ n6_ n7_
    clear ho hb hg hat
    refine hK.out _ _ ?_
    clear hK K
    refine norm_ (a':=?_) ?_ ?_
    rotate_left
    ·show Act.put _ (some 57) _=_
     simp only [Act.put,zp1,zp2,zp3,i64_w,i32_w]
     rfl
    refine zpu 8 9 10 511 ?_
    refine zpu 9 0 10 1023 ?_
    refine done_ (done_of HT_.out (by kernel_rfl)) ?_
    try go_wp2
    go_roundg k1
    case measure=>have:=HK1.out;omega
    case rel=>exact ⟨(y357),(x1_1),(y354),H',⟨by have:=HK1.out;omega⟩,⟨by (with_reducible repeat (first|apply Kd.V_alloc|apply Kd.V_drewN|apply Kd.V_drew));exact HO361.out⟩,⟨by (with_reducible repeat (first|apply Kd.V_alloc|apply Kd.V_drewN|apply Kd.V_drew));exact HO_1.out⟩,⟨by (with_reducible repeat (first|apply Kd.N_alloc|apply Kd.N_drewN|apply Kd.N_drew));exact HO356.out⟩,⟨zhb⟩⟩
   rw [if_neg c10] at H
   have c10b0:decide (t352 < 0)=false:=decide_eq_false c10
   clear c10
   by_cases c20:t352 > 0
   ·rw [if_pos c20] at H
    have c20b0:decide (0 < t352)=true:=decide_eq_true c20
    clear c20
    by_cases c21:x9_1.length < 4398046511104
    rotate_left
    ·rw [if_neg c21] at H
     exact absurd H (by simp)
    rw [if_pos c21] at H
    have LMc21:=Aside0.mk c21
    clear c21
    obtain ⟨y363,hy363⟩ : ∃ y_:List (S31),y_=(x9_1 ++ [(⟨(rd_T31 x1_1 0).f0,(rd_T31 x1_1 0).f1⟩:S31)]):=⟨_,rfl⟩
    replace H:(if 1≤(x1_1.length:Int) then (impl_merged_impl_Item__impl_cmpItem_impl_together_1.l0 k1 x0_1 (x1_1.drop 1) y363) else (none))=some r:=by first|(rw [hy363];with_reducible exact H)|(have H2_:=(Option.bind_some _ _).symm.trans H;rw [hy363];with_reducible exact H2_)|(have H2_:=(Option.bind_some _ _).symm.trans H;with_reducible exact H2_)|with_reducible exact H|(rw [hy363];exact H)|exact H
    have Ny363:=Aside0.mk hy363
    clear hy363
    by_cases c22:1≤(x1_1.length:Int)
    rotate_left
    ·rw [if_neg c22] at H
     exact absurd H (by simp)
    rw [if_pos c22] at H
    have c22b0:=eq_true c22
    have c22b1:decide (1≤(x1_1.length:Int))=true:=decide_eq_true c22
    clear c22
    obtain ⟨y366,hy366⟩ : ∃ y_:List (S31),y_=(x1_1.drop 1):=⟨_,rfl⟩
    replace H:(impl_merged_impl_Item__impl_cmpItem_impl_together_1.l0 k1 x0_1 y366 y363)=some r:=by first|(rw [hy366];with_reducible exact H)|(have H2_:=(Option.bind_some _ _).symm.trans H;rw [hy366];with_reducible exact H2_)|(have H2_:=(Option.bind_some _ _).symm.trans H;with_reducible exact H2_)|with_reducible exact H|(rw [hy366];exact H)|exact H
    have Ny366:=Aside0.mk hy366
    clear hy366
    have H':=Aside0.mk H
    clear H
    obtain ⟨Ao23,co23,eo23⟩:=Kd.V_slice HO_0.out
    subst eo23
    obtain ⟨Ao24,co24,eo24⟩:=Kd.V_slice HO_1.out
    subst eo24
    try go_wp2
    have n0_:=Aside0.mk (Kd.V_drew HO_0.out)
    have n1_:=Aside0.mk (Kd.V_drew HO_1.out)
    have n2_:=Aside0.mk (Kd.N_drew HO_9.out)
    have n3_:=Aside0.mk (below_drew1 HB.out)
    clear HO_0
    clear HO_1
    clear HO_9
    clear HB
    have HO_0:=n0_
    have HO_1:=n1_
    have HO_9:=n2_
    have HB:=n3_
    clear n0_ n1_ n2_ n3_
    have p350:0≤(0:Int):=(by omega)
    have q350:0 < (x0_1.length:Int):=zod
    obtain ⟨ad350,A350_0,c350_0,e350,hx350_0,hx350_1,hl350_0,hi350_0⟩:=at_T31 (Kd.V_reads' HO_0.out).2.2 0 p350 q350
    cases e350
    obtain ⟨ce350,hce350,hMe350,hcc350⟩:=Kd.V_get HO_0.out z31 0 p350 (by first|exact q350|exact zod|(have e_:=(Kd.V_reads' HO_0.out).1;omega))
    obtain ⟨ua350_0,uc350_0,rfl,ul350_0,ge350_0⟩:=k31_openF hMe350
    have hv350_0:=hcc350 0 _ rfl
    rw [Nat.add_zero] at hv350_0
    replace hv350_0:=Option.some.inj (hv350_0.symm.trans hx350_0)
    injection hv350_0 with hva_ hvn_ hvc_
    rw [hva_] at ge350_0
    rw [hvc_] at ul350_0
    have HL350_0:=Aside0.mk (show Kd.V (Kd.int .i64) 3 _ w.heap.size _ _ ((rd_T31 x0_1 0).f0) from Kd.V_mk ul350_0 ge350_0)
    clear hva_ hvn_ hvc_ ge350_0 ul350_0
    clear hcc350 hce350
    have qi350:(0 < x0_1.length)=True:=eq_true (by omega)
    (try rw [show ((0:Int)).toNat=0 from rfl] at hx350_0)
    (try rw [show 0 * 2=0 from rfl] at hx350_0)
    (try rw [Addr.add_zero'] at hx350_0)
    (try rw [show ((0:Int)).toNat=0 from rfl] at hx350_1)
    (try rw [show 0 * 2=0 from rfl] at hx350_1)
    (try rw [Addr.add_zero'] at hx350_1)
    have HR350_0:=Aside0.mk hi350_0
    have HC350_0:=Aside0.mk hl350_0
    clear hi350_0 hl350_0
    replace p350:=eq_true p350
    replace q350:=eq_true q350
    have p351:0≤(0:Int):=(by omega)
    have q351:0 < (x1_1.length:Int):=zod
    obtain ⟨ad351,A351_0,c351_0,e351,hx351_0,hx351_1,hl351_0,hi351_0⟩:=at_T31 (Kd.V_reads' HO_1.out).2.2 0 p351 q351
    cases e351
    obtain ⟨ce351,hce351,hMe351,hcc351⟩:=Kd.V_get HO_1.out z31 0 p351 (by first|exact q351|exact zod|(have e_:=(Kd.V_reads' HO_1.out).1;omega))
    obtain ⟨ua351_0,uc351_0,rfl,ul351_0,ge351_0⟩:=k31_openF hMe351
    have hv351_0:=hcc351 0 _ rfl
    rw [Nat.add_zero] at hv351_0
    replace hv351_0:=Option.some.inj (hv351_0.symm.trans hx351_0)
    injection hv351_0 with hva_ hvn_ hvc_
    rw [hva_] at ge351_0
    rw [hvc_] at ul351_0
    have HL351_0:=Aside0.mk (show Kd.V (Kd.int .i64) 3 _ w.heap.size _ _ ((rd_T31 x1_1 0).f0) from Kd.V_mk ul351_0 ge351_0)
    clear hva_ hvn_ hvc_ ge351_0 ul351_0
    clear hcc351 hce351
    have qi351:(0 < x1_1.length)=True:=eq_true (by omega)
    (try rw [show ((0:Int)).toNat=0 from rfl] at hx351_0)
    (try rw [show 0 * 2=0 from rfl] at hx351_0)
    (try rw [Addr.add_zero'] at hx351_0)
    (try rw [show ((0:Int)).toNat=0 from rfl] at hx351_1)
    (try rw [show 0 * 2=0 from rfl] at hx351_1)
    (try rw [Addr.add_zero'] at hx351_1)
    have HR351_0:=Aside0.mk hi351_0
    have HC351_0:=Aside0.mk hl351_0
    clear hi351_0 hl351_0
    replace p351:=eq_true p351
    replace q351:=eq_true q351
    refine start_ (n:=9) (S:=fun w'=>w'.cell? ad350=some (.slice A350_0 ((rd_T31 x0_1 0).f0).length c350_0)∧w'.cell? ⟨ad350.block,ad350.off + 1,none⟩=some (.int .i64 ((rd_T31 x0_1 0).f1))∧w'.cell? ad351=some (.slice A351_0 ((rd_T31 x1_1 0).f0).length c351_0)∧w'.cell? ⟨ad351.block,ad351.off + 1,none⟩=some (.int .i64 ((rd_T31 x1_1 0).f1))) (ds:=[]) (zm 9 0) (by kernel_rfl) rfl rfl ⟨hx350_0,hx350_1,hx351_0,hx351_1⟩ (fun hHeld=>?_);refine with_tabW impl_merged_impl_Item__impl_cmpItem_impl_together_1.tab3 impl_merged_impl_Item__impl_cmpItem_impl_together_1.bits3 (fun HT_ HW_=>?_)
    generalize wr.drew=w25 at HO_0 HO_1 HO_9 HB HL350_0 HL351_0 HR350_0 HR351_0 hx350_0 hx350_1 hx351_0 hx351_1 hHeld ⊢
    refine zpu 0 21 9 1 ?_
    refine zpu 1 22 9 3 ?_
    refine zpu 2 23 9 7 ?_
    refine zpu 4 25 9 23 ?_
    refine zpu 5 26 9 55 ?_
    refine zta 3 24 9 63 ?_
    refine zta 6 27 9 127 ?_
    refine one_ (i:=7) (N:=some 28) (zm 9 255) rfl rfl (one_of HT_.out (by kernel_rfl)) (by decide) (fun K hK=>?_)
    refine goes_f (.tmp 21) Tryd.func54 (by kernel_rfl) rfl #[.agg #[.slice A350_0 ((rd_T31 x0_1 0).f0).length c350_0,.int .i64 ((rd_T31 x0_1 0).f1)],.agg #[.slice A351_0 ((rd_T31 x1_1 0).f0).length c351_0,.int .i64 ((rd_T31 x1_1 0).f1)]] (by rfl) rfl rfl rfl zar ?_
    with_reducible refine (impl_cmpItem.calls k1 _ _ ((rd_T31 x0_1 0).f0) ((rd_T31 x0_1 0).f1) _ _ ((rd_T31 x1_1 0).f0) ((rd_T31 x1_1 0).f1) t352 _ ?side1 ?side2 ?side3 ?side4 A9.out).mono ?_
    (case side1=>exact zC (zC HR350_0.out))
    (case side2=>exact HC350_0.out)
    (case side3=>exact zC (zC HR351_0.out))
    (case side4=>exact HC351_0.out)
    rintro e w26 ⟨rfl,hb⟩
    have HS0_:=zhs hb hHeld.1
    have HS1_:=zhs hb hHeld.2.1
    have HS2_:=zhs hb hHeld.2.2.1
    have HS3_:=zhs hb hHeld.2.2.2
    refine ⟨_,rfl,?_⟩
    have n0_:=Aside0.mk (Kd.V_below (zV HO_0.out) hb)
    have n1_:=Aside0.mk (Kd.V_below (zV HO_1.out) hb)
    have n2_:=Aside0.mk (Kd.N_below (zN HO_9.out) hb)
    have n3_:=Aside0.mk (Kd.V_below (zV HL350_0.out) hb)
    have n4_:=Aside0.mk (Kd.V_below (zV HL351_0.out) hb)
    have n5_:=Aside0.mk (Kd.C_below (zC HR350_0.out) hb)
    have n6_:=Aside0.mk (Kd.C_below (zC HR351_0.out) hb)
    have n7_:=Aside0.mk (below_step zhb hb)
    clear HO_0
    clear HO_1
    clear HO_9
    clear HL350_0
    clear HL351_0
    clear HR350_0
    clear HR351_0
    clear HB
    have HO_0:=n0_
    have HO_1:=n1_
    have HO_9:=n2_
    have HL350_0:=n3_
    have HL351_0:=n4_
    have HR350_0:=n5_
    have HR351_0:=n6_
    have HB:=n7_
    clear n0_ n1_ n2_ n3_ n4_ n5_ n6_ n7_
    (try clear hb)
    (try clear hb2)
    (try clear hk)
    (try clear hi)
    refine hK.out _ _ ⟨HS0_,HS1_,HS2_,HS3_⟩ (fun hHeld=>?_)
    clear hK K
    refine norm_ (a':=?_) ?_ ?_
    rotate_left
    ·show Act.put _ (some 28) _=_
     simp only [Act.put,zp1,zp2,zp3,i64_w,i32_w]
     rfl
    refine zpu 8 10 9 511 ?_
    refine done_ (done_of HT_.out (by kernel_rfl)) ?_
    try go_wp2
    have n0_:=Aside0.mk (Kd.V_drew HO_0.out)
    have n1_:=Aside0.mk (Kd.V_drew HO_1.out)
    have n2_:=Aside0.mk (Kd.N_drew HO_9.out)
    have n3_:=Aside0.mk (Kd.V_drew HL350_0.out)
    have n4_:=Aside0.mk (Kd.V_drew HL351_0.out)
    have n5_:=Aside0.mk (Kd.C_drew HR350_0.out)
    have n6_:=Aside0.mk (Kd.C_drew HR351_0.out)
    have n7_:=Aside0.mk (below_drew1 HB.out)
    clear HO_0
    clear HO_1
    clear HO_9
    clear HL350_0
    clear HL351_0
    clear HR350_0
    clear HR351_0
    clear HB
    have HO_0:=n0_
    have HO_1:=n1_
    have HO_9:=n2_
    have HL350_0:=n3_
    have HL351_0:=n4_
    have HR350_0:=n5_
    have HR351_0:=n6_
    have HB:=n7_
    clear n0_ n1_ n2_ n3_ n4_ n5_ n6_ n7_
    have p362:0≤(0:Int):=(by omega)
    have q362:0 < (x1_1.length:Int):=zod
    obtain ⟨ad362,A362_0,c362_0,e362,hx362_0,hx362_1,hl362_0,hi362_0⟩:=at_T31 (Kd.V_reads' HO_1.out).2.2 0 p362 q362
    obtain rfl:ad351=ad362:=(by injection e362)
    obtain ⟨ce362,hce362,hMe362,hcc362⟩:=Kd.V_get HO_1.out z31 0 p362 (by first|exact q362|exact zod|(have e_:=(Kd.V_reads' HO_1.out).1;omega))
    obtain ⟨ua362_0,uc362_0,rfl,ul362_0,ge362_0⟩:=k31_openF hMe362
    have hv362_0:=hcc362 0 _ rfl
    rw [Nat.add_zero] at hv362_0
    replace hv362_0:=Option.some.inj (hv362_0.symm.trans hx362_0)
    injection hv362_0 with hva_ hvn_ hvc_
    rw [hva_] at ge362_0
    rw [hvc_] at ul362_0
    have HL362_0:=Aside0.mk (show Kd.V (Kd.int .i64) 3 _ w.heap.size _ _ ((rd_T31 x1_1 0).f0) from Kd.V_mk ul362_0 ge362_0)
    clear hva_ hvn_ hvc_ ge362_0 ul362_0
    clear hcc362 hce362
    have qi362:(0 < x1_1.length)=True:=eq_true (by omega)
    (try rw [show ((0:Int)).toNat=0 from rfl] at hx362_0)
    (try rw [show 0 * 2=0 from rfl] at hx362_0)
    (try rw [Addr.add_zero'] at hx362_0)
    (try rw [show ((0:Int)).toNat=0 from rfl] at hx362_1)
    (try rw [show 0 * 2=0 from rfl] at hx362_1)
    (try rw [Addr.add_zero'] at hx362_1)
    have HR362_0:=Aside0.mk hi362_0
    have HC362_0:=Aside0.mk hl362_0
    clear hi362_0 hl362_0
    replace p362:=eq_true p362
    replace q362:=eq_true q362
    have q28:(1:Int)≤((x1_1.length:Int):Int):=zod
    obtain ⟨i028,hi028,_,hsz28,_⟩:=info_parts info31
    have hroom28:x1_1.length≤co24:=(Kd.V_reads' HO_1.out).2.1
    have hC28:Kd.F k31 _ _ (some ad351) x1_1.length x1_1:=(Kd.V_at (base:=w.heap.size) HO_1.out).2.2
    have hcut28:=cut_from (P:=Tryd.prog) 23 31 .i64 Tryd.underlying23 hi028 2 hsz28 (some ad351) x1_1.length co24 1 (by omega) q28
    have hr28:=Kd.F_cut (m:=(1:Int).toNat) (c:=co24) hC28 (by omega) hroom28
    obtain ⟨A28,hA28⟩ : ∃ A1,A1=(if co24=(1:Int).toNat then (some ad351) else ((some ad351):Option Addr).map (·.add ((1:Int).toNat * 2))):=⟨_,rfl⟩
    obtain ⟨c28,hc28⟩ : ∃ c1,c1=co24 - (1:Int).toNat:=⟨_,rfl⟩
    have hy28:y366.length=x1_1.length - (1:Int).toNat:=(by rw [Ny366.out,List.length_drop] <;> omega)
    rw [show (x1_1).drop (1:Int).toNat=y366 from Ny366.out.symm] at hr28
    replace hr28:Kd.F k31 _ _ A28 y366.length y366:=(by rw [hA28];exact hr28)
    rw [← hy28,← hA28,← hc28] at hcut28
    have HO370:=Aside0.mk (show Kd.V k31 31 _ w.heap.size _ (.slice A28 y366.length c28) y366 from Kd.V_mk (by rw [hy28,hc28];exact Nat.sub_le_sub_right hroom28 _) hr28)
    have HC370:=Aside0.mk (show y366.length≤c28 from by rw [hy28,hc28];exact Nat.sub_le_sub_right hroom28 _)
    clear hr28 hC28 hroom28 hi028 hsz28 hc28
    have KY28:=Aside0.mk hy28
    have KA28:=Aside0.mk hA28
    clear hy28 hA28
    replace q28:=eq_true q28
    refine start_ (n:=10) (S:=fun w'=>w'.cell? ad351=some (.slice A362_0 ((rd_T31 x1_1 0).f0).length c362_0)∧w'.cell? ⟨ad351.block,ad351.off + 1,none⟩=some (.int .i64 ((rd_T31 x1_1 0).f1))) (ds:=[4,5]) (zm 10 0) (by kernel_rfl) rfl rfl ⟨hx362_0,hx362_1⟩ (fun hHeld=>?_);refine with_tabW impl_merged_impl_Item__impl_cmpItem_impl_together_1.tab11 impl_merged_impl_Item__impl_cmpItem_impl_together_1.bits11 (fun HT_ HW_=>?_)
    generalize w26.drew=w27 at HO_0 HO_1 HO_9 HL350_0 HL351_0 HR350_0 HR351_0 HB HL362_0 HO370 HR362_0 hx362_0 hx362_1 hHeld ⊢
    refine zpu 0 63 10 1 ?_
    refine zpu 1 64 10 3 ?_
    refine zpu 2 65 10 7 ?_
    refine zpu 6 69 10 71 ?_
    refine zpu 7 70 10 199 ?_
    refine zta 3 66 10 207 ?_
    refine last_ (i:=4) (N:=some 67) (zm 10 223) rfl rfl (one_of HT_.out (by kernel_rfl)) (by decide) (fun K hK=>?_)
    refine value_ (w1:=?_) (v:=?_) (by rfl) rfl ?_ ?_
    rotate_left 2
    ·go_simp
     constructor
     ·rfl
     rfl
    refine hK.out _ _ ?_
    clear hK K
    refine norm_ (a':=?_) ?_ ?_
    rotate_left
    ·show Act.put _ (some 67) _=_
     simp only [Act.put,zp1,zp2,zp3,i64_w,i32_w]
     rfl
    refine last_ (i:=5) (N:=some 68) (zm 10 255) rfl rfl (one_of HT_.out (by kernel_rfl)) (by decide) (fun K hK=>?_)
    refine Kd.N_append_step k31 (w0:=w) w.heap.size (by rfl) (.tmp 63) (.tmp 67) 23 31 (.agg #[(.slice none 0 0),(.int .i64 0)]) 32 rfl Tryd.underlying23 info31 rfl (by decide) (by omega) u9 x9_1 (⟨(rd_T31 x1_1 0).f0,(rd_T31 x1_1 0).f1⟩:S31) [.slice A362_0 ((rd_T31 x1_1 0).f0).length c362_0,.int .i64 ((rd_T31 x1_1 0).f1)] (fun k_=>((P0_ k_∨P1_ k_)∨w.heap.size≤k_)) (fun k_=>((fun k_=>((P0_ k_∨P1_ k_)∨w.heap.size≤k_))) k_∧some k_≠(u9:Value).ownBlock) rfl rfl ?aP (fun _ hk=>hk) ?aF ?aO ?aB ?aS ?aL ?_
    (case aP=>exact (k31_mkF _ _ (⟨(rd_T31 x1_1 0).f0,(rd_T31 x1_1 0).f1⟩:S31) (Kd.V_reads' (Kd.V_mono (ok':=(fun k_=>((fun k_=>((P0_ k_∨P1_ k_)∨w.heap.size≤k_))) k_∧some k_≠(u9:Value).ownBlock)) (HL362_0.out) (fun k_ hk=>⟨hk.1,hk.2⟩))).2.1 (Kd.V_F (Kd.V_mono (ok':=(fun k_=>((fun k_=>((P0_ k_∨P1_ k_)∨w.heap.size≤k_))) k_∧some k_≠(u9:Value).ownBlock)) (HL362_0.out) (fun k_ hk=>⟨hk.1,hk.2⟩)))))
    (case aB=>exact zhb)
    (case aF=>exact (fun k_ hk=>(.inr (Nat.le_trans (below_size zhb) hk))))
    (case aO=>exact (zN HO_9.out))
    (case aS=>exact (below_size zhb))
    (case aL=>have:=LMc21.out;omega)
    intro v364 w29 ho hb hg hat
    rw [← Ny363.out] at ho
    have n0_:=Aside0.mk (Kd.V_afterv (ok:=(fun k_=>((P0_ k_∨P1_ k_)∨w.heap.size≤k_))) (zV HO_0.out) hg hat)
    have n1_:=Aside0.mk (Kd.V_afterv (ok:=(fun k_=>((P0_ k_∨P1_ k_)∨w.heap.size≤k_))) (zV HO_1.out) hg hat)
    have n2_:=Aside0.mk (Kd.V_afterv (ok:=(fun k_=>((P0_ k_∨P1_ k_)∨w.heap.size≤k_))) (zV HL350_0.out) hg hat)
    have n3_:=Aside0.mk (Kd.V_afterv (ok:=(fun k_=>((P0_ k_∨P1_ k_)∨w.heap.size≤k_))) (zV HL351_0.out) hg hat)
    have n4_:=Aside0.mk (Kd.V_afterv (ok:=(fun k_=>((P0_ k_∨P1_ k_)∨w.heap.size≤k_))) (zV HL362_0.out) hg hat)
    have n5_:=Aside0.mk (Kd.V_afterv (ok:=(fun k_=>((P0_ k_∨P1_ k_)∨w.heap.size≤k_))) (zV HO370.out) hg hat)
    have n6_:=Aside0.mk (hb)
    have n7_:=Aside0.mk (ho)
    clear HO_0
    clear HO_1
    clear HL350_0
    clear HL351_0
    clear HL362_0
    clear HO370
    clear HB
    clear HO_9
    have HO_0:=n0_
    have HO_1:=n1_
    have HL350_0:=n2_
    have HL351_0:=n3_
    have HL362_0:=n4_
    have HO370:=n5_
    have HB:=n6_
    have HO365:=n7_
    clear n0_ n1_ n2_ n3_ n4_ n5_ n6_ n7_
    clear ho hb hg hat
    refine hK.out _ _ ?_
    clear hK K
    refine norm_ (a':=?_) ?_ ?_
    rotate_left
    ·show Act.put _ (some 68) _=_
     simp only [Act.put,zp1,zp2,zp3,i64_w,i32_w]
     rfl
    refine zpu 8 9 10 511 ?_
    refine zpu 9 1 10 1023 ?_
    refine done_ (done_of HT_.out (by kernel_rfl)) ?_
    try go_wp2
    go_roundg k1
    case measure=>have:=HK1.out;omega
    case rel=>exact ⟨(x0_1),(y366),(y363),H',⟨by have:=HK1.out;omega⟩,⟨by (with_reducible repeat (first|apply Kd.V_alloc|apply Kd.V_drewN|apply Kd.V_drew));exact HO_0.out⟩,⟨by (with_reducible repeat (first|apply Kd.V_alloc|apply Kd.V_drewN|apply Kd.V_drew));exact HO370.out⟩,⟨by (with_reducible repeat (first|apply Kd.N_alloc|apply Kd.N_drewN|apply Kd.N_drew));exact HO365.out⟩,⟨zhb⟩⟩
   rw [if_neg c20] at H
   have c20b0:decide (0 < t352)=false:=decide_eq_false c20
   clear c20
   replace H:=Option.bind_eq_some_iff.mp H
   obtain ⟨⟨t373,t376,t377⟩,A300,H⟩:=H
   (try dsimp only at H)
   have A30:=Aside0.mk A300
   clear A300
   by_cases c31:t377=true
   rotate_left
   ·replace c31:=Bool.eq_false_iff.mpr c31
    subst c31
    have H1:(if 1≤(x0_1.length:Int) then (if 1≤(x1_1.length:Int) then (impl_merged_impl_Item__impl_cmpItem_impl_together_1.l0 k1 (x0_1.drop 1) (x1_1.drop 1) x9_1) else (none)) else (none))=some r:=by rw [if_neg (show ¬ (false=true) by decide)] at H;exact H
    clear H
    have H:=H1
    clear H1
    by_cases c52:1≤(x0_1.length:Int)
    rotate_left
    ·rw [if_neg c52] at H
     exact absurd H (by simp)
    rw [if_pos c52] at H
    have c52b0:=eq_true c52
    have c52b1:decide (1≤(x0_1.length:Int))=true:=decide_eq_true c52
    clear c52
    obtain ⟨y392,hy392⟩ : ∃ y_:List (S31),y_=(x0_1.drop 1):=⟨_,rfl⟩
    replace H:(if 1≤(x1_1.length:Int) then (impl_merged_impl_Item__impl_cmpItem_impl_together_1.l0 k1 y392 (x1_1.drop 1) x9_1) else (none))=some r:=by first|(rw [hy392];with_reducible exact H)|(have H2_:=(Option.bind_some _ _).symm.trans H;rw [hy392];with_reducible exact H2_)|(have H2_:=(Option.bind_some _ _).symm.trans H;with_reducible exact H2_)|with_reducible exact H|(rw [hy392];exact H)|exact H
    have Ny392:=Aside0.mk hy392
    clear hy392
    by_cases c53:1≤(x1_1.length:Int)
    rotate_left
    ·rw [if_neg c53] at H
     exact absurd H (by simp)
    rw [if_pos c53] at H
    have c53b0:=eq_true c53
    have c53b1:decide (1≤(x1_1.length:Int))=true:=decide_eq_true c53
    clear c53
    obtain ⟨y397,hy397⟩ : ∃ y_:List (S31),y_=(x1_1.drop 1):=⟨_,rfl⟩
    replace H:(impl_merged_impl_Item__impl_cmpItem_impl_together_1.l0 k1 y392 y397 x9_1)=some r:=by first|(rw [hy397];with_reducible exact H)|(have H2_:=(Option.bind_some _ _).symm.trans H;rw [hy397];with_reducible exact H2_)|(have H2_:=(Option.bind_some _ _).symm.trans H;with_reducible exact H2_)|with_reducible exact H|(rw [hy397];exact H)|exact H
    have Ny397:=Aside0.mk hy397
    clear hy397
    have H':=Aside0.mk H
    clear H
    obtain ⟨Ao54,co54,eo54⟩:=Kd.V_slice HO_0.out
    subst eo54
    obtain ⟨Ao55,co55,eo55⟩:=Kd.V_slice HO_1.out
    subst eo55
    try go_wp2
    have n0_:=Aside0.mk (Kd.V_drew HO_0.out)
    have n1_:=Aside0.mk (Kd.V_drew HO_1.out)
    have n2_:=Aside0.mk (Kd.N_drew HO_9.out)
    have n3_:=Aside0.mk (below_drew1 HB.out)
    clear HO_0
    clear HO_1
    clear HO_9
    clear HB
    have HO_0:=n0_
    have HO_1:=n1_
    have HO_9:=n2_
    have HB:=n3_
    clear n0_ n1_ n2_ n3_
    have p350:0≤(0:Int):=(by omega)
    have q350:0 < (x0_1.length:Int):=zod
    obtain ⟨ad350,A350_0,c350_0,e350,hx350_0,hx350_1,hl350_0,hi350_0⟩:=at_T31 (Kd.V_reads' HO_0.out).2.2 0 p350 q350
    cases e350
    obtain ⟨ce350,hce350,hMe350,hcc350⟩:=Kd.V_get HO_0.out z31 0 p350 (by first|exact q350|exact zod|(have e_:=(Kd.V_reads' HO_0.out).1;omega))
    obtain ⟨ua350_0,uc350_0,rfl,ul350_0,ge350_0⟩:=k31_openF hMe350
    have hv350_0:=hcc350 0 _ rfl
    rw [Nat.add_zero] at hv350_0
    replace hv350_0:=Option.some.inj (hv350_0.symm.trans hx350_0)
    injection hv350_0 with hva_ hvn_ hvc_
    rw [hva_] at ge350_0
    rw [hvc_] at ul350_0
    have HL350_0:=Aside0.mk (show Kd.V (Kd.int .i64) 3 _ w.heap.size _ _ ((rd_T31 x0_1 0).f0) from Kd.V_mk ul350_0 ge350_0)
    clear hva_ hvn_ hvc_ ge350_0 ul350_0
    clear hcc350 hce350
    have qi350:(0 < x0_1.length)=True:=eq_true (by omega)
    (try rw [show ((0:Int)).toNat=0 from rfl] at hx350_0)
    (try rw [show 0 * 2=0 from rfl] at hx350_0)
    (try rw [Addr.add_zero'] at hx350_0)
    (try rw [show ((0:Int)).toNat=0 from rfl] at hx350_1)
    (try rw [show 0 * 2=0 from rfl] at hx350_1)
    (try rw [Addr.add_zero'] at hx350_1)
    have HR350_0:=Aside0.mk hi350_0
    have HC350_0:=Aside0.mk hl350_0
    clear hi350_0 hl350_0
    replace p350:=eq_true p350
    replace q350:=eq_true q350
    have p351:0≤(0:Int):=(by omega)
    have q351:0 < (x1_1.length:Int):=zod
    obtain ⟨ad351,A351_0,c351_0,e351,hx351_0,hx351_1,hl351_0,hi351_0⟩:=at_T31 (Kd.V_reads' HO_1.out).2.2 0 p351 q351
    cases e351
    obtain ⟨ce351,hce351,hMe351,hcc351⟩:=Kd.V_get HO_1.out z31 0 p351 (by first|exact q351|exact zod|(have e_:=(Kd.V_reads' HO_1.out).1;omega))
    obtain ⟨ua351_0,uc351_0,rfl,ul351_0,ge351_0⟩:=k31_openF hMe351
    have hv351_0:=hcc351 0 _ rfl
    rw [Nat.add_zero] at hv351_0
    replace hv351_0:=Option.some.inj (hv351_0.symm.trans hx351_0)
    injection hv351_0 with hva_ hvn_ hvc_
    rw [hva_] at ge351_0
    rw [hvc_] at ul351_0
    have HL351_0:=Aside0.mk (show Kd.V (Kd.int .i64) 3 _ w.heap.size _ _ ((rd_T31 x1_1 0).f0) from Kd.V_mk ul351_0 ge351_0)
    clear hva_ hvn_ hvc_ ge351_0 ul351_0
    clear hcc351 hce351
    have qi351:(0 < x1_1.length)=True:=eq_true (by omega)
    (try rw [show ((0:Int)).toNat=0 from rfl] at hx351_0)
    (try rw [show 0 * 2=0 from rfl] at hx351_0)
    (try rw [Addr.add_zero'] at hx351_0)
    (try rw [show ((0:Int)).toNat=0 from rfl] at hx351_1)
    (try rw [show 0 * 2=0 from rfl] at hx351_1)
    (try rw [Addr.add_zero'] at hx351_1)
    have HR351_0:=Aside0.mk hi351_0
    have HC351_0:=Aside0.mk hl351_0
    clear hi351_0 hl351_0
    replace p351:=eq_true p351
    replace q351:=eq_true q351
    refine start_ (n:=9) (S:=fun w'=>w'.cell? ad350=some (.slice A350_0 ((rd_T31 x0_1 0).f0).length c350_0)∧w'.cell? ⟨ad350.block,ad350.off + 1,none⟩=some (.int .i64 ((rd_T31 x0_1 0).f1))∧w'.cell? ad351=some (.slice A351_0 ((rd_T31 x1_1 0).f0).length c351_0)∧w'.cell? ⟨ad351.block,ad351.off + 1,none⟩=some (.int .i64 ((rd_T31 x1_1 0).f1))) (ds:=[]) (zm 9 0) (by kernel_rfl) rfl rfl ⟨hx350_0,hx350_1,hx351_0,hx351_1⟩ (fun hHeld=>?_);refine with_tabW impl_merged_impl_Item__impl_cmpItem_impl_together_1.tab3 impl_merged_impl_Item__impl_cmpItem_impl_together_1.bits3 (fun HT_ HW_=>?_)
    generalize wr.drew=w56 at HO_0 HO_1 HO_9 HB HL350_0 HL351_0 HR350_0 HR351_0 hx350_0 hx350_1 hx351_0 hx351_1 hHeld ⊢
    refine zpu 0 21 9 1 ?_
    refine zpu 1 22 9 3 ?_
    refine zpu 2 23 9 7 ?_
    refine zpu 4 25 9 23 ?_
    refine zpu 5 26 9 55 ?_
    refine zta 3 24 9 63 ?_
    refine zta 6 27 9 127 ?_
    refine one_ (i:=7) (N:=some 28) (zm 9 255) rfl rfl (one_of HT_.out (by kernel_rfl)) (by decide) (fun K hK=>?_)
    refine goes_f (.tmp 21) Tryd.func54 (by kernel_rfl) rfl #[.agg #[.slice A350_0 ((rd_T31 x0_1 0).f0).length c350_0,.int .i64 ((rd_T31 x0_1 0).f1)],.agg #[.slice A351_0 ((rd_T31 x1_1 0).f0).length c351_0,.int .i64 ((rd_T31 x1_1 0).f1)]] (by rfl) rfl rfl rfl zar ?_
    with_reducible refine (impl_cmpItem.calls k1 _ _ ((rd_T31 x0_1 0).f0) ((rd_T31 x0_1 0).f1) _ _ ((rd_T31 x1_1 0).f0) ((rd_T31 x1_1 0).f1) t352 _ ?side1 ?side2 ?side3 ?side4 A9.out).mono ?_
    (case side1=>exact zC (zC HR350_0.out))
    (case side2=>exact HC350_0.out)
    (case side3=>exact zC (zC HR351_0.out))
    (case side4=>exact HC351_0.out)
    rintro e w57 ⟨rfl,hb⟩
    have HS0_:=zhs hb hHeld.1
    have HS1_:=zhs hb hHeld.2.1
    have HS2_:=zhs hb hHeld.2.2.1
    have HS3_:=zhs hb hHeld.2.2.2
    refine ⟨_,rfl,?_⟩
    have n0_:=Aside0.mk (Kd.V_below (zV HO_0.out) hb)
    have n1_:=Aside0.mk (Kd.V_below (zV HO_1.out) hb)
    have n2_:=Aside0.mk (Kd.N_below (zN HO_9.out) hb)
    have n3_:=Aside0.mk (Kd.V_below (zV HL350_0.out) hb)
    have n4_:=Aside0.mk (Kd.V_below (zV HL351_0.out) hb)
    have n5_:=Aside0.mk (Kd.C_below (zC HR350_0.out) hb)
    have n6_:=Aside0.mk (Kd.C_below (zC HR351_0.out) hb)
    have n7_:=Aside0.mk (below_step zhb hb)
    clear HO_0
    clear HO_1
    clear HO_9
    clear HL350_0
    clear HL351_0
    clear HR350_0
    clear HR351_0
    clear HB
    have HO_0:=n0_
    have HO_1:=n1_
    have HO_9:=n2_
    have HL350_0:=n3_
    have HL351_0:=n4_
    have HR350_0:=n5_
    have HR351_0:=n6_
    have HB:=n7_
    clear n0_ n1_ n2_ n3_ n4_ n5_ n6_ n7_
    (try clear hb)
    (try clear hb2)
    (try clear hk)
    (try clear hi)
    refine hK.out _ _ ⟨HS0_,HS1_,HS2_,HS3_⟩ (fun hHeld=>?_)
    clear hK K
    refine norm_ (a':=?_) ?_ ?_
    rotate_left
    ·show Act.put _ (some 28) _=_
     simp only [Act.put,zp1,zp2,zp3,i64_w,i32_w]
     rfl
    refine zpu 8 10 9 511 ?_
    refine done_ (done_of HT_.out (by kernel_rfl)) ?_
    try go_wp2
    have n0_:=Aside0.mk (Kd.V_drew HO_0.out)
    have n1_:=Aside0.mk (Kd.V_drew HO_1.out)
    have n2_:=Aside0.mk (Kd.N_drew HO_9.out)
    have n3_:=Aside0.mk (Kd.V_drew HL350_0.out)
    have n4_:=Aside0.mk (Kd.V_drew HL351_0.out)
    have n5_:=Aside0.mk (Kd.C_drew HR350_0.out)
    have n6_:=Aside0.mk (Kd.C_drew HR351_0.out)
    have n7_:=Aside0.mk (below_drew1 HB.out)
    clear HO_0
    clear HO_1
    clear HO_9
    clear HL350_0
    clear HL351_0
    clear HR350_0
    clear HR351_0
    clear HB
    have HO_0:=n0_
    have HO_1:=n1_
    have HO_9:=n2_
    have HL350_0:=n3_
    have HL351_0:=n4_
    have HR350_0:=n5_
    have HR351_0:=n6_
    have HB:=n7_
    clear n0_ n1_ n2_ n3_ n4_ n5_ n6_ n7_
    have p371:0≤(0:Int):=(by omega)
    have q371:0 < (x0_1.length:Int):=zod
    obtain ⟨ad371,A371_0,c371_0,e371,hx371_0,hx371_1,hl371_0,hi371_0⟩:=at_T31 (Kd.V_reads' HO_0.out).2.2 0 p371 q371
    obtain rfl:ad350=ad371:=(by injection e371)
    obtain ⟨ce371,hce371,hMe371,hcc371⟩:=Kd.V_get HO_0.out z31 0 p371 (by first|exact q371|exact zod|(have e_:=(Kd.V_reads' HO_0.out).1;omega))
    obtain ⟨ua371_0,uc371_0,rfl,ul371_0,ge371_0⟩:=k31_openF hMe371
    have hv371_0:=hcc371 0 _ rfl
    rw [Nat.add_zero] at hv371_0
    replace hv371_0:=Option.some.inj (hv371_0.symm.trans hx371_0)
    injection hv371_0 with hva_ hvn_ hvc_
    rw [hva_] at ge371_0
    rw [hvc_] at ul371_0
    have HL371_0:=Aside0.mk (show Kd.V (Kd.int .i64) 3 _ w.heap.size _ _ ((rd_T31 x0_1 0).f0) from Kd.V_mk ul371_0 ge371_0)
    clear hva_ hvn_ hvc_ ge371_0 ul371_0
    clear hcc371 hce371
    have qi371:(0 < x0_1.length)=True:=eq_true (by omega)
    (try rw [show ((0:Int)).toNat=0 from rfl] at hx371_0)
    (try rw [show 0 * 2=0 from rfl] at hx371_0)
    (try rw [Addr.add_zero'] at hx371_0)
    (try rw [show ((0:Int)).toNat=0 from rfl] at hx371_1)
    (try rw [show 0 * 2=0 from rfl] at hx371_1)
    (try rw [Addr.add_zero'] at hx371_1)
    have HR371_0:=Aside0.mk hi371_0
    have HC371_0:=Aside0.mk hl371_0
    clear hi371_0 hl371_0
    replace p371:=eq_true p371
    replace q371:=eq_true q371
    have p372:0≤(0:Int):=(by omega)
    have q372:0 < (x1_1.length:Int):=zod
    obtain ⟨ad372,A372_0,c372_0,e372,hx372_0,hx372_1,hl372_0,hi372_0⟩:=at_T31 (Kd.V_reads' HO_1.out).2.2 0 p372 q372
    obtain rfl:ad351=ad372:=(by injection e372)
    obtain ⟨ce372,hce372,hMe372,hcc372⟩:=Kd.V_get HO_1.out z31 0 p372 (by first|exact q372|exact zod|(have e_:=(Kd.V_reads' HO_1.out).1;omega))
    obtain ⟨ua372_0,uc372_0,rfl,ul372_0,ge372_0⟩:=k31_openF hMe372
    have hv372_0:=hcc372 0 _ rfl
    rw [Nat.add_zero] at hv372_0
    replace hv372_0:=Option.some.inj (hv372_0.symm.trans hx372_0)
    injection hv372_0 with hva_ hvn_ hvc_
    rw [hva_] at ge372_0
    rw [hvc_] at ul372_0
    have HL372_0:=Aside0.mk (show Kd.V (Kd.int .i64) 3 _ w.heap.size _ _ ((rd_T31 x1_1 0).f0) from Kd.V_mk ul372_0 ge372_0)
    clear hva_ hvn_ hvc_ ge372_0 ul372_0
    clear hcc372 hce372
    have qi372:(0 < x1_1.length)=True:=eq_true (by omega)
    (try rw [show ((0:Int)).toNat=0 from rfl] at hx372_0)
    (try rw [show 0 * 2=0 from rfl] at hx372_0)
    (try rw [Addr.add_zero'] at hx372_0)
    (try rw [show ((0:Int)).toNat=0 from rfl] at hx372_1)
    (try rw [show 0 * 2=0 from rfl] at hx372_1)
    (try rw [Addr.add_zero'] at hx372_1)
    have HR372_0:=Aside0.mk hi372_0
    have HC372_0:=Aside0.mk hl372_0
    clear hi372_0 hl372_0
    replace p372:=eq_true p372
    replace q372:=eq_true q372
    refine start_ (n:=14) (S:=fun w'=>w'.cell? ad350=some (.slice A371_0 ((rd_T31 x0_1 0).f0).length c371_0)∧w'.cell? ⟨ad350.block,ad350.off + 1,none⟩=some (.int .i64 ((rd_T31 x0_1 0).f1))∧w'.cell? ad351=some (.slice A372_0 ((rd_T31 x1_1 0).f0).length c372_0)∧w'.cell? ⟨ad351.block,ad351.off + 1,none⟩=some (.int .i64 ((rd_T31 x1_1 0).f1))) (ds:=[]) (zm 14 0) (by kernel_rfl) rfl rfl ⟨hx371_0,hx371_1,hx372_0,hx372_1⟩ (fun hHeld=>?_);refine with_tabW impl_merged_impl_Item__impl_cmpItem_impl_together_1.tab4 impl_merged_impl_Item__impl_cmpItem_impl_together_1.bits4 (fun HT_ HW_=>?_)
    generalize w57.drew=w58 at HO_0 HO_1 HO_9 HL350_0 HL351_0 HR350_0 HR351_0 HB HL371_0 HL372_0 HR371_0 HR372_0 hx371_0 hx371_1 hx372_0 hx372_1 hHeld ⊢
    refine zpu 0 30 14 1 ?_
    refine zpu 1 31 14 3 ?_
    refine zpu 2 32 14 7 ?_
    refine zpu 4 34 14 23 ?_
    refine zpu 5 35 14 55 ?_
    refine zta 3 33 14 63 ?_
    refine zta 6 36 14 127 ?_
    refine join_ (σ:=Value × Nat) 2 (zm 14 4095) (fun s_=>[(37,.tuple #[.agg #[s_.1,.int .i64 t376],.bool false]),(11,.pointer (some ⟨s_.2,0,none⟩)),(29,.tuple #[.agg #[s_.1,.int .i64 t376],.bool false]),(38,.agg #[s_.1,.int .i64 t376]),(39,.bool false)]) (fun s_ w'=>(w'.cell? ad350=some (.slice A371_0 ((rd_T31 x0_1 0).f0).length c371_0)∧w'.cell? ⟨ad350.block,ad350.off + 1,none⟩=some (.int .i64 ((rd_T31 x0_1 0).f1))∧w'.cell? ad351=some (.slice A372_0 ((rd_T31 x1_1 0).f0).length c372_0)∧w'.cell? ⟨ad351.block,ad351.off + 1,none⟩=some (.int .i64 ((rd_T31 x1_1 0).f1)))∧(Kd.V (Kd.int .i64) 3 w' w.heap.size (fun k_=>((P0_ k_∨P1_ k_)∨w.heap.size≤k_)∧some k_≠(u9:Value).ownBlock∧k_≠s_.2) (.slice A350_0 ((rd_T31 x0_1 0).f0).length c350_0) ((rd_T31 x0_1 0).f0))∧(Kd.V (Kd.int .i64) 3 w' w.heap.size (fun k_=>((P0_ k_∨P1_ k_)∨w.heap.size≤k_)∧some k_≠(u9:Value).ownBlock∧k_≠s_.2) (.slice A351_0 ((rd_T31 x1_1 0).f0).length c351_0) ((rd_T31 x1_1 0).f0))∧(Kd.V (Kd.int .i64) 3 w' w.heap.size (fun k_=>((P0_ k_∨P1_ k_)∨w.heap.size≤k_)∧some k_≠(u9:Value).ownBlock∧k_≠s_.2) (.slice A371_0 ((rd_T31 x0_1 0).f0).length c371_0) ((rd_T31 x0_1 0).f0))∧(Kd.V (Kd.int .i64) 3 w' w.heap.size (fun k_=>((P0_ k_∨P1_ k_)∨w.heap.size≤k_)∧some k_≠(u9:Value).ownBlock∧k_≠s_.2) (.slice A372_0 ((rd_T31 x1_1 0).f0).length c372_0) ((rd_T31 x1_1 0).f0))∧(Kd.V (Kd.int .i64) 3 w' w.heap.size (fun k_=>((P0_ k_∨P1_ k_)∨w.heap.size≤k_)∧some k_≠(u9:Value).ownBlock∧k_≠s_.2) s_.1 t373)∧(Kd.V k31 31 w' w.heap.size (fun k_=>((P0_ k_∨P1_ k_)∨w.heap.size≤k_)∧some k_≠(u9:Value).ownBlock∧k_≠s_.2) (.slice (some ad350) x0_1.length co54) x0_1)∧(Kd.V k31 31 w' w.heap.size (fun k_=>((P0_ k_∨P1_ k_)∨w.heap.size≤k_)∧some k_≠(u9:Value).ownBlock∧k_≠s_.2) (.slice (some ad351) x1_1.length co55) x1_1)∧(Kd.N k31 31 w' w.heap.size (fun k_=>((P0_ k_∨P1_ k_)∨w.heap.size≤k_)∧k_≠s_.2) u9 x9_1)∧(w'.heap[s_.2]?=some (.cells #[.slice none 0 0,.int .i64 0] 31 (0,0)))∧(w.heap.size≤s_.2)∧(w.heap.size≤s_.2)∧(Below w.heap.size w w')) ?_ ?_
    rotate_left
    ·intro hCont
     refine two_ (i:=7) (j:=11) (Ni:=some 37) (Nj:=some 11) (zm 14 255) (zm 14 2175) rfl rfl rfl rfl (two_of HT_.out (by kernel_rfl)) (by decide) (by decide) (fun K hK=>?_) (fun K hK=>?_)
     ·skip
      refine goes_f (.tmp 30) Tryd.func68 (by kernel_rfl) rfl #[.agg #[.slice A371_0 ((rd_T31 x0_1 0).f0).length c371_0,.int .i64 ((rd_T31 x0_1 0).f1)],.agg #[.slice A372_0 ((rd_T31 x1_1 0).f0).length c372_0,.int .i64 ((rd_T31 x1_1 0).f1)]] (by rfl) rfl rfl rfl zar ?_
      with_reducible refine (impl_together_1.calls (fun k_=>(((P0_ k_∨P1_ k_)∨w.heap.size≤k_)∧some k_≠(u9:Value).ownBlock)) _ _ ((rd_T31 x0_1 0).f0) ((rd_T31 x0_1 0).f1) _ _ ((rd_T31 x1_1 0).f0) ((rd_T31 x1_1 0).f1) t373 t376 false _ ?side1 ?side2 ?side3 A30.out).mono ?_
      (case side1=>exact HL371_0.out)
      (case side2=>exact zC (zC HR372_0.out))
      (case side3=>exact HC372_0.out)
      rintro e w59 ⟨v374,rfl,ho0,hb⟩
      have HS0_:=zhs hb hHeld.1
      have HS1_:=zhs hb hHeld.2.1
      have HS2_:=zhs hb hHeld.2.2.1
      have HS3_:=zhs hb hHeld.2.2.2
      refine ⟨_,rfl,?_⟩
      have n0_:=Aside0.mk (Kd.V_below (zV HO_0.out) hb)
      have n1_:=Aside0.mk (Kd.V_below (zV HO_1.out) hb)
      have n2_:=Aside0.mk (Kd.N_below (zN HO_9.out) hb)
      have n3_:=Aside0.mk (Kd.V_below (zV HL350_0.out) hb)
      have n4_:=Aside0.mk (Kd.V_below (zV HL351_0.out) hb)
      have n5_:=Aside0.mk (Kd.V_below (zV HL371_0.out) hb)
      have n6_:=Aside0.mk (Kd.V_below (zV HL372_0.out) hb)
      have n7_:=Aside0.mk (Kd.V_lower (Kd.V_mono (ok':=fun k_=>((P0_ k_∨P1_ k_)∨w.heap.size≤k_)∧some k_≠(u9:Value).ownBlock) ho0 (fun k_ hk_=>⟨Or.elim hk_ (fun hs_=>hs_.1) (fun hn_=>(.inr (Nat.le_trans (below_size zhb) hn_))),Or.elim hk_ (fun hs_=>hs_.2) (fun hn_=>(Kd.fresh' (Kd.N_lt (zN HO_9.out)) k_ hn_))⟩)) (below_size zhb))
      have n8_:=Aside0.mk (Kd.C_below (zC HR350_0.out) hb)
      have n9_:=Aside0.mk (Kd.C_below (zC HR351_0.out) hb)
      have n10_:=Aside0.mk (Kd.C_below (zC HR371_0.out) hb)
      have n11_:=Aside0.mk (Kd.C_below (zC HR372_0.out) hb)
      have n12_:=Aside0.mk (below_step zhb hb)
      clear HO_0
      clear HO_1
      clear HO_9
      clear HL350_0
      clear HL351_0
      clear HL371_0
      clear HL372_0
      clear HR350_0
      clear HR351_0
      clear HR371_0
      clear HR372_0
      clear HB
      have HO_0:=n0_
      have HO_1:=n1_
      have HO_9:=n2_
      have HL350_0:=n3_
      have HL351_0:=n4_
      have HL371_0:=n5_
      have HL372_0:=n6_
      have HO375:=n7_
      have HR350_0:=n8_
      have HR351_0:=n9_
      have HR371_0:=n10_
      have HR372_0:=n11_
      have HB:=n12_
      clear n0_ n1_ n2_ n3_ n4_ n5_ n6_ n7_ n8_ n9_ n10_ n11_ n12_
      (try clear hb)
      (try clear hb2)
      (try clear hk)
      (try clear hi)
      (try clear ho0)
      refine hK.out _ _ ⟨HS0_,HS1_,HS2_,HS3_⟩ (fun hHeld=>?_)
      clear hK K
      refine norm_ (a':=?_) ?_ ?_
      rotate_left
      ·show Act.put _ (some 37) _=_
       simp only [Act.put,zp1,zp2,zp3,i64_w,i32_w]
       rfl
      refine zpu 8 29 14 511 ?_
      refine zpu 9 38 14 1023 ?_
      refine zpu 10 39 14 2047 ?_
      refine one_ (i:=11) (N:=some 11) (zm 14 4095) rfl rfl (one_of HT_.out (by kernel_rfl)) (by decide) (fun K hK=>?_)
      refine box_step ?hg (N:=11) ?hd (cs:=#[.slice none 0 0,.int .i64 0]) (t:=31) ?hr ?_;(case hd=>rfl);(case hg=>rfl);(case hr=>first|(go_simp;done)|(go_simp;rfl))
      intro gb378 hg w60 hbox hb
      have HS0_:=zhs hb hHeld.1
      have HS1_:=zhs hb hHeld.2.1
      have HS2_:=zhs hb hHeld.2.2.1
      have HS3_:=zhs hb hHeld.2.2.2
      have n0_:=Aside0.mk (Kd.V_below (Kd.V_elderB (zV HO_0.out) gb378 (Nat.le_of_eq hg.symm)) hb)
      have n1_:=Aside0.mk (Kd.V_below (Kd.V_elderB (zV HO_1.out) gb378 (Nat.le_of_eq hg.symm)) hb)
      have n2_:=Aside0.mk (Kd.N_below (Kd.N_elderB (zN HO_9.out) gb378 (Nat.le_of_eq hg.symm)) hb)
      have n3_:=Aside0.mk (Kd.V_below (Kd.V_elderB (zV HL350_0.out) gb378 (Nat.le_of_eq hg.symm)) hb)
      have n4_:=Aside0.mk (Kd.V_below (Kd.V_elderB (zV HL351_0.out) gb378 (Nat.le_of_eq hg.symm)) hb)
      have n5_:=Aside0.mk (Kd.V_below (Kd.V_elderB (zV HL371_0.out) gb378 (Nat.le_of_eq hg.symm)) hb)
      have n6_:=Aside0.mk (Kd.V_below (Kd.V_elderB (zV HL372_0.out) gb378 (Nat.le_of_eq hg.symm)) hb)
      have n7_:=Aside0.mk (Kd.V_below (Kd.V_elderB (zV HO375.out) gb378 (Nat.le_of_eq hg.symm)) hb)
      have n8_:=Aside0.mk (Kd.C_below (zC HR350_0.out) hb)
      have n9_:=Aside0.mk (Kd.C_below (zC HR351_0.out) hb)
      have n10_:=Aside0.mk (Kd.C_below (zC HR371_0.out) hb)
      have n11_:=Aside0.mk (Kd.C_below (zC HR372_0.out) hb)
      have n12_:=Aside0.mk (below_step zhb hb)
      have n13_:=Aside0.mk (hbox)
      have n14_:=Aside0.mk ((by rw [hg];exact (below_size zhb):w.heap.size≤gb378))
      have n15_:=Aside0.mk ((by rw [hg];exact (below_size zhb):w.heap.size≤gb378))
      clear HO_0
      clear HO_1
      clear HO_9
      clear HL350_0
      clear HL351_0
      clear HL371_0
      clear HL372_0
      clear HO375
      clear HR350_0
      clear HR351_0
      clear HR371_0
      clear HR372_0
      clear HB
      have HO_0:=n0_
      have HO_1:=n1_
      have HO_9:=n2_
      have HL350_0:=n3_
      have HL351_0:=n4_
      have HL371_0:=n5_
      have HL372_0:=n6_
      have HO375:=n7_
      have HR350_0:=n8_
      have HR351_0:=n9_
      have HR371_0:=n10_
      have HR372_0:=n11_
      have HB:=n12_
      have BK378:=n13_
      have GW378:=n14_
      have GE378:=n15_
      clear n0_ n1_ n2_ n3_ n4_ n5_ n6_ n7_ n8_ n9_ n10_ n11_ n12_ n13_ n14_ n15_
      clear hb hbox hg
      refine hK.out _ _ ⟨HS0_,HS1_,HS2_,HS3_⟩ (fun hHeld=>?_)
      clear hK K
      refine norm_ (a':=?_) ?_ ?_
      rotate_left
      ·show Act.put _ (some 11) _=_
       simp only [Act.put,zp1,zp2,zp3,i64_w,i32_w]
       rfl
      exact norm_ (by simp only [putAll,Act.put,zp1,zp2,zp3]) (hCont (v374,gb378) _ ⟨hHeld,(by (with_reducible repeat (first|apply Kd.V_alloc|apply Kd.V_drewN|apply Kd.V_drew));exact Kd.V_mono HL350_0.out (fun _ hk=>⟨hk.1.1,⟨hk.1.2,hk.2⟩⟩)),(by (with_reducible repeat (first|apply Kd.V_alloc|apply Kd.V_drewN|apply Kd.V_drew));exact Kd.V_mono HL351_0.out (fun _ hk=>⟨hk.1.1,⟨hk.1.2,hk.2⟩⟩)),(by (with_reducible repeat (first|apply Kd.V_alloc|apply Kd.V_drewN|apply Kd.V_drew));exact Kd.V_mono HL371_0.out (fun _ hk=>⟨hk.1.1,⟨hk.1.2,hk.2⟩⟩)),(by (with_reducible repeat (first|apply Kd.V_alloc|apply Kd.V_drewN|apply Kd.V_drew));exact Kd.V_mono HL372_0.out (fun _ hk=>⟨hk.1.1,⟨hk.1.2,hk.2⟩⟩)),(by (with_reducible repeat (first|apply Kd.V_alloc|apply Kd.V_drewN|apply Kd.V_drew));exact Kd.V_mono HO375.out (fun _ hk=>⟨hk.1.1,⟨hk.1.2,hk.2⟩⟩)),(by (with_reducible repeat (first|apply Kd.V_alloc|apply Kd.V_drewN|apply Kd.V_drew));exact Kd.V_mono HO_0.out (fun _ hk=>⟨hk.1.1,⟨hk.1.2,hk.2⟩⟩)),(by (with_reducible repeat (first|apply Kd.V_alloc|apply Kd.V_drewN|apply Kd.V_drew));exact Kd.V_mono HO_1.out (fun _ hk=>⟨hk.1.1,⟨hk.1.2,hk.2⟩⟩)),(zN HO_9.out),(by (with_reducible repeat (first|refine blk_drewN ?_ _|refine blk_drew ?_|refine blk_alloc ?_ _));exact BK378.out),GW378.out,GE378.out,(by repeat (first|(with_reducible first|exact HB.out|apply below_alloc|apply pw_below_drewN|apply below_drew1|refine below_set ?_ GE378.out)|exact HB.out))⟩)
     skip
     refine box_step ?hg (N:=11) ?hd (cs:=#[.slice none 0 0,.int .i64 0]) (t:=31) ?hr ?_;(case hd=>rfl);(case hg=>rfl);(case hr=>first|(go_simp;done)|(go_simp;rfl))
     intro gb378 hg w59 hbox hb
     have HS0_:=zhs hb hHeld.1
     have HS1_:=zhs hb hHeld.2.1
     have HS2_:=zhs hb hHeld.2.2.1
     have HS3_:=zhs hb hHeld.2.2.2
     have n0_:=Aside0.mk (Kd.V_below (Kd.V_elderB (zV HO_0.out) gb378 (Nat.le_of_eq hg.symm)) hb)
     have n1_:=Aside0.mk (Kd.V_below (Kd.V_elderB (zV HO_1.out) gb378 (Nat.le_of_eq hg.symm)) hb)
     have n2_:=Aside0.mk (Kd.N_below (Kd.N_elderB (zN HO_9.out) gb378 (Nat.le_of_eq hg.symm)) hb)
     have n3_:=Aside0.mk (Kd.V_below (Kd.V_elderB (zV HL350_0.out) gb378 (Nat.le_of_eq hg.symm)) hb)
     have n4_:=Aside0.mk (Kd.V_below (Kd.V_elderB (zV HL351_0.out) gb378 (Nat.le_of_eq hg.symm)) hb)
     have n5_:=Aside0.mk (Kd.V_below (Kd.V_elderB (zV HL371_0.out) gb378 (Nat.le_of_eq hg.symm)) hb)
     have n6_:=Aside0.mk (Kd.V_below (Kd.V_elderB (zV HL372_0.out) gb378 (Nat.le_of_eq hg.symm)) hb)
     have n7_:=Aside0.mk (Kd.C_below (zC HR350_0.out) hb)
     have n8_:=Aside0.mk (Kd.C_below (zC HR351_0.out) hb)
     have n9_:=Aside0.mk (Kd.C_below (zC HR371_0.out) hb)
     have n10_:=Aside0.mk (Kd.C_below (zC HR372_0.out) hb)
     have n11_:=Aside0.mk (below_step zhb hb)
     have n12_:=Aside0.mk (hbox)
     have n13_:=Aside0.mk ((by rw [hg];exact (below_size zhb):w.heap.size≤gb378))
     have n14_:=Aside0.mk ((by rw [hg];exact (below_size zhb):w.heap.size≤gb378))
     clear HO_0
     clear HO_1
     clear HO_9
     clear HL350_0
     clear HL351_0
     clear HL371_0
     clear HL372_0
     clear HR350_0
     clear HR351_0
     clear HR371_0
     clear HR372_0
     clear HB
     have HO_0:=n0_
     have HO_1:=n1_
     have HO_9:=n2_
     have HL350_0:=n3_
     have HL351_0:=n4_
     have HL371_0:=n5_
     have HL372_0:=n6_
     have HR350_0:=n7_
     have HR351_0:=n8_
     have HR371_0:=n9_
     have HR372_0:=n10_
     have HB:=n11_
     have BK378:=n12_
     have GW378:=n13_
     have GE378:=n14_
     clear n0_ n1_ n2_ n3_ n4_ n5_ n6_ n7_ n8_ n9_ n10_ n11_ n12_ n13_ n14_
     clear hb hbox hg
     refine hK.out _ _ ⟨HS0_,HS1_,HS2_,HS3_⟩ (fun hHeld=>?_)
     clear hK K
     refine norm_ (a':=?_) ?_ ?_
     rotate_left
     ·show Act.put _ (some 11) _=_
      simp only [Act.put,zp1,zp2,zp3,i64_w,i32_w]
      rfl
     refine one_ (i:=7) (N:=some 37) (zm 14 2303) rfl rfl (one_of HT_.out (by kernel_rfl)) (by decide) (fun K hK=>?_)
     refine goes_f (.tmp 30) Tryd.func68 (by kernel_rfl) rfl #[.agg #[.slice A371_0 ((rd_T31 x0_1 0).f0).length c371_0,.int .i64 ((rd_T31 x0_1 0).f1)],.agg #[.slice A372_0 ((rd_T31 x1_1 0).f0).length c372_0,.int .i64 ((rd_T31 x1_1 0).f1)]] (by rfl) rfl rfl rfl zar ?_
     with_reducible refine (impl_together_1.calls (fun k_=>((((P0_ k_∨P1_ k_)∨w.heap.size≤k_)∧some k_≠(u9:Value).ownBlock)∧k_≠gb378)) _ _ ((rd_T31 x0_1 0).f0) ((rd_T31 x0_1 0).f1) _ _ ((rd_T31 x1_1 0).f0) ((rd_T31 x1_1 0).f1) t373 t376 false _ ?side1 ?side2 ?side3 A30.out).mono ?_
     (case side1=>exact HL371_0.out)
     (case side2=>exact zC (zC HR372_0.out))
     (case side3=>exact HC372_0.out)
     rintro e w60 ⟨v374,rfl,ho0,hb⟩
     have HS0_:=zhs hb hHeld.1
     have HS1_:=zhs hb hHeld.2.1
     have HS2_:=zhs hb hHeld.2.2.1
     have HS3_:=zhs hb hHeld.2.2.2
     refine ⟨_,rfl,?_⟩
     have n0_:=Aside0.mk (Kd.V_below (zV HO_0.out) hb)
     have n1_:=Aside0.mk (Kd.V_below (zV HO_1.out) hb)
     have n2_:=Aside0.mk (Kd.N_below (zN HO_9.out) hb)
     have n3_:=Aside0.mk (Kd.V_below (zV HL350_0.out) hb)
     have n4_:=Aside0.mk (Kd.V_below (zV HL351_0.out) hb)
     have n5_:=Aside0.mk (Kd.V_below (zV HL371_0.out) hb)
     have n6_:=Aside0.mk (Kd.V_below (zV HL372_0.out) hb)
     have n7_:=Aside0.mk (Kd.V_lower (Kd.V_mono (ok':=fun k_=>((P0_ k_∨P1_ k_)∨w.heap.size≤k_)∧some k_≠(u9:Value).ownBlock∧k_≠gb378) ho0 (fun k_ hk_=>⟨Or.elim hk_ (fun hs_=>hs_.1.1) (fun hn_=>(.inr (Nat.le_trans (below_size (by repeat (first|(with_reducible first|exact HB.out|apply below_alloc|apply pw_below_drewN|apply below_drew1|refine below_set ?_ GE378.out)|exact HB.out))) hn_))),Or.elim hk_ (fun hs_=>hs_.1.2) (fun hn_=>(Kd.fresh' (Kd.N_lt (zN HO_9.out)) k_ hn_)),Or.elim hk_ (fun hs_=>hs_.2) (fun hn_=>(Kd.freshB (g:=gb378) (o:=.cells #[.slice none 0 0,.int .i64 0] 31 (0,0)) (by (with_reducible repeat (first|refine blk_drewN ?_ _|refine blk_drew ?_|refine blk_alloc ?_ _));exact BK378.out) k_ hn_))⟩)) (below_size (by repeat (first|(with_reducible first|exact HB.out|apply below_alloc|apply pw_below_drewN|apply below_drew1|refine below_set ?_ GE378.out)|exact HB.out))))
     have n8_:=Aside0.mk (Kd.C_below (zC HR350_0.out) hb)
     have n9_:=Aside0.mk (Kd.C_below (zC HR351_0.out) hb)
     have n10_:=Aside0.mk (Kd.C_below (zC HR371_0.out) hb)
     have n11_:=Aside0.mk (Kd.C_below (zC HR372_0.out) hb)
     have n12_:=Aside0.mk (blk_below (g:=gb378) (o:=.cells #[.slice none 0 0,.int .i64 0] 31 (0,0)) (by (with_reducible repeat (first|refine blk_drewN ?_ _|refine blk_drew ?_|refine blk_alloc ?_ _));exact BK378.out) hb)
     have n13_:=Aside0.mk (below_step (by repeat (first|(with_reducible first|exact HB.out|apply below_alloc|apply pw_below_drewN|apply below_drew1|refine below_set ?_ GE378.out)|exact HB.out)) hb)
     clear HO_0
     clear HO_1
     clear HO_9
     clear HL350_0
     clear HL351_0
     clear HL371_0
     clear HL372_0
     clear HR350_0
     clear HR351_0
     clear HR371_0
     clear HR372_0
     clear BK378
     clear HB
     have HO_0:=n0_
     have HO_1:=n1_
     have HO_9:=n2_
     have HL350_0:=n3_
     have HL351_0:=n4_
     have HL371_0:=n5_
     have HL372_0:=n6_
     have HO375:=n7_
     have HR350_0:=n8_
     have HR351_0:=n9_
     have HR371_0:=n10_
     have HR372_0:=n11_
     have BK378:=n12_
     have HB:=n13_
     clear n0_ n1_ n2_ n3_ n4_ n5_ n6_ n7_ n8_ n9_ n10_ n11_ n12_ n13_
     (try clear hb)
     (try clear hb2)
     (try clear hk)
     (try clear hi)
     (try clear ho0)
     refine hK.out _ _ ⟨HS0_,HS1_,HS2_,HS3_⟩ (fun hHeld=>?_)
     clear hK K
     refine norm_ (a':=?_) ?_ ?_
     rotate_left
     ·show Act.put _ (some 37) _=_
      simp only [Act.put,zp1,zp2,zp3,i64_w,i32_w]
      rfl
     refine zpu 8 29 14 2559 ?_
     refine zpu 9 38 14 3071 ?_
     refine zpu 10 39 14 4095 ?_
     exact norm_ (by simp only [putAll,Act.put,zp1,zp2,zp3]) (hCont (v374,gb378) _ ⟨hHeld,(by (with_reducible repeat (first|apply Kd.V_alloc|apply Kd.V_drewN|apply Kd.V_drew));exact Kd.V_mono HL350_0.out (fun _ hk=>⟨hk.1.1,⟨hk.1.2,hk.2⟩⟩)),(by (with_reducible repeat (first|apply Kd.V_alloc|apply Kd.V_drewN|apply Kd.V_drew));exact Kd.V_mono HL351_0.out (fun _ hk=>⟨hk.1.1,⟨hk.1.2,hk.2⟩⟩)),(by (with_reducible repeat (first|apply Kd.V_alloc|apply Kd.V_drewN|apply Kd.V_drew));exact Kd.V_mono HL371_0.out (fun _ hk=>⟨hk.1.1,⟨hk.1.2,hk.2⟩⟩)),(by (with_reducible repeat (first|apply Kd.V_alloc|apply Kd.V_drewN|apply Kd.V_drew));exact Kd.V_mono HL372_0.out (fun _ hk=>⟨hk.1.1,⟨hk.1.2,hk.2⟩⟩)),(zV HO375.out),(by (with_reducible repeat (first|apply Kd.V_alloc|apply Kd.V_drewN|apply Kd.V_drew));exact Kd.V_mono HO_0.out (fun _ hk=>⟨hk.1.1,⟨hk.1.2,hk.2⟩⟩)),(by (with_reducible repeat (first|apply Kd.V_alloc|apply Kd.V_drewN|apply Kd.V_drew));exact Kd.V_mono HO_1.out (fun _ hk=>⟨hk.1.1,⟨hk.1.2,hk.2⟩⟩)),(zN HO_9.out),(by (with_reducible repeat (first|refine blk_drewN ?_ _|refine blk_drew ?_|refine blk_alloc ?_ _));exact BK378.out),GW378.out,GE378.out,(by repeat (first|(with_reducible first|exact HB.out|apply below_alloc|apply pw_below_drewN|apply below_drew1|refine below_set ?_ GE378.out)|exact HB.out))⟩)
    rintro ⟨v374,gb378⟩ w61 ⟨hS_,h0_,h1_,h2_,h3_,h4_,h5_,h6_,h7_,h8_,h9_,h10_,h11_⟩
    have n0_:Aside0 (Kd.V (Kd.int .i64) 3 w61 w.heap.size (fun k_=>((P0_ k_∨P1_ k_)∨w.heap.size≤k_)∧some k_≠(u9:Value).ownBlock∧k_≠gb378) (.slice A350_0 ((rd_T31 x0_1 0).f0).length c350_0) ((rd_T31 x0_1 0).f0)):=⟨h0_⟩
    have n1_:Aside0 (Kd.V (Kd.int .i64) 3 w61 w.heap.size (fun k_=>((P0_ k_∨P1_ k_)∨w.heap.size≤k_)∧some k_≠(u9:Value).ownBlock∧k_≠gb378) (.slice A351_0 ((rd_T31 x1_1 0).f0).length c351_0) ((rd_T31 x1_1 0).f0)):=⟨h1_⟩
    have n2_:Aside0 (Kd.V (Kd.int .i64) 3 w61 w.heap.size (fun k_=>((P0_ k_∨P1_ k_)∨w.heap.size≤k_)∧some k_≠(u9:Value).ownBlock∧k_≠gb378) (.slice A371_0 ((rd_T31 x0_1 0).f0).length c371_0) ((rd_T31 x0_1 0).f0)):=⟨h2_⟩
    have n3_:Aside0 (Kd.V (Kd.int .i64) 3 w61 w.heap.size (fun k_=>((P0_ k_∨P1_ k_)∨w.heap.size≤k_)∧some k_≠(u9:Value).ownBlock∧k_≠gb378) (.slice A372_0 ((rd_T31 x1_1 0).f0).length c372_0) ((rd_T31 x1_1 0).f0)):=⟨h3_⟩
    have n4_:Aside0 (Kd.V (Kd.int .i64) 3 w61 w.heap.size (fun k_=>((P0_ k_∨P1_ k_)∨w.heap.size≤k_)∧some k_≠(u9:Value).ownBlock∧k_≠gb378) v374 t373):=⟨h4_⟩
    have n5_:Aside0 (Kd.V k31 31 w61 w.heap.size (fun k_=>((P0_ k_∨P1_ k_)∨w.heap.size≤k_)∧some k_≠(u9:Value).ownBlock∧k_≠gb378) (.slice (some ad350) x0_1.length co54) x0_1):=⟨h5_⟩
    have n6_:Aside0 (Kd.V k31 31 w61 w.heap.size (fun k_=>((P0_ k_∨P1_ k_)∨w.heap.size≤k_)∧some k_≠(u9:Value).ownBlock∧k_≠gb378) (.slice (some ad351) x1_1.length co55) x1_1):=⟨h6_⟩
    have n7_:Aside0 (Kd.N k31 31 w61 w.heap.size (fun k_=>((P0_ k_∨P1_ k_)∨w.heap.size≤k_)∧k_≠gb378) u9 x9_1):=⟨h7_⟩
    have n8_:Aside0 (w61.heap[gb378]?=some (.cells #[.slice none 0 0,.int .i64 0] 31 (0,0))):=⟨h8_⟩
    have n9_:Aside0 (w.heap.size≤gb378):=⟨h9_⟩
    have n10_:Aside0 (w.heap.size≤gb378):=⟨h10_⟩
    have n11_:Aside0 (Below w.heap.size w w61):=⟨h11_⟩
    clear HO_0
    clear HO_1
    clear HO_9
    clear HL350_0
    clear HL351_0
    clear HR350_0
    clear HR351_0
    clear HB
    clear h0_ h1_ h2_ h3_ h4_ h5_ h6_ h7_ h8_ h9_ h10_ h11_
    have HL350_0:=n0_
    have HL351_0:=n1_
    have HL371_0:=n2_
    have HL372_0:=n3_
    have HO375:=n4_
    have HO_0:=n5_
    have HO_1:=n6_
    have HO_9:=n7_
    have BK378:=n8_
    have GW378:=n9_
    have GE378:=n10_
    have HB:=n11_
    clear n0_ n1_ n2_ n3_ n4_ n5_ n6_ n7_ n8_ n9_ n10_ n11_
    have hHeld:w61.cell? ad350=some (.slice A371_0 ((rd_T31 x0_1 0).f0).length c371_0)∧w61.cell? ⟨ad350.block,ad350.off + 1,none⟩=some (.int .i64 ((rd_T31 x0_1 0).f1))∧w61.cell? ad351=some (.slice A372_0 ((rd_T31 x1_1 0).f0).length c372_0)∧w61.cell? ⟨ad351.block,ad351.off + 1,none⟩=some (.int .i64 ((rd_T31 x1_1 0).f1)):=hS_
    obtain ⟨Ao62,co62,eo62⟩:=Kd.V_slice HO375.out
    (first|subst eo62|(injection eo62 with f1_ f2_ f3_;have f4_:=f1_.symm;have f5_:=f3_.symm;clear f1_ f2_ f3_;subst f4_;subst f5_))
    refine norm_ (a':=?_) ?_ ?_
    rotate_left
    ·simp only [putAll,Act.put,zp1,zp2,zp3]
     rfl
    refine one_ (i:=12) (N:=none) (zm 14 8191) rfl rfl (one_of HT_.out (by kernel_rfl)) (by decide) (fun K hK=>?_)
    have hs63:w61.cell? ⟨gb378,0,none⟩=some (.slice none 0 0):=(blk_cell BK378.out 0).trans rfl
    have hfs63:=blk_frozen BK378.out 0
    have hs64:w61.cell? ⟨gb378,1,none⟩=some (.int .i64 0):=(blk_cell BK378.out 1).trans rfl
    have hfs64:=blk_frozen BK378.out 1
    refine skip_ (w1:=?_) (by rfl) rfl ?_ ?_
    rotate_left
    ·go_simp
     rfl
    refine hK.out _ _ ⟨((cell_far (p:=⟨gb378,_,none⟩) (by first|exact Kd.own_blk (Kd.V_away HO_0.out (fun _ hk=>hk.2.2))|(rw [add_block];exact Kd.own_blk (Kd.V_away HO_0.out (fun _ hk=>hk.2.2)))|(show (Addr.add _ _).block≠_;rw [add_block];exact Kd.own_blk (Kd.V_away HO_0.out (fun _ hk=>hk.2.2)))|(dsimp only;exact Kd.own_blk (Kd.V_away HO_0.out (fun _ hk=>hk.2.2)))) _).trans (((cell_far (p:=⟨gb378,_,none⟩) (by first|exact Kd.own_blk (Kd.V_away HO_0.out (fun _ hk=>hk.2.2))|(rw [add_block];exact Kd.own_blk (Kd.V_away HO_0.out (fun _ hk=>hk.2.2)))|(show (Addr.add _ _).block≠_;rw [add_block];exact Kd.own_blk (Kd.V_away HO_0.out (fun _ hk=>hk.2.2)))|(dsimp only;exact Kd.own_blk (Kd.V_away HO_0.out (fun _ hk=>hk.2.2)))) _).trans (hHeld.1)))),((cell_far (p:=⟨gb378,_,none⟩) (by first|exact Kd.own_blk (Kd.V_away HO_0.out (fun _ hk=>hk.2.2))|(rw [add_block];exact Kd.own_blk (Kd.V_away HO_0.out (fun _ hk=>hk.2.2)))|(show (Addr.add _ _).block≠_;rw [add_block];exact Kd.own_blk (Kd.V_away HO_0.out (fun _ hk=>hk.2.2)))|(dsimp only;exact Kd.own_blk (Kd.V_away HO_0.out (fun _ hk=>hk.2.2)))) _).trans (((cell_far (p:=⟨gb378,_,none⟩) (by first|exact Kd.own_blk (Kd.V_away HO_0.out (fun _ hk=>hk.2.2))|(rw [add_block];exact Kd.own_blk (Kd.V_away HO_0.out (fun _ hk=>hk.2.2)))|(show (Addr.add _ _).block≠_;rw [add_block];exact Kd.own_blk (Kd.V_away HO_0.out (fun _ hk=>hk.2.2)))|(dsimp only;exact Kd.own_blk (Kd.V_away HO_0.out (fun _ hk=>hk.2.2)))) _).trans (hHeld.2.1)))),((cell_far (p:=⟨gb378,_,none⟩) (by first|exact Kd.own_blk (Kd.V_away HO_1.out (fun _ hk=>hk.2.2))|(rw [add_block];exact Kd.own_blk (Kd.V_away HO_1.out (fun _ hk=>hk.2.2)))|(show (Addr.add _ _).block≠_;rw [add_block];exact Kd.own_blk (Kd.V_away HO_1.out (fun _ hk=>hk.2.2)))|(dsimp only;exact Kd.own_blk (Kd.V_away HO_1.out (fun _ hk=>hk.2.2)))) _).trans (((cell_far (p:=⟨gb378,_,none⟩) (by first|exact Kd.own_blk (Kd.V_away HO_1.out (fun _ hk=>hk.2.2))|(rw [add_block];exact Kd.own_blk (Kd.V_away HO_1.out (fun _ hk=>hk.2.2)))|(show (Addr.add _ _).block≠_;rw [add_block];exact Kd.own_blk (Kd.V_away HO_1.out (fun _ hk=>hk.2.2)))|(dsimp only;exact Kd.own_blk (Kd.V_away HO_1.out (fun _ hk=>hk.2.2)))) _).trans (hHeld.2.2.1)))),((cell_far (p:=⟨gb378,_,none⟩) (by first|exact Kd.own_blk (Kd.V_away HO_1.out (fun _ hk=>hk.2.2))|(rw [add_block];exact Kd.own_blk (Kd.V_away HO_1.out (fun _ hk=>hk.2.2)))|(show (Addr.add _ _).block≠_;rw [add_block];exact Kd.own_blk (Kd.V_away HO_1.out (fun _ hk=>hk.2.2)))|(dsimp only;exact Kd.own_blk (Kd.V_away HO_1.out (fun _ hk=>hk.2.2)))) _).trans (((cell_far (p:=⟨gb378,_,none⟩) (by first|exact Kd.own_blk (Kd.V_away HO_1.out (fun _ hk=>hk.2.2))|(rw [add_block];exact Kd.own_blk (Kd.V_away HO_1.out (fun _ hk=>hk.2.2)))|(show (Addr.add _ _).block≠_;rw [add_block];exact Kd.own_blk (Kd.V_away HO_1.out (fun _ hk=>hk.2.2)))|(dsimp only;exact Kd.own_blk (Kd.V_away HO_1.out (fun _ hk=>hk.2.2)))) _).trans (hHeld.2.2.2))))⟩ (fun hHeld=>?_)
    clear hK K
    refine zpu 13 12 14 16383 ?_
    refine done_ (done_of HT_.out (by kernel_rfl)) ?_
    try go_wp2
    have n0_:Aside0 (Kd.V k31 31 ((w61.setCell ⟨gb378,0,none⟩ (.slice Ao62 t373.length co62)).setCell ⟨gb378,1,none⟩ (.int .i64 t376)) w.heap.size (fun k_=>((P0_ k_∨P1_ k_)∨w.heap.size≤k_)∧some k_≠(u9:Value).ownBlock∧k_≠gb378) (.slice (some ad350) x0_1.length co54) x0_1):=⟨by (with_reducible repeat (first|apply Kd.V_alloc|apply Kd.V_drewN|apply Kd.V_drew));exact Kd.V_mono (Kd.V_far (p:=⟨gb378,1,none⟩) (Kd.V_far (p:=⟨gb378,0,none⟩) (Kd.V_mono HO_0.out (fun k_ hk=>(⟨hk,hk.2.2⟩:_∧k_≠gb378))) (fun _ hk=>hk.2) (.slice Ao62 t373.length co62)) (fun _ hk=>hk.2) (.int .i64 t376)) (fun _ hk=>⟨hk.1.1,⟨hk.1.2.1,hk.1.2.2⟩⟩)⟩
    have n1_:Aside0 (Kd.V k31 31 ((w61.setCell ⟨gb378,0,none⟩ (.slice Ao62 t373.length co62)).setCell ⟨gb378,1,none⟩ (.int .i64 t376)) w.heap.size (fun k_=>((P0_ k_∨P1_ k_)∨w.heap.size≤k_)∧some k_≠(u9:Value).ownBlock∧k_≠gb378) (.slice (some ad351) x1_1.length co55) x1_1):=⟨by (with_reducible repeat (first|apply Kd.V_alloc|apply Kd.V_drewN|apply Kd.V_drew));exact Kd.V_mono (Kd.V_far (p:=⟨gb378,1,none⟩) (Kd.V_far (p:=⟨gb378,0,none⟩) (Kd.V_mono HO_1.out (fun k_ hk=>(⟨hk,hk.2.2⟩:_∧k_≠gb378))) (fun _ hk=>hk.2) (.slice Ao62 t373.length co62)) (fun _ hk=>hk.2) (.int .i64 t376)) (fun _ hk=>⟨hk.1.1,⟨hk.1.2.1,hk.1.2.2⟩⟩)⟩
    have n2_:Aside0 (Kd.N k31 31 ((w61.setCell ⟨gb378,0,none⟩ (.slice Ao62 t373.length co62)).setCell ⟨gb378,1,none⟩ (.int .i64 t376)) w.heap.size (fun k_=>((P0_ k_∨P1_ k_)∨w.heap.size≤k_)∧k_≠gb378) u9 x9_1):=⟨by (with_reducible repeat (first|apply Kd.N_alloc|apply Kd.N_drewN|apply Kd.N_drew));exact Kd.N_mono (Kd.N_far (p:=⟨gb378,1,none⟩) (Kd.N_far (p:=⟨gb378,0,none⟩) (Kd.N_mono HO_9.out (fun k_ hk=>(⟨hk,hk.2⟩:_∧k_≠gb378))) (fun _ hk=>hk.2) (.slice Ao62 t373.length co62)) (fun _ hk=>hk.2) (.int .i64 t376)) (fun _ hk=>⟨hk.1.1,hk.1.2⟩)⟩
    have n3_:Aside0 (Kd.V (Kd.int .i64) 3 ((w61.setCell ⟨gb378,0,none⟩ (.slice Ao62 t373.length co62)).setCell ⟨gb378,1,none⟩ (.int .i64 t376)) w.heap.size (fun k_=>((P0_ k_∨P1_ k_)∨w.heap.size≤k_)∧some k_≠(u9:Value).ownBlock∧k_≠gb378) (.slice A350_0 ((rd_T31 x0_1 0).f0).length c350_0) ((rd_T31 x0_1 0).f0)):=⟨by (with_reducible repeat (first|apply Kd.V_alloc|apply Kd.V_drewN|apply Kd.V_drew));exact Kd.V_mono (Kd.V_far (p:=⟨gb378,1,none⟩) (Kd.V_far (p:=⟨gb378,0,none⟩) (Kd.V_mono HL350_0.out (fun k_ hk=>(⟨hk,hk.2.2⟩:_∧k_≠gb378))) (fun _ hk=>hk.2) (.slice Ao62 t373.length co62)) (fun _ hk=>hk.2) (.int .i64 t376)) (fun _ hk=>⟨hk.1.1,⟨hk.1.2.1,hk.1.2.2⟩⟩)⟩
    have n4_:Aside0 (Kd.V (Kd.int .i64) 3 ((w61.setCell ⟨gb378,0,none⟩ (.slice Ao62 t373.length co62)).setCell ⟨gb378,1,none⟩ (.int .i64 t376)) w.heap.size (fun k_=>((P0_ k_∨P1_ k_)∨w.heap.size≤k_)∧some k_≠(u9:Value).ownBlock∧k_≠gb378) (.slice A351_0 ((rd_T31 x1_1 0).f0).length c351_0) ((rd_T31 x1_1 0).f0)):=⟨by (with_reducible repeat (first|apply Kd.V_alloc|apply Kd.V_drewN|apply Kd.V_drew));exact Kd.V_mono (Kd.V_far (p:=⟨gb378,1,none⟩) (Kd.V_far (p:=⟨gb378,0,none⟩) (Kd.V_mono HL351_0.out (fun k_ hk=>(⟨hk,hk.2.2⟩:_∧k_≠gb378))) (fun _ hk=>hk.2) (.slice Ao62 t373.length co62)) (fun _ hk=>hk.2) (.int .i64 t376)) (fun _ hk=>⟨hk.1.1,⟨hk.1.2.1,hk.1.2.2⟩⟩)⟩
    have n5_:Aside0 (Kd.V (Kd.int .i64) 3 ((w61.setCell ⟨gb378,0,none⟩ (.slice Ao62 t373.length co62)).setCell ⟨gb378,1,none⟩ (.int .i64 t376)) w.heap.size (fun k_=>((P0_ k_∨P1_ k_)∨w.heap.size≤k_)∧some k_≠(u9:Value).ownBlock∧k_≠gb378) (.slice A371_0 ((rd_T31 x0_1 0).f0).length c371_0) ((rd_T31 x0_1 0).f0)):=⟨by (with_reducible repeat (first|apply Kd.V_alloc|apply Kd.V_drewN|apply Kd.V_drew));exact Kd.V_mono (Kd.V_far (p:=⟨gb378,1,none⟩) (Kd.V_far (p:=⟨gb378,0,none⟩) (Kd.V_mono HL371_0.out (fun k_ hk=>(⟨hk,hk.2.2⟩:_∧k_≠gb378))) (fun _ hk=>hk.2) (.slice Ao62 t373.length co62)) (fun _ hk=>hk.2) (.int .i64 t376)) (fun _ hk=>⟨hk.1.1,⟨hk.1.2.1,hk.1.2.2⟩⟩)⟩
    have n6_:Aside0 (Kd.V (Kd.int .i64) 3 ((w61.setCell ⟨gb378,0,none⟩ (.slice Ao62 t373.length co62)).setCell ⟨gb378,1,none⟩ (.int .i64 t376)) w.heap.size (fun k_=>((P0_ k_∨P1_ k_)∨w.heap.size≤k_)∧some k_≠(u9:Value).ownBlock∧k_≠gb378) (.slice A372_0 ((rd_T31 x1_1 0).f0).length c372_0) ((rd_T31 x1_1 0).f0)):=⟨by (with_reducible repeat (first|apply Kd.V_alloc|apply Kd.V_drewN|apply Kd.V_drew));exact Kd.V_mono (Kd.V_far (p:=⟨gb378,1,none⟩) (Kd.V_far (p:=⟨gb378,0,none⟩) (Kd.V_mono HL372_0.out (fun k_ hk=>(⟨hk,hk.2.2⟩:_∧k_≠gb378))) (fun _ hk=>hk.2) (.slice Ao62 t373.length co62)) (fun _ hk=>hk.2) (.int .i64 t376)) (fun _ hk=>⟨hk.1.1,⟨hk.1.2.1,hk.1.2.2⟩⟩)⟩
    have n7_:Aside0 (Kd.V (Kd.int .i64) 3 ((w61.setCell ⟨gb378,0,none⟩ (.slice Ao62 t373.length co62)).setCell ⟨gb378,1,none⟩ (.int .i64 t376)) w.heap.size (fun k_=>((P0_ k_∨P1_ k_)∨w.heap.size≤k_)∧some k_≠(u9:Value).ownBlock∧k_≠gb378) (.slice Ao62 t373.length co62) t373):=⟨by (with_reducible repeat (first|apply Kd.V_alloc|apply Kd.V_drewN|apply Kd.V_drew));exact Kd.V_mono (Kd.V_far (p:=⟨gb378,1,none⟩) (Kd.V_far (p:=⟨gb378,0,none⟩) (Kd.V_mono HO375.out (fun k_ hk=>(⟨hk,hk.2.2⟩:_∧k_≠gb378))) (fun _ hk=>hk.2) (.slice Ao62 t373.length co62)) (fun _ hk=>hk.2) (.int .i64 t376)) (fun _ hk=>⟨hk.1.1,⟨hk.1.2.1,hk.1.2.2⟩⟩)⟩
    have n8_:Aside0 (((w61.setCell ⟨gb378,0,none⟩ (.slice Ao62 t373.length co62)).setCell ⟨gb378,1,none⟩ (.int .i64 t376)).heap[gb378]?=some (.cells #[.slice Ao62 t373.length co62,.int .i64 t376] 31 (0,0))):=⟨by (with_reducible repeat (first|refine blk_drewN ?_ _|refine blk_drew ?_|refine blk_alloc ?_ _));refine blk_put (cs:=#[.slice Ao62 t373.length co62,.int .i64 0]) ?_ 1 _ rfl;(with_reducible repeat (first|refine blk_drewN ?_ _|refine blk_drew ?_|refine blk_alloc ?_ _));refine blk_put (cs:=#[.slice none 0 0,.int .i64 0]) ?_ 0 _ rfl;(with_reducible repeat (first|refine blk_drewN ?_ _|refine blk_drew ?_|refine blk_alloc ?_ _));exact BK378.out⟩
    have n9_:Aside0 (Below w.heap.size w ((w61.setCell ⟨gb378,0,none⟩ (.slice Ao62 t373.length co62)).setCell ⟨gb378,1,none⟩ (.int .i64 t376))):=⟨by repeat (first|(with_reducible first|exact HB.out|apply below_alloc|apply pw_below_drewN|apply below_drew1|refine below_set ?_ GE378.out)|exact HB.out)⟩
    (try clear HO_0)
    (try clear HO_1)
    (try clear HO_9)
    (try clear HL350_0)
    (try clear HL351_0)
    (try clear HL371_0)
    (try clear HL372_0)
    (try clear HO375)
    (try clear BK378)
    (try clear HB)
    generalize ((w61.setCell ⟨gb378,0,none⟩ (.slice Ao62 t373.length co62)).setCell ⟨gb378,1,none⟩ (.int .i64 t376))=w65 at n0_ n1_ n2_ n3_ n4_ n5_ n6_ n7_ n8_ n9_ ⊢
    have HO_0:=n0_
    have HO_1:=n1_
    have HO_9:=n2_
    have HL350_0:=n3_
    have HL351_0:=n4_
    have HL371_0:=n5_
    have HL372_0:=n6_
    have HO375:=n7_
    have BK378:=n8_
    have HB:=n9_
    clear n0_ n1_ n2_ n3_ n4_ n5_ n6_ n7_ n8_ n9_
    have n0_:=Aside0.mk (Kd.V_drew HO_0.out)
    have n1_:=Aside0.mk (Kd.V_drew HO_1.out)
    have n2_:=Aside0.mk (Kd.N_drew HO_9.out)
    have n3_:=Aside0.mk (Kd.V_drew HL350_0.out)
    have n4_:=Aside0.mk (Kd.V_drew HL351_0.out)
    have n5_:=Aside0.mk (Kd.V_drew HL371_0.out)
    have n6_:=Aside0.mk (Kd.V_drew HL372_0.out)
    have n7_:=Aside0.mk (Kd.V_drew HO375.out)
    have n8_:=Aside0.mk (blk_drew BK378.out)
    have n9_:=Aside0.mk (below_drew1 HB.out)
    clear HO_0
    clear HO_1
    clear HO_9
    clear HL350_0
    clear HL351_0
    clear HL371_0
    clear HL372_0
    clear HO375
    clear BK378
    clear HB
    have HO_0:=n0_
    have HO_1:=n1_
    have HO_9:=n2_
    have HL350_0:=n3_
    have HL351_0:=n4_
    have HL371_0:=n5_
    have HL372_0:=n6_
    have HO375:=n7_
    have BK378:=n8_
    have HB:=n9_
    clear n0_ n1_ n2_ n3_ n4_ n5_ n6_ n7_ n8_ n9_
    have q67:(1:Int)≤((x0_1.length:Int):Int):=zod
    obtain ⟨i067,hi067,_,hsz67,_⟩:=info_parts info31
    have hroom67:x0_1.length≤co54:=(Kd.V_reads' HO_0.out).2.1
    have hC67:Kd.F k31 _ _ (some ad350) x0_1.length x0_1:=(Kd.V_at (base:=w.heap.size) HO_0.out).2.2
    have hcut67:=cut_from (P:=Tryd.prog) 23 31 .i64 Tryd.underlying23 hi067 2 hsz67 (some ad350) x0_1.length co54 1 (by omega) q67
    have hr67:=Kd.F_cut (m:=(1:Int).toNat) (c:=co54) hC67 (by omega) hroom67
    obtain ⟨A67,hA67⟩ : ∃ A1,A1=(if co54=(1:Int).toNat then (some ad350) else ((some ad350):Option Addr).map (·.add ((1:Int).toNat * 2))):=⟨_,rfl⟩
    obtain ⟨c67,hc67⟩ : ∃ c1,c1=co54 - (1:Int).toNat:=⟨_,rfl⟩
    have hy67:y392.length=x0_1.length - (1:Int).toNat:=(by rw [Ny392.out,List.length_drop] <;> omega)
    rw [show (x0_1).drop (1:Int).toNat=y392 from Ny392.out.symm] at hr67
    replace hr67:Kd.F k31 _ _ A67 y392.length y392:=(by rw [hA67];exact hr67)
    rw [← hy67,← hA67,← hc67] at hcut67
    have HO396:=Aside0.mk (show Kd.V k31 31 _ w.heap.size _ (.slice A67 y392.length c67) y392 from Kd.V_mk (by rw [hy67,hc67];exact Nat.sub_le_sub_right hroom67 _) hr67)
    have HC396:=Aside0.mk (show y392.length≤c67 from by rw [hy67,hc67];exact Nat.sub_le_sub_right hroom67 _)
    clear hr67 hC67 hroom67 hi067 hsz67 hc67
    have KY67:=Aside0.mk hy67
    have KA67:=Aside0.mk hA67
    clear hy67 hA67
    replace q67:=eq_true q67
    have q68:(1:Int)≤((x1_1.length:Int):Int):=zod
    obtain ⟨i068,hi068,_,hsz68,_⟩:=info_parts info31
    have hroom68:x1_1.length≤co55:=(Kd.V_reads' HO_1.out).2.1
    have hC68:Kd.F k31 _ _ (some ad351) x1_1.length x1_1:=(Kd.V_at (base:=w.heap.size) HO_1.out).2.2
    have hcut68:=cut_from (P:=Tryd.prog) 23 31 .i64 Tryd.underlying23 hi068 2 hsz68 (some ad351) x1_1.length co55 1 (by omega) q68
    have hr68:=Kd.F_cut (m:=(1:Int).toNat) (c:=co55) hC68 (by omega) hroom68
    obtain ⟨A68,hA68⟩ : ∃ A1,A1=(if co55=(1:Int).toNat then (some ad351) else ((some ad351):Option Addr).map (·.add ((1:Int).toNat * 2))):=⟨_,rfl⟩
    obtain ⟨c68,hc68⟩ : ∃ c1,c1=co55 - (1:Int).toNat:=⟨_,rfl⟩
    have hy68:y397.length=x1_1.length - (1:Int).toNat:=(by rw [Ny397.out,List.length_drop] <;> omega)
    rw [show (x1_1).drop (1:Int).toNat=y397 from Ny397.out.symm] at hr68
    replace hr68:Kd.F k31 _ _ A68 y397.length y397:=(by rw [hA68];exact hr68)
    rw [← hy68,← hA68,← hc68] at hcut68
    have HO401:=Aside0.mk (show Kd.V k31 31 _ w.heap.size _ (.slice A68 y397.length c68) y397 from Kd.V_mk (by rw [hy68,hc68];exact Nat.sub_le_sub_right hroom68 _) hr68)
    have HC401:=Aside0.mk (show y397.length≤c68 from by rw [hy68,hc68];exact Nat.sub_le_sub_right hroom68 _)
    clear hr68 hC68 hroom68 hi068 hsz68 hc68
    have KY68:=Aside0.mk hy68
    have KA68:=Aside0.mk hA68
    clear hy68 hA68
    replace q68:=eq_true q68
    refine start_ (n:=6) (S:=fun w'=>True) (ds:=[]) (zm 6 0) (by kernel_rfl) rfl rfl trivial (fun hHeld=>?_)
    generalize w65.drew=w66 at HO_0 HO_1 HO_9 HL350_0 HL351_0 HL371_0 HL372_0 HO375 BK378 HB HO396 HO401 hHeld ⊢
    refine zpk 0 45 6 1 ?_
    refine zpk 1 46 6 3 ?_
    refine zpk 2 47 6 7 ?_
    refine zpk 3 48 6 15 ?_
    refine zpk 4 0 6 31 ?_
    refine zpk 5 1 6 63 ?_
    refine done_ (by kernel_rfl) ?_
    try go_wp2
    go_roundg k1
    case measure=>have:=HK1.out;omega
    case rel=>exact ⟨(y392),(y397),(x9_1),H',⟨by have:=HK1.out;omega⟩,⟨by (with_reducible repeat (first|apply Kd.V_alloc|apply Kd.V_drewN|apply Kd.V_drew));exact Kd.V_mono HO396.out (fun _ hk=>⟨hk.1,hk.2.1⟩)⟩,⟨by (with_reducible repeat (first|apply Kd.V_alloc|apply Kd.V_drewN|apply Kd.V_drew));exact Kd.V_mono HO401.out (fun _ hk=>⟨hk.1,hk.2.1⟩)⟩,⟨by (with_reducible repeat (first|apply Kd.N_alloc|apply Kd.N_drewN|apply Kd.N_drew));exact Kd.N_mono HO_9.out (fun _ hk=>hk.1)⟩,⟨by repeat (first|(with_reducible first|exact HB.out|apply below_alloc|apply pw_below_drewN|apply below_drew1|refine below_set ?_ GE378.out)|exact HB.out)⟩⟩
   subst c31
   have H1:(if x9_1.length < 4398046511104 then (if 1≤(x0_1.length:Int) then (if 1≤(x1_1.length:Int) then (impl_merged_impl_Item__impl_cmpItem_impl_together_1.l0 k1 (x0_1.drop 1) (x1_1.drop 1) (x9_1 ++ [(⟨t373,t376⟩:S31)])) else (none)) else (none)) else (none))=some r:=by rw [if_pos rfl] at H;exact H
   clear H
   have H:=H1
   clear H1
   by_cases c32:x9_1.length < 4398046511104
   rotate_left
   ·rw [if_neg c32] at H
    exact absurd H (by simp)
   rw [if_pos c32] at H
   have LMc32:=Aside0.mk c32
   clear c32
   obtain ⟨y379,hy379⟩ : ∃ y_:List (S31),y_=(x9_1 ++ [(⟨t373,t376⟩:S31)]):=⟨_,rfl⟩
   replace H:(if 1≤(x0_1.length:Int) then (if 1≤(x1_1.length:Int) then (impl_merged_impl_Item__impl_cmpItem_impl_together_1.l0 k1 (x0_1.drop 1) (x1_1.drop 1) y379) else (none)) else (none))=some r:=by first|(rw [hy379];with_reducible exact H)|(have H2_:=(Option.bind_some _ _).symm.trans H;rw [hy379];with_reducible exact H2_)|(have H2_:=(Option.bind_some _ _).symm.trans H;with_reducible exact H2_)|with_reducible exact H|(rw [hy379];exact H)|exact H
   have Ny379:=Aside0.mk hy379
   clear hy379
   by_cases c33:1≤(x0_1.length:Int)
   rotate_left
   ·rw [if_neg c33] at H
    exact absurd H (by simp)
   rw [if_pos c33] at H
   have c33b0:=eq_true c33
   have c33b1:decide (1≤(x0_1.length:Int))=true:=decide_eq_true c33
   clear c33
   obtain ⟨y382,hy382⟩ : ∃ y_:List (S31),y_=(x0_1.drop 1):=⟨_,rfl⟩
   replace H:(if 1≤(x1_1.length:Int) then (impl_merged_impl_Item__impl_cmpItem_impl_together_1.l0 k1 y382 (x1_1.drop 1) y379) else (none))=some r:=by first|(rw [hy382];with_reducible exact H)|(have H2_:=(Option.bind_some _ _).symm.trans H;rw [hy382];with_reducible exact H2_)|(have H2_:=(Option.bind_some _ _).symm.trans H;with_reducible exact H2_)|with_reducible exact H|(rw [hy382];exact H)|exact H
   have Ny382:=Aside0.mk hy382
   clear hy382
   by_cases c34:1≤(x1_1.length:Int)
   rotate_left
   ·rw [if_neg c34] at H
    exact absurd H (by simp)
   rw [if_pos c34] at H
   have c34b0:=eq_true c34
   have c34b1:decide (1≤(x1_1.length:Int))=true:=decide_eq_true c34
   clear c34
   obtain ⟨y387,hy387⟩ : ∃ y_:List (S31),y_=(x1_1.drop 1):=⟨_,rfl⟩
   replace H:(impl_merged_impl_Item__impl_cmpItem_impl_together_1.l0 k1 y382 y387 y379)=some r:=by first|(rw [hy387];with_reducible exact H)|(have H2_:=(Option.bind_some _ _).symm.trans H;rw [hy387];with_reducible exact H2_)|(have H2_:=(Option.bind_some _ _).symm.trans H;with_reducible exact H2_)|with_reducible exact H|(rw [hy387];exact H)|exact H
   have Ny387:=Aside0.mk hy387
   clear hy387
   have H':=Aside0.mk H
   clear H
   obtain ⟨Ao35,co35,eo35⟩:=Kd.V_slice HO_0.out
   subst eo35
   obtain ⟨Ao36,co36,eo36⟩:=Kd.V_slice HO_1.out
   subst eo36
   try go_wp2
   have n0_:=Aside0.mk (Kd.V_drew HO_0.out)
   have n1_:=Aside0.mk (Kd.V_drew HO_1.out)
   have n2_:=Aside0.mk (Kd.N_drew HO_9.out)
   have n3_:=Aside0.mk (below_drew1 HB.out)
   clear HO_0
   clear HO_1
   clear HO_9
   clear HB
   have HO_0:=n0_
   have HO_1:=n1_
   have HO_9:=n2_
   have HB:=n3_
   clear n0_ n1_ n2_ n3_
   have p350:0≤(0:Int):=(by omega)
   have q350:0 < (x0_1.length:Int):=zod
   obtain ⟨ad350,A350_0,c350_0,e350,hx350_0,hx350_1,hl350_0,hi350_0⟩:=at_T31 (Kd.V_reads' HO_0.out).2.2 0 p350 q350
   cases e350
   obtain ⟨ce350,hce350,hMe350,hcc350⟩:=Kd.V_get HO_0.out z31 0 p350 (by first|exact q350|exact zod|(have e_:=(Kd.V_reads' HO_0.out).1;omega))
   obtain ⟨ua350_0,uc350_0,rfl,ul350_0,ge350_0⟩:=k31_openF hMe350
   have hv350_0:=hcc350 0 _ rfl
   rw [Nat.add_zero] at hv350_0
   replace hv350_0:=Option.some.inj (hv350_0.symm.trans hx350_0)
   injection hv350_0 with hva_ hvn_ hvc_
   rw [hva_] at ge350_0
   rw [hvc_] at ul350_0
   have HL350_0:=Aside0.mk (show Kd.V (Kd.int .i64) 3 _ w.heap.size _ _ ((rd_T31 x0_1 0).f0) from Kd.V_mk ul350_0 ge350_0)
   clear hva_ hvn_ hvc_ ge350_0 ul350_0
   clear hcc350 hce350
   have qi350:(0 < x0_1.length)=True:=eq_true (by omega)
   (try rw [show ((0:Int)).toNat=0 from rfl] at hx350_0)
   (try rw [show 0 * 2=0 from rfl] at hx350_0)
   (try rw [Addr.add_zero'] at hx350_0)
   (try rw [show ((0:Int)).toNat=0 from rfl] at hx350_1)
   (try rw [show 0 * 2=0 from rfl] at hx350_1)
   (try rw [Addr.add_zero'] at hx350_1)
   have HR350_0:=Aside0.mk hi350_0
   have HC350_0:=Aside0.mk hl350_0
   clear hi350_0 hl350_0
   replace p350:=eq_true p350
   replace q350:=eq_true q350
   have p351:0≤(0:Int):=(by omega)
   have q351:0 < (x1_1.length:Int):=zod
   obtain ⟨ad351,A351_0,c351_0,e351,hx351_0,hx351_1,hl351_0,hi351_0⟩:=at_T31 (Kd.V_reads' HO_1.out).2.2 0 p351 q351
   cases e351
   obtain ⟨ce351,hce351,hMe351,hcc351⟩:=Kd.V_get HO_1.out z31 0 p351 (by first|exact q351|exact zod|(have e_:=(Kd.V_reads' HO_1.out).1;omega))
   obtain ⟨ua351_0,uc351_0,rfl,ul351_0,ge351_0⟩:=k31_openF hMe351
   have hv351_0:=hcc351 0 _ rfl
   rw [Nat.add_zero] at hv351_0
   replace hv351_0:=Option.some.inj (hv351_0.symm.trans hx351_0)
   injection hv351_0 with hva_ hvn_ hvc_
   rw [hva_] at ge351_0
   rw [hvc_] at ul351_0
   have HL351_0:=Aside0.mk (show Kd.V (Kd.int .i64) 3 _ w.heap.size _ _ ((rd_T31 x1_1 0).f0) from Kd.V_mk ul351_0 ge351_0)
   clear hva_ hvn_ hvc_ ge351_0 ul351_0
   clear hcc351 hce351
   have qi351:(0 < x1_1.length)=True:=eq_true (by omega)
   (try rw [show ((0:Int)).toNat=0 from rfl] at hx351_0)
   (try rw [show 0 * 2=0 from rfl] at hx351_0)
   (try rw [Addr.add_zero'] at hx351_0)
   (try rw [show ((0:Int)).toNat=0 from rfl] at hx351_1)
   (try rw [show 0 * 2=0 from rfl] at hx351_1)
   (try rw [Addr.add_zero'] at hx351_1)
   have HR351_0:=Aside0.mk hi351_0
   have HC351_0:=Aside0.mk hl351_0
   clear hi351_0 hl351_0
   replace p351:=eq_true p351
   replace q351:=eq_true q351
   refine start_ (n:=9) (S:=fun w'=>w'.cell? ad350=some (.slice A350_0 ((rd_T31 x0_1 0).f0).length c350_0)∧w'.cell? ⟨ad350.block,ad350.off + 1,none⟩=some (.int .i64 ((rd_T31 x0_1 0).f1))∧w'.cell? ad351=some (.slice A351_0 ((rd_T31 x1_1 0).f0).length c351_0)∧w'.cell? ⟨ad351.block,ad351.off + 1,none⟩=some (.int .i64 ((rd_T31 x1_1 0).f1))) (ds:=[]) (zm 9 0) (by kernel_rfl) rfl rfl ⟨hx350_0,hx350_1,hx351_0,hx351_1⟩ (fun hHeld=>?_);refine with_tabW impl_merged_impl_Item__impl_cmpItem_impl_together_1.tab3 impl_merged_impl_Item__impl_cmpItem_impl_together_1.bits3 (fun HT_ HW_=>?_)
   generalize wr.drew=w37 at HO_0 HO_1 HO_9 HB HL350_0 HL351_0 HR350_0 HR351_0 hx350_0 hx350_1 hx351_0 hx351_1 hHeld ⊢
   refine zpu 0 21 9 1 ?_
   refine zpu 1 22 9 3 ?_
   refine zpu 2 23 9 7 ?_
   refine zpu 4 25 9 23 ?_
   refine zpu 5 26 9 55 ?_
   refine zta 3 24 9 63 ?_
   refine zta 6 27 9 127 ?_
   refine one_ (i:=7) (N:=some 28) (zm 9 255) rfl rfl (one_of HT_.out (by kernel_rfl)) (by decide) (fun K hK=>?_)
   refine goes_f (.tmp 21) Tryd.func54 (by kernel_rfl) rfl #[.agg #[.slice A350_0 ((rd_T31 x0_1 0).f0).length c350_0,.int .i64 ((rd_T31 x0_1 0).f1)],.agg #[.slice A351_0 ((rd_T31 x1_1 0).f0).length c351_0,.int .i64 ((rd_T31 x1_1 0).f1)]] (by rfl) rfl rfl rfl zar ?_
   with_reducible refine (impl_cmpItem.calls k1 _ _ ((rd_T31 x0_1 0).f0) ((rd_T31 x0_1 0).f1) _ _ ((rd_T31 x1_1 0).f0) ((rd_T31 x1_1 0).f1) t352 _ ?side1 ?side2 ?side3 ?side4 A9.out).mono ?_
   (case side1=>exact zC (zC HR350_0.out))
   (case side2=>exact HC350_0.out)
   (case side3=>exact zC (zC HR351_0.out))
   (case side4=>exact HC351_0.out)
   rintro e w38 ⟨rfl,hb⟩
   have HS0_:=zhs hb hHeld.1
   have HS1_:=zhs hb hHeld.2.1
   have HS2_:=zhs hb hHeld.2.2.1
   have HS3_:=zhs hb hHeld.2.2.2
   refine ⟨_,rfl,?_⟩
   have n0_:=Aside0.mk (Kd.V_below (zV HO_0.out) hb)
   have n1_:=Aside0.mk (Kd.V_below (zV HO_1.out) hb)
   have n2_:=Aside0.mk (Kd.N_below (zN HO_9.out) hb)
   have n3_:=Aside0.mk (Kd.V_below (zV HL350_0.out) hb)
   have n4_:=Aside0.mk (Kd.V_below (zV HL351_0.out) hb)
   have n5_:=Aside0.mk (Kd.C_below (zC HR350_0.out) hb)
   have n6_:=Aside0.mk (Kd.C_below (zC HR351_0.out) hb)
   have n7_:=Aside0.mk (below_step zhb hb)
   clear HO_0
   clear HO_1
   clear HO_9
   clear HL350_0
   clear HL351_0
   clear HR350_0
   clear HR351_0
   clear HB
   have HO_0:=n0_
   have HO_1:=n1_
   have HO_9:=n2_
   have HL350_0:=n3_
   have HL351_0:=n4_
   have HR350_0:=n5_
   have HR351_0:=n6_
   have HB:=n7_
   clear n0_ n1_ n2_ n3_ n4_ n5_ n6_ n7_
   (try clear hb)
   (try clear hb2)
   (try clear hk)
   (try clear hi)
   refine hK.out _ _ ⟨HS0_,HS1_,HS2_,HS3_⟩ (fun hHeld=>?_)
   clear hK K
   refine norm_ (a':=?_) ?_ ?_
   rotate_left
   ·show Act.put _ (some 28) _=_
    simp only [Act.put,zp1,zp2,zp3,i64_w,i32_w]
    rfl
   refine zpu 8 10 9 511 ?_
   refine done_ (done_of HT_.out (by kernel_rfl)) ?_
   try go_wp2
   have n0_:=Aside0.mk (Kd.V_drew HO_0.out)
   have n1_:=Aside0.mk (Kd.V_drew HO_1.out)
   have n2_:=Aside0.mk (Kd.N_drew HO_9.out)
   have n3_:=Aside0.mk (Kd.V_drew HL350_0.out)
   have n4_:=Aside0.mk (Kd.V_drew HL351_0.out)
   have n5_:=Aside0.mk (Kd.C_drew HR350_0.out)
   have n6_:=Aside0.mk (Kd.C_drew HR351_0.out)
   have n7_:=Aside0.mk (below_drew1 HB.out)
   clear HO_0
   clear HO_1
   clear HO_9
   clear HL350_0
   clear HL351_0
   clear HR350_0
   clear HR351_0
   clear HB
   have HO_0:=n0_
   have HO_1:=n1_
   have HO_9:=n2_
   have HL350_0:=n3_
   have HL351_0:=n4_
   have HR350_0:=n5_
   have HR351_0:=n6_
   have HB:=n7_
   clear n0_ n1_ n2_ n3_ n4_ n5_ n6_ n7_
   have p371:0≤(0:Int):=(by omega)
   have q371:0 < (x0_1.length:Int):=zod
   obtain ⟨ad371,A371_0,c371_0,e371,hx371_0,hx371_1,hl371_0,hi371_0⟩:=at_T31 (Kd.V_reads' HO_0.out).2.2 0 p371 q371
   obtain rfl:ad350=ad371:=(by injection e371)
   obtain ⟨ce371,hce371,hMe371,hcc371⟩:=Kd.V_get HO_0.out z31 0 p371 (by first|exact q371|exact zod|(have e_:=(Kd.V_reads' HO_0.out).1;omega))
   obtain ⟨ua371_0,uc371_0,rfl,ul371_0,ge371_0⟩:=k31_openF hMe371
   have hv371_0:=hcc371 0 _ rfl
   rw [Nat.add_zero] at hv371_0
   replace hv371_0:=Option.some.inj (hv371_0.symm.trans hx371_0)
   injection hv371_0 with hva_ hvn_ hvc_
   rw [hva_] at ge371_0
   rw [hvc_] at ul371_0
   have HL371_0:=Aside0.mk (show Kd.V (Kd.int .i64) 3 _ w.heap.size _ _ ((rd_T31 x0_1 0).f0) from Kd.V_mk ul371_0 ge371_0)
   clear hva_ hvn_ hvc_ ge371_0 ul371_0
   clear hcc371 hce371
   have qi371:(0 < x0_1.length)=True:=eq_true (by omega)
   (try rw [show ((0:Int)).toNat=0 from rfl] at hx371_0)
   (try rw [show 0 * 2=0 from rfl] at hx371_0)
   (try rw [Addr.add_zero'] at hx371_0)
   (try rw [show ((0:Int)).toNat=0 from rfl] at hx371_1)
   (try rw [show 0 * 2=0 from rfl] at hx371_1)
   (try rw [Addr.add_zero'] at hx371_1)
   have HR371_0:=Aside0.mk hi371_0
   have HC371_0:=Aside0.mk hl371_0
   clear hi371_0 hl371_0
   replace p371:=eq_true p371
   replace q371:=eq_true q371
   have p372:0≤(0:Int):=(by omega)
   have q372:0 < (x1_1.length:Int):=zod
   obtain ⟨ad372,A372_0,c372_0,e372,hx372_0,hx372_1,hl372_0,hi372_0⟩:=at_T31 (Kd.V_reads' HO_1.out).2.2 0 p372 q372
   obtain rfl:ad351=ad372:=(by injection e372)
   obtain ⟨ce372,hce372,hMe372,hcc372⟩:=Kd.V_get HO_1.out z31 0 p372 (by first|exact q372|exact zod|(have e_:=(Kd.V_reads' HO_1.out).1;omega))
   obtain ⟨ua372_0,uc372_0,rfl,ul372_0,ge372_0⟩:=k31_openF hMe372
   have hv372_0:=hcc372 0 _ rfl
   rw [Nat.add_zero] at hv372_0
   replace hv372_0:=Option.some.inj (hv372_0.symm.trans hx372_0)
   injection hv372_0 with hva_ hvn_ hvc_
   rw [hva_] at ge372_0
   rw [hvc_] at ul372_0
   have HL372_0:=Aside0.mk (show Kd.V (Kd.int .i64) 3 _ w.heap.size _ _ ((rd_T31 x1_1 0).f0) from Kd.V_mk ul372_0 ge372_0)
   clear hva_ hvn_ hvc_ ge372_0 ul372_0
   clear hcc372 hce372
   have qi372:(0 < x1_1.length)=True:=eq_true (by omega)
   (try rw [show ((0:Int)).toNat=0 from rfl] at hx372_0)
   (try rw [show 0 * 2=0 from rfl] at hx372_0)
   (try rw [Addr.add_zero'] at hx372_0)
   (try rw [show ((0:Int)).toNat=0 from rfl] at hx372_1)
   (try rw [show 0 * 2=0 from rfl] at hx372_1)
   (try rw [Addr.add_zero'] at hx372_1)
   have HR372_0:=Aside0.mk hi372_0
   have HC372_0:=Aside0.mk hl372_0
   clear hi372_0 hl372_0
   replace p372:=eq_true p372
   replace q372:=eq_true q372
   refine start_ (n:=14) (S:=fun w'=>w'.cell? ad350=some (.slice A371_0 ((rd_T31 x0_1 0).f0).length c371_0)∧w'.cell? ⟨ad350.block,ad350.off + 1,none⟩=some (.int .i64 ((rd_T31 x0_1 0).f1))∧w'.cell? ad351=some (.slice A372_0 ((rd_T31 x1_1 0).f0).length c372_0)∧w'.cell? ⟨ad351.block,ad351.off + 1,none⟩=some (.int .i64 ((rd_T31 x1_1 0).f1))) (ds:=[]) (zm 14 0) (by kernel_rfl) rfl rfl ⟨hx371_0,hx371_1,hx372_0,hx372_1⟩ (fun hHeld=>?_);refine with_tabW impl_merged_impl_Item__impl_cmpItem_impl_together_1.tab4 impl_merged_impl_Item__impl_cmpItem_impl_together_1.bits4 (fun HT_ HW_=>?_)
   generalize w38.drew=w39 at HO_0 HO_1 HO_9 HL350_0 HL351_0 HR350_0 HR351_0 HB HL371_0 HL372_0 HR371_0 HR372_0 hx371_0 hx371_1 hx372_0 hx372_1 hHeld ⊢
   refine zpu 0 30 14 1 ?_
   refine zpu 1 31 14 3 ?_
   refine zpu 2 32 14 7 ?_
   refine zpu 4 34 14 23 ?_
   refine zpu 5 35 14 55 ?_
   refine zta 3 33 14 63 ?_
   refine zta 6 36 14 127 ?_
   refine join_ (σ:=Value × Nat) 2 (zm 14 4095) (fun s_=>[(37,.tuple #[.agg #[s_.1,.int .i64 t376],.bool true]),(11,.pointer (some ⟨s_.2,0,none⟩)),(29,.tuple #[.agg #[s_.1,.int .i64 t376],.bool true]),(38,.agg #[s_.1,.int .i64 t376]),(39,.bool true)]) (fun s_ w'=>(w'.cell? ad350=some (.slice A371_0 ((rd_T31 x0_1 0).f0).length c371_0)∧w'.cell? ⟨ad350.block,ad350.off + 1,none⟩=some (.int .i64 ((rd_T31 x0_1 0).f1))∧w'.cell? ad351=some (.slice A372_0 ((rd_T31 x1_1 0).f0).length c372_0)∧w'.cell? ⟨ad351.block,ad351.off + 1,none⟩=some (.int .i64 ((rd_T31 x1_1 0).f1)))∧(Kd.V (Kd.int .i64) 3 w' w.heap.size (fun k_=>((P0_ k_∨P1_ k_)∨w.heap.size≤k_)∧some k_≠(u9:Value).ownBlock∧k_≠s_.2) (.slice A350_0 ((rd_T31 x0_1 0).f0).length c350_0) ((rd_T31 x0_1 0).f0))∧(Kd.V (Kd.int .i64) 3 w' w.heap.size (fun k_=>((P0_ k_∨P1_ k_)∨w.heap.size≤k_)∧some k_≠(u9:Value).ownBlock∧k_≠s_.2) (.slice A351_0 ((rd_T31 x1_1 0).f0).length c351_0) ((rd_T31 x1_1 0).f0))∧(Kd.V (Kd.int .i64) 3 w' w.heap.size (fun k_=>((P0_ k_∨P1_ k_)∨w.heap.size≤k_)∧some k_≠(u9:Value).ownBlock∧k_≠s_.2) (.slice A371_0 ((rd_T31 x0_1 0).f0).length c371_0) ((rd_T31 x0_1 0).f0))∧(Kd.V (Kd.int .i64) 3 w' w.heap.size (fun k_=>((P0_ k_∨P1_ k_)∨w.heap.size≤k_)∧some k_≠(u9:Value).ownBlock∧k_≠s_.2) (.slice A372_0 ((rd_T31 x1_1 0).f0).length c372_0) ((rd_T31 x1_1 0).f0))∧(Kd.V (Kd.int .i64) 3 w' w.heap.size (fun k_=>((P0_ k_∨P1_ k_)∨w.heap.size≤k_)∧some k_≠(u9:Value).ownBlock∧k_≠s_.2) s_.1 t373)∧(Kd.V k31 31 w' w.heap.size (fun k_=>((P0_ k_∨P1_ k_)∨w.heap.size≤k_)∧some k_≠(u9:Value).ownBlock∧k_≠s_.2) (.slice (some ad350) x0_1.length co35) x0_1)∧(Kd.V k31 31 w' w.heap.size (fun k_=>((P0_ k_∨P1_ k_)∨w.heap.size≤k_)∧some k_≠(u9:Value).ownBlock∧k_≠s_.2) (.slice (some ad351) x1_1.length co36) x1_1)∧(Kd.N k31 31 w' w.heap.size (fun k_=>((P0_ k_∨P1_ k_)∨w.heap.size≤k_)∧k_≠s_.2) u9 x9_1)∧(w'.heap[s_.2]?=some (.cells #[.slice none 0 0,.int .i64 0] 31 (0,0)))∧(w.heap.size≤s_.2)∧(w.heap.size≤s_.2)∧(Below w.heap.size w w')) ?_ ?_
   rotate_left
   ·intro hCont
    refine two_ (i:=7) (j:=11) (Ni:=some 37) (Nj:=some 11) (zm 14 255) (zm 14 2175) rfl rfl rfl rfl (two_of HT_.out (by kernel_rfl)) (by decide) (by decide) (fun K hK=>?_) (fun K hK=>?_)
    ·skip
     refine goes_f (.tmp 30) Tryd.func68 (by kernel_rfl) rfl #[.agg #[.slice A371_0 ((rd_T31 x0_1 0).f0).length c371_0,.int .i64 ((rd_T31 x0_1 0).f1)],.agg #[.slice A372_0 ((rd_T31 x1_1 0).f0).length c372_0,.int .i64 ((rd_T31 x1_1 0).f1)]] (by rfl) rfl rfl rfl zar ?_
     with_reducible refine (impl_together_1.calls (fun k_=>(((P0_ k_∨P1_ k_)∨w.heap.size≤k_)∧some k_≠(u9:Value).ownBlock)) _ _ ((rd_T31 x0_1 0).f0) ((rd_T31 x0_1 0).f1) _ _ ((rd_T31 x1_1 0).f0) ((rd_T31 x1_1 0).f1) t373 t376 true _ ?side1 ?side2 ?side3 A30.out).mono ?_
     (case side1=>exact HL371_0.out)
     (case side2=>exact zC (zC HR372_0.out))
     (case side3=>exact HC372_0.out)
     rintro e w40 ⟨v374,rfl,ho0,hb⟩
     have HS0_:=zhs hb hHeld.1
     have HS1_:=zhs hb hHeld.2.1
     have HS2_:=zhs hb hHeld.2.2.1
     have HS3_:=zhs hb hHeld.2.2.2
     refine ⟨_,rfl,?_⟩
     have n0_:=Aside0.mk (Kd.V_below (zV HO_0.out) hb)
     have n1_:=Aside0.mk (Kd.V_below (zV HO_1.out) hb)
     have n2_:=Aside0.mk (Kd.N_below (zN HO_9.out) hb)
     have n3_:=Aside0.mk (Kd.V_below (zV HL350_0.out) hb)
     have n4_:=Aside0.mk (Kd.V_below (zV HL351_0.out) hb)
     have n5_:=Aside0.mk (Kd.V_below (zV HL371_0.out) hb)
     have n6_:=Aside0.mk (Kd.V_below (zV HL372_0.out) hb)
     have n7_:=Aside0.mk (Kd.V_lower (Kd.V_mono (ok':=fun k_=>((P0_ k_∨P1_ k_)∨w.heap.size≤k_)∧some k_≠(u9:Value).ownBlock) ho0 (fun k_ hk_=>⟨Or.elim hk_ (fun hs_=>hs_.1) (fun hn_=>(.inr (Nat.le_trans (below_size zhb) hn_))),Or.elim hk_ (fun hs_=>hs_.2) (fun hn_=>(Kd.fresh' (Kd.N_lt (zN HO_9.out)) k_ hn_))⟩)) (below_size zhb))
     have n8_:=Aside0.mk (Kd.C_below (zC HR350_0.out) hb)
     have n9_:=Aside0.mk (Kd.C_below (zC HR351_0.out) hb)
     have n10_:=Aside0.mk (Kd.C_below (zC HR371_0.out) hb)
     have n11_:=Aside0.mk (Kd.C_below (zC HR372_0.out) hb)
     have n12_:=Aside0.mk (below_step zhb hb)
     clear HO_0
     clear HO_1
     clear HO_9
     clear HL350_0
     clear HL351_0
     clear HL371_0
     clear HL372_0
     clear HR350_0
     clear HR351_0
     clear HR371_0
     clear HR372_0
     clear HB
     have HO_0:=n0_
     have HO_1:=n1_
     have HO_9:=n2_
     have HL350_0:=n3_
     have HL351_0:=n4_
     have HL371_0:=n5_
     have HL372_0:=n6_
     have HO375:=n7_
     have HR350_0:=n8_
     have HR351_0:=n9_
     have HR371_0:=n10_
     have HR372_0:=n11_
     have HB:=n12_
     clear n0_ n1_ n2_ n3_ n4_ n5_ n6_ n7_ n8_ n9_ n10_ n11_ n12_
     (try clear hb)
     (try clear hb2)
     (try clear hk)
     (try clear hi)
     (try clear ho0)
     refine hK.out _ _ ⟨HS0_,HS1_,HS2_,HS3_⟩ (fun hHeld=>?_)
     clear hK K
     refine norm_ (a':=?_) ?_ ?_
     rotate_left
     ·show Act.put _ (some 37) _=_
      simp only [Act.put,zp1,zp2,zp3,i64_w,i32_w]
      rfl
     refine zpu 8 29 14 511 ?_
     refine zpu 9 38 14 1023 ?_
     refine zpu 10 39 14 2047 ?_
     refine one_ (i:=11) (N:=some 11) (zm 14 4095) rfl rfl (one_of HT_.out (by kernel_rfl)) (by decide) (fun K hK=>?_)
     refine box_step ?hg (N:=11) ?hd (cs:=#[.slice none 0 0,.int .i64 0]) (t:=31) ?hr ?_;(case hd=>rfl);(case hg=>rfl);(case hr=>first|(go_simp;done)|(go_simp;rfl))
     intro gb378 hg w41 hbox hb
     have HS0_:=zhs hb hHeld.1
     have HS1_:=zhs hb hHeld.2.1
     have HS2_:=zhs hb hHeld.2.2.1
     have HS3_:=zhs hb hHeld.2.2.2
     have n0_:=Aside0.mk (Kd.V_below (Kd.V_elderB (zV HO_0.out) gb378 (Nat.le_of_eq hg.symm)) hb)
     have n1_:=Aside0.mk (Kd.V_below (Kd.V_elderB (zV HO_1.out) gb378 (Nat.le_of_eq hg.symm)) hb)
     have n2_:=Aside0.mk (Kd.N_below (Kd.N_elderB (zN HO_9.out) gb378 (Nat.le_of_eq hg.symm)) hb)
     have n3_:=Aside0.mk (Kd.V_below (Kd.V_elderB (zV HL350_0.out) gb378 (Nat.le_of_eq hg.symm)) hb)
     have n4_:=Aside0.mk (Kd.V_below (Kd.V_elderB (zV HL351_0.out) gb378 (Nat.le_of_eq hg.symm)) hb)
     have n5_:=Aside0.mk (Kd.V_below (Kd.V_elderB (zV HL371_0.out) gb378 (Nat.le_of_eq hg.symm)) hb)
     have n6_:=Aside0.mk (Kd.V_below (Kd.V_elderB (zV HL372_0.out) gb378 (Nat.le_of_eq hg.symm)) hb)
     have n7_:=Aside0.mk (Kd.V_below (Kd.V_elderB (zV HO375.out) gb378 (Nat.le_of_eq hg.symm)) hb)
     have n8_:=Aside0.mk (Kd.C_below (zC HR350_0.out) hb)
     have n9_:=Aside0.mk (Kd.C_below (zC HR351_0.out) hb)
     have n10_:=Aside0.mk (Kd.C_below (zC HR371_0.out) hb)
     have n11_:=Aside0.mk (Kd.C_below (zC HR372_0.out) hb)
     have n12_:=Aside0.mk (below_step zhb hb)
     have n13_:=Aside0.mk (hbox)
     have n14_:=Aside0.mk ((by rw [hg];exact (below_size zhb):w.heap.size≤gb378))
     have n15_:=Aside0.mk ((by rw [hg];exact (below_size zhb):w.heap.size≤gb378))
     clear HO_0
     clear HO_1
     clear HO_9
     clear HL350_0
     clear HL351_0
     clear HL371_0
     clear HL372_0
     clear HO375
     clear HR350_0
     clear HR351_0
     clear HR371_0
     clear HR372_0
     clear HB
     have HO_0:=n0_
     have HO_1:=n1_
     have HO_9:=n2_
     have HL350_0:=n3_
     have HL351_0:=n4_
     have HL371_0:=n5_
     have HL372_0:=n6_
     have HO375:=n7_
     have HR350_0:=n8_
     have HR351_0:=n9_
     have HR371_0:=n10_
     have HR372_0:=n11_
     have HB:=n12_
     have BK378:=n13_
     have GW378:=n14_
     have GE378:=n15_
     clear n0_ n1_ n2_ n3_ n4_ n5_ n6_ n7_ n8_ n9_ n10_ n11_ n12_ n13_ n14_ n15_
     clear hb hbox hg
     refine hK.out _ _ ⟨HS0_,HS1_,HS2_,HS3_⟩ (fun hHeld=>?_)
     clear hK K
     refine norm_ (a':=?_) ?_ ?_
     rotate_left
     ·show Act.put _ (some 11) _=_
      simp only [Act.put,zp1,zp2,zp3,i64_w,i32_w]
      rfl
     exact norm_ (by simp only [putAll,Act.put,zp1,zp2,zp3]) (hCont (v374,gb378) _ ⟨hHeld,(by (with_reducible repeat (first|apply Kd.V_alloc|apply Kd.V_drewN|apply Kd.V_drew));exact Kd.V_mono HL350_0.out (fun _ hk=>⟨hk.1.1,⟨hk.1.2,hk.2⟩⟩)),(by (with_reducible repeat (first|apply Kd.V_alloc|apply Kd.V_drewN|apply Kd.V_drew));exact Kd.V_mono HL351_0.out (fun _ hk=>⟨hk.1.1,⟨hk.1.2,hk.2⟩⟩)),(by (with_reducible repeat (first|apply Kd.V_alloc|apply Kd.V_drewN|apply Kd.V_drew));exact Kd.V_mono HL371_0.out (fun _ hk=>⟨hk.1.1,⟨hk.1.2,hk.2⟩⟩)),(by (with_reducible repeat (first|apply Kd.V_alloc|apply Kd.V_drewN|apply Kd.V_drew));exact Kd.V_mono HL372_0.out (fun _ hk=>⟨hk.1.1,⟨hk.1.2,hk.2⟩⟩)),(by (with_reducible repeat (first|apply Kd.V_alloc|apply Kd.V_drewN|apply Kd.V_drew));exact Kd.V_mono HO375.out (fun _ hk=>⟨hk.1.1,⟨hk.1.2,hk.2⟩⟩)),(by (with_reducible repeat (first|apply Kd.V_alloc|apply Kd.V_drewN|apply Kd.V_drew));exact Kd.V_mono HO_0.out (fun _ hk=>⟨hk.1.1,⟨hk.1.2,hk.2⟩⟩)),(by (with_reducible repeat (first|apply Kd.V_alloc|apply Kd.V_drewN|apply Kd.V_drew));exact Kd.V_mono HO_1.out (fun _ hk=>⟨hk.1.1,⟨hk.1.2,hk.2⟩⟩)),(zN HO_9.out),(by (with_reducible repeat (first|refine blk_drewN ?_ _|refine blk_drew ?_|refine blk_alloc ?_ _));exact BK378.out),GW378.out,GE378.out,(by repeat (first|(with_reducible first|exact HB.out|apply below_alloc|apply pw_below_drewN|apply below_drew1|refine below_set ?_ GE378.out)|exact HB.out))⟩)
    skip
    refine box_step ?hg (N:=11) ?hd (cs:=#[.slice none 0 0,.int .i64 0]) (t:=31) ?hr ?_;(case hd=>rfl);(case hg=>rfl);(case hr=>first|(go_simp;done)|(go_simp;rfl))
    intro gb378 hg w40 hbox hb
    have HS0_:=zhs hb hHeld.1
    have HS1_:=zhs hb hHeld.2.1
    have HS2_:=zhs hb hHeld.2.2.1
    have HS3_:=zhs hb hHeld.2.2.2
    have n0_:=Aside0.mk (Kd.V_below (Kd.V_elderB (zV HO_0.out) gb378 (Nat.le_of_eq hg.symm)) hb)
    have n1_:=Aside0.mk (Kd.V_below (Kd.V_elderB (zV HO_1.out) gb378 (Nat.le_of_eq hg.symm)) hb)
    have n2_:=Aside0.mk (Kd.N_below (Kd.N_elderB (zN HO_9.out) gb378 (Nat.le_of_eq hg.symm)) hb)
    have n3_:=Aside0.mk (Kd.V_below (Kd.V_elderB (zV HL350_0.out) gb378 (Nat.le_of_eq hg.symm)) hb)
    have n4_:=Aside0.mk (Kd.V_below (Kd.V_elderB (zV HL351_0.out) gb378 (Nat.le_of_eq hg.symm)) hb)
    have n5_:=Aside0.mk (Kd.V_below (Kd.V_elderB (zV HL371_0.out) gb378 (Nat.le_of_eq hg.symm)) hb)
    have n6_:=Aside0.mk (Kd.V_below (Kd.V_elderB (zV HL372_0.out) gb378 (Nat.le_of_eq hg.symm)) hb)
    have n7_:=Aside0.mk (Kd.C_below (zC HR350_0.out) hb)
    have n8_:=Aside0.mk (Kd.C_below (zC HR351_0.out) hb)
    have n9_:=Aside0.mk (Kd.C_below (zC HR371_0.out) hb)
    have n10_:=Aside0.mk (Kd.C_below (zC HR372_0.out) hb)
    have n11_:=Aside0.mk (below_step zhb hb)
    have n12_:=Aside0.mk (hbox)
    have n13_:=Aside0.mk ((by rw [hg];exact (below_size zhb):w.heap.size≤gb378))
    have n14_:=Aside0.mk ((by rw [hg];exact (below_size zhb):w.heap.size≤gb378))
    clear HO_0
    clear HO_1
    clear HO_9
    clear HL350_0
    clear HL351_0
    clear HL371_0
    clear HL372_0
    clear HR350_0
    clear HR351_0
    clear HR371_0
    clear HR372_0
    clear HB
    have HO_0:=n0_
    have HO_1:=n1_
    have HO_9:=n2_
    have HL350_0:=n3_
    have HL351_0:=n4_
    have HL371_0:=n5_
    have HL372_0:=n6_
    have HR350_0:=n7_
    have HR351_0:=n8_
    have HR371_0:=n9_
    have HR372_0:=n10_
    have HB:=n11_
    have BK378:=n12_
    have GW378:=n13_
    have GE378:=n14_
    clear n0_ n1_ n2_ n3_ n4_ n5_ n6_ n7_ n8_ n9_ n10_ n11_ n12_ n13_ n14_
    clear hb hbox hg
    refine hK.out _ _ ⟨HS0_,HS1_,HS2_,HS3_⟩ (fun hHeld=>?_)
    clear hK K
    refine norm_ (a':=?_) ?_ ?_
    rotate_left
    ·show Act.put _ (some 11) _=_
     simp only [Act.put,zp1,zp2,zp3,i64_w,i32_w]
     rfl
    refine one_ (i:=7) (N:=some 37) (zm 14 2303) rfl rfl (one_of HT_.out (by kernel_rfl)) (by decide) (fun K hK=>?_)
    refine goes_f (.tmp 30) Tryd.func68 (by kernel_rfl) rfl #[.agg #[.slice A371_0 ((rd_T31 x0_1 0).f0).length c371_0,.int .i64 ((rd_T31 x0_1 0).f1)],.agg #[.slice A372_0 ((rd_T31 x1_1 0).f0).length c372_0,.int .i64 ((rd_T31 x1_1 0).f1)]] (by rfl) rfl rfl rfl zar ?_
    with_reducible refine (impl_together_1.calls (fun k_=>((((P0_ k_∨P1_ k_)∨w.heap.size≤k_)∧some k_≠(u9:Value).ownBlock)∧k_≠gb378)) _ _ ((rd_T31 x0_1 0).f0) ((rd_T31 x0_1 0).f1) _ _ ((rd_T31 x1_1 0).f0) ((rd_T31 x1_1 0).f1) t373 t376 true _ ?side1 ?side2 ?side3 A30.out).mono ?_
    (case side1=>exact HL371_0.out)
    (case side2=>exact zC (zC HR372_0.out))
    (case side3=>exact HC372_0.out)
    rintro e w41 ⟨v374,rfl,ho0,hb⟩
    have HS0_:=zhs hb hHeld.1
    have HS1_:=zhs hb hHeld.2.1
    have HS2_:=zhs hb hHeld.2.2.1
    have HS3_:=zhs hb hHeld.2.2.2
    refine ⟨_,rfl,?_⟩
    have n0_:=Aside0.mk (Kd.V_below (zV HO_0.out) hb)
    have n1_:=Aside0.mk (Kd.V_below (zV HO_1.out) hb)
    have n2_:=Aside0.mk (Kd.N_below (zN HO_9.out) hb)
    have n3_:=Aside0.mk (Kd.V_below (zV HL350_0.out) hb)
    have n4_:=Aside0.mk (Kd.V_below (zV HL351_0.out) hb)
    have n5_:=Aside0.mk (Kd.V_below (zV HL371_0.out) hb)
    have n6_:=Aside0.mk (Kd.V_below (zV HL372_0.out) hb)
    have n7_:=Aside0.mk (Kd.V_lower (Kd.V_mono (ok':=fun k_=>((P0_ k_∨P1_ k_)∨w.heap.size≤k_)∧some k_≠(u9:Value).ownBlock∧k_≠gb378) ho0 (fun k_ hk_=>⟨Or.elim hk_ (fun hs_=>hs_.1.1) (fun hn_=>(.inr (Nat.le_trans (below_size (by repeat (first|(with_reducible first|exact HB.out|apply below_alloc|apply pw_below_drewN|apply below_drew1|refine below_set ?_ GE378.out)|exact HB.out))) hn_))),Or.elim hk_ (fun hs_=>hs_.1.2) (fun hn_=>(Kd.fresh' (Kd.N_lt (zN HO_9.out)) k_ hn_)),Or.elim hk_ (fun hs_=>hs_.2) (fun hn_=>(Kd.freshB (g:=gb378) (o:=.cells #[.slice none 0 0,.int .i64 0] 31 (0,0)) (by (with_reducible repeat (first|refine blk_drewN ?_ _|refine blk_drew ?_|refine blk_alloc ?_ _));exact BK378.out) k_ hn_))⟩)) (below_size (by repeat (first|(with_reducible first|exact HB.out|apply below_alloc|apply pw_below_drewN|apply below_drew1|refine below_set ?_ GE378.out)|exact HB.out))))
    have n8_:=Aside0.mk (Kd.C_below (zC HR350_0.out) hb)
    have n9_:=Aside0.mk (Kd.C_below (zC HR351_0.out) hb)
    have n10_:=Aside0.mk (Kd.C_below (zC HR371_0.out) hb)
    have n11_:=Aside0.mk (Kd.C_below (zC HR372_0.out) hb)
    have n12_:=Aside0.mk (blk_below (g:=gb378) (o:=.cells #[.slice none 0 0,.int .i64 0] 31 (0,0)) (by (with_reducible repeat (first|refine blk_drewN ?_ _|refine blk_drew ?_|refine blk_alloc ?_ _));exact BK378.out) hb)
    have n13_:=Aside0.mk (below_step (by repeat (first|(with_reducible first|exact HB.out|apply below_alloc|apply pw_below_drewN|apply below_drew1|refine below_set ?_ GE378.out)|exact HB.out)) hb)
    clear HO_0
    clear HO_1
    clear HO_9
    clear HL350_0
    clear HL351_0
    clear HL371_0
    clear HL372_0
    clear HR350_0
    clear HR351_0
    clear HR371_0
    clear HR372_0
    clear BK378
    clear HB
    have HO_0:=n0_
    have HO_1:=n1_
    have HO_9:=n2_
    have HL350_0:=n3_
    have HL351_0:=n4_
    have HL371_0:=n5_
    have HL372_0:=n6_
    have HO375:=n7_
    have HR350_0:=n8_
    have HR351_0:=n9_
    have HR371_0:=n10_
    have HR372_0:=n11_
    have BK378:=n12_
    have HB:=n13_
    clear n0_ n1_ n2_ n3_ n4_ n5_ n6_ n7_ n8_ n9_ n10_ n11_ n12_ n13_
    (try clear hb)
    (try clear hb2)
    (try clear hk)
    (try clear hi)
    (try clear ho0)
    refine hK.out _ _ ⟨HS0_,HS1_,HS2_,HS3_⟩ (fun hHeld=>?_)
    clear hK K
    refine norm_ (a':=?_) ?_ ?_
    rotate_left
    ·show Act.put _ (some 37) _=_
     simp only [Act.put,zp1,zp2,zp3,i64_w,i32_w]
     rfl
    refine zpu 8 29 14 2559 ?_
    refine zpu 9 38 14 3071 ?_
    refine zpu 10 39 14 4095 ?_
    exact norm_ (by simp only [putAll,Act.put,zp1,zp2,zp3]) (hCont (v374,gb378) _ ⟨hHeld,(by (with_reducible repeat (first|apply Kd.V_alloc|apply Kd.V_drewN|apply Kd.V_drew));exact Kd.V_mono HL350_0.out (fun _ hk=>⟨hk.1.1,⟨hk.1.2,hk.2⟩⟩)),(by (with_reducible repeat (first|apply Kd.V_alloc|apply Kd.V_drewN|apply Kd.V_drew));exact Kd.V_mono HL351_0.out (fun _ hk=>⟨hk.1.1,⟨hk.1.2,hk.2⟩⟩)),(by (with_reducible repeat (first|apply Kd.V_alloc|apply Kd.V_drewN|apply Kd.V_drew));exact Kd.V_mono HL371_0.out (fun _ hk=>⟨hk.1.1,⟨hk.1.2,hk.2⟩⟩)),(by (with_reducible repeat (first|apply Kd.V_alloc|apply Kd.V_drewN|apply Kd.V_drew));exact Kd.V_mono HL372_0.out (fun _ hk=>⟨hk.1.1,⟨hk.1.2,hk.2⟩⟩)),(zV HO375.out),(by (with_reducible repeat (first|apply Kd.V_alloc|apply Kd.V_drewN|apply Kd.V_drew));exact Kd.V_mono HO_0.out (fun _ hk=>⟨hk.1.1,⟨hk.1.2,hk.2⟩⟩)),(by (with_reducible repeat (first|apply Kd.V_alloc|apply Kd.V_drewN|apply Kd.V_drew));exact Kd.V_mono HO_1.out (fun _ hk=>⟨hk.1.1,⟨hk.1.2,hk.2⟩⟩)),(zN HO_9.out),(by (with_reducible repeat (first|refine blk_drewN ?_ _|refine blk_drew ?_|refine blk_alloc ?_ _));exact BK378.out),GW378.out,GE378.out,(by repeat (first|(with_reducible first|exact HB.out|apply below_alloc|apply pw_below_drewN|apply below_drew1|refine below_set ?_ GE378.out)|exact HB.out))⟩)
   rintro ⟨v374,gb378⟩ w42 ⟨hS_,h0_,h1_,h2_,h3_,h4_,h5_,h6_,h7_,h8_,h9_,h10_,h11_⟩
   have n0_:Aside0 (Kd.V (Kd.int .i64) 3 w42 w.heap.size (fun k_=>((P0_ k_∨P1_ k_)∨w.heap.size≤k_)∧some k_≠(u9:Value).ownBlock∧k_≠gb378) (.slice A350_0 ((rd_T31 x0_1 0).f0).length c350_0) ((rd_T31 x0_1 0).f0)):=⟨h0_⟩
   have n1_:Aside0 (Kd.V (Kd.int .i64) 3 w42 w.heap.size (fun k_=>((P0_ k_∨P1_ k_)∨w.heap.size≤k_)∧some k_≠(u9:Value).ownBlock∧k_≠gb378) (.slice A351_0 ((rd_T31 x1_1 0).f0).length c351_0) ((rd_T31 x1_1 0).f0)):=⟨h1_⟩
   have n2_:Aside0 (Kd.V (Kd.int .i64) 3 w42 w.heap.size (fun k_=>((P0_ k_∨P1_ k_)∨w.heap.size≤k_)∧some k_≠(u9:Value).ownBlock∧k_≠gb378) (.slice A371_0 ((rd_T31 x0_1 0).f0).length c371_0) ((rd_T31 x0_1 0).f0)):=⟨h2_⟩
   have n3_:Aside0 (Kd.V (Kd.int .i64) 3 w42 w.heap.size (fun k_=>((P0_ k_∨P1_ k_)∨w.heap.size≤k_)∧some k_≠(u9:Value).ownBlock∧k_≠gb378) (.slice A372_0 ((rd_T31 x1_1 0).f0).length c372_0) ((rd_T31 x1_1 0).f0)):=⟨h3_⟩
   have n4_:Aside0 (Kd.V (Kd.int .i64) 3 w42 w.heap.size (fun k_=>((P0_ k_∨P1_ k_)∨w.heap.size≤k_)∧some k_≠(u9:Value).ownBlock∧k_≠gb378) v374 t373):=⟨h4_⟩
   have n5_:Aside0 (Kd.V k31 31 w42 w.heap.size (fun k_=>((P0_ k_∨P1_ k_)∨w.heap.size≤k_)∧some k_≠(u9:Value).ownBlock∧k_≠gb378) (.slice (some ad350) x0_1.length co35) x0_1):=⟨h5_⟩
   have n6_:Aside0 (Kd.V k31 31 w42 w.heap.size (fun k_=>((P0_ k_∨P1_ k_)∨w.heap.size≤k_)∧some k_≠(u9:Value).ownBlock∧k_≠gb378) (.slice (some ad351) x1_1.length co36) x1_1):=⟨h6_⟩
   have n7_:Aside0 (Kd.N k31 31 w42 w.heap.size (fun k_=>((P0_ k_∨P1_ k_)∨w.heap.size≤k_)∧k_≠gb378) u9 x9_1):=⟨h7_⟩
   have n8_:Aside0 (w42.heap[gb378]?=some (.cells #[.slice none 0 0,.int .i64 0] 31 (0,0))):=⟨h8_⟩
   have n9_:Aside0 (w.heap.size≤gb378):=⟨h9_⟩
   have n10_:Aside0 (w.heap.size≤gb378):=⟨h10_⟩
   have n11_:Aside0 (Below w.heap.size w w42):=⟨h11_⟩
   clear HO_0
   clear HO_1
   clear HO_9
   clear HL350_0
   clear HL351_0
   clear HR350_0
   clear HR351_0
   clear HB
   clear h0_ h1_ h2_ h3_ h4_ h5_ h6_ h7_ h8_ h9_ h10_ h11_
   have HL350_0:=n0_
   have HL351_0:=n1_
   have HL371_0:=n2_
   have HL372_0:=n3_
   have HO375:=n4_
   have HO_0:=n5_
   have HO_1:=n6_
   have HO_9:=n7_
   have BK378:=n8_
   have GW378:=n9_
   have GE378:=n10_
   have HB:=n11_
   clear n0_ n1_ n2_ n3_ n4_ n5_ n6_ n7_ n8_ n9_ n10_ n11_
   have hHeld:w42.cell? ad350=some (.slice A371_0 ((rd_T31 x0_1 0).f0).length c371_0)∧w42.cell? ⟨ad350.block,ad350.off + 1,none⟩=some (.int .i64 ((rd_T31 x0_1 0).f1))∧w42.cell? ad351=some (.slice A372_0 ((rd_T31 x1_1 0).f0).length c372_0)∧w42.cell? ⟨ad351.block,ad351.off + 1,none⟩=some (.int .i64 ((rd_T31 x1_1 0).f1)):=hS_
   obtain ⟨Ao43,co43,eo43⟩:=Kd.V_slice HO375.out
   (first|subst eo43|(injection eo43 with f1_ f2_ f3_;have f4_:=f1_.symm;have f5_:=f3_.symm;clear f1_ f2_ f3_;subst f4_;subst f5_))
   refine norm_ (a':=?_) ?_ ?_
   rotate_left
   ·simp only [putAll,Act.put,zp1,zp2,zp3]
    rfl
   refine one_ (i:=12) (N:=none) (zm 14 8191) rfl rfl (one_of HT_.out (by kernel_rfl)) (by decide) (fun K hK=>?_)
   have hs44:w42.cell? ⟨gb378,0,none⟩=some (.slice none 0 0):=(blk_cell BK378.out 0).trans rfl
   have hfs44:=blk_frozen BK378.out 0
   have hs45:w42.cell? ⟨gb378,1,none⟩=some (.int .i64 0):=(blk_cell BK378.out 1).trans rfl
   have hfs45:=blk_frozen BK378.out 1
   refine skip_ (w1:=?_) (by rfl) rfl ?_ ?_
   rotate_left
   ·go_simp
    rfl
   refine hK.out _ _ ⟨((cell_far (p:=⟨gb378,_,none⟩) (by first|exact Kd.own_blk (Kd.V_away HO_0.out (fun _ hk=>hk.2.2))|(rw [add_block];exact Kd.own_blk (Kd.V_away HO_0.out (fun _ hk=>hk.2.2)))|(show (Addr.add _ _).block≠_;rw [add_block];exact Kd.own_blk (Kd.V_away HO_0.out (fun _ hk=>hk.2.2)))|(dsimp only;exact Kd.own_blk (Kd.V_away HO_0.out (fun _ hk=>hk.2.2)))) _).trans (((cell_far (p:=⟨gb378,_,none⟩) (by first|exact Kd.own_blk (Kd.V_away HO_0.out (fun _ hk=>hk.2.2))|(rw [add_block];exact Kd.own_blk (Kd.V_away HO_0.out (fun _ hk=>hk.2.2)))|(show (Addr.add _ _).block≠_;rw [add_block];exact Kd.own_blk (Kd.V_away HO_0.out (fun _ hk=>hk.2.2)))|(dsimp only;exact Kd.own_blk (Kd.V_away HO_0.out (fun _ hk=>hk.2.2)))) _).trans (hHeld.1)))),((cell_far (p:=⟨gb378,_,none⟩) (by first|exact Kd.own_blk (Kd.V_away HO_0.out (fun _ hk=>hk.2.2))|(rw [add_block];exact Kd.own_blk (Kd.V_away HO_0.out (fun _ hk=>hk.2.2)))|(show (Addr.add _ _).block≠_;rw [add_block];exact Kd.own_blk (Kd.V_away HO_0.out (fun _ hk=>hk.2.2)))|(dsimp only;exact Kd.own_blk (Kd.V_away HO_0.out (fun _ hk=>hk.2.2)))) _).trans (((cell_far (p:=⟨gb378,_,none⟩) (by first|exact Kd.own_blk (Kd.V_away HO_0.out (fun _ hk=>hk.2.2))|(rw [add_block];exact Kd.own_blk (Kd.V_away HO_0.out (fun _ hk=>hk.2.2)))|(show (Addr.add _ _).block≠_;rw [add_block];exact Kd.own_blk (Kd.V_away HO_0.out (fun _ hk=>hk.2.2)))|(dsimp only;exact Kd.own_blk (Kd.V_away HO_0.out (fun _ hk=>hk.2.2)))) _).trans (hHeld.2.1)))),((cell_far (p:=⟨gb378,_,none⟩) (by first|exact Kd.own_blk (Kd.V_away HO_1.out (fun _ hk=>hk.2.2))|(rw [add_block];exact Kd.own_blk (Kd.V_away HO_1.out (fun _ hk=>hk.2.2)))|(show (Addr.add _ _).block≠_;rw [add_block];exact Kd.own_blk (Kd.V_away HO_1.out (fun _ hk=>hk.2.2)))|(dsimp only;exact Kd.own_blk (Kd.V_away HO_1.out (fun _ hk=>hk.2.2)))) _).trans (((cell_far (p:=⟨gb378,_,none⟩) (by first|exact Kd.own_blk (Kd.V_away HO_1.out (fun _ hk=>hk.2.2))|(rw [add_block];exact Kd.own_blk (Kd.V_away HO_1.out (fun _ hk=>hk.2.2)))|(show (Addr.add _ _).block≠_;rw [add_block];exact Kd.own_blk (Kd.V_away HO_1.out (fun _ hk=>hk.2.2)))|(dsimp only;exact Kd.own_blk (Kd.V_away HO_1.out (fun _ hk=>hk.2.2)))) _).trans (hHeld.2.2.1)))),((cell_far (p:=⟨gb378,_,none⟩) (by first|exact Kd.own_blk (Kd.V_away HO_1.out (fun _ hk=>hk.2.2))|(rw [add_block];exact Kd.own_blk (Kd.V_away HO_1.out (fun _ hk=>hk.2.2)))|(show (Addr.add _ _).block≠_;rw [add_block];exact Kd.own_blk (Kd.V_away HO_1.out (fun _ hk=>hk.2.2)))|(dsimp only;exact Kd.own_blk (Kd.V_away HO_1.out (fun _ hk=>hk.2.2)))) _).trans (((cell_far (p:=⟨gb378,_,none⟩) (by first|exact Kd.own_blk (Kd.V_away HO_1.out (fun _ hk=>hk.2.2))|(rw [add_block];exact Kd.own_blk (Kd.V_away HO_1.out (fun _ hk=>hk.2.2)))|(show (Addr.add _ _).block≠_;rw [add_block];exact Kd.own_blk (Kd.V_away HO_1.out (fun _ hk=>hk.2.2)))|(dsimp only;exact Kd.own_blk (Kd.V_away HO_1.out (fun _ hk=>hk.2.2)))) _).trans (hHeld.2.2.2))))⟩ (fun hHeld=>?_)
   clear hK K
   refine zpu 13 12 14 16383 ?_
   refine done_ (done_of HT_.out (by kernel_rfl)) ?_
   have n0_:Aside0 (Kd.V k31 31 ((w42.setCell ⟨gb378,0,none⟩ (.slice Ao43 t373.length co43)).setCell ⟨gb378,1,none⟩ (.int .i64 t376)) w.heap.size (fun k_=>((P0_ k_∨P1_ k_)∨w.heap.size≤k_)∧some k_≠(u9:Value).ownBlock∧k_≠gb378) (.slice (some ad350) x0_1.length co35) x0_1):=⟨by (with_reducible repeat (first|apply Kd.V_alloc|apply Kd.V_drewN|apply Kd.V_drew));exact Kd.V_mono (Kd.V_far (p:=⟨gb378,1,none⟩) (Kd.V_far (p:=⟨gb378,0,none⟩) (Kd.V_mono HO_0.out (fun k_ hk=>(⟨hk,hk.2.2⟩:_∧k_≠gb378))) (fun _ hk=>hk.2) (.slice Ao43 t373.length co43)) (fun _ hk=>hk.2) (.int .i64 t376)) (fun _ hk=>⟨hk.1.1,⟨hk.1.2.1,hk.1.2.2⟩⟩)⟩
   have n1_:Aside0 (Kd.V k31 31 ((w42.setCell ⟨gb378,0,none⟩ (.slice Ao43 t373.length co43)).setCell ⟨gb378,1,none⟩ (.int .i64 t376)) w.heap.size (fun k_=>((P0_ k_∨P1_ k_)∨w.heap.size≤k_)∧some k_≠(u9:Value).ownBlock∧k_≠gb378) (.slice (some ad351) x1_1.length co36) x1_1):=⟨by (with_reducible repeat (first|apply Kd.V_alloc|apply Kd.V_drewN|apply Kd.V_drew));exact Kd.V_mono (Kd.V_far (p:=⟨gb378,1,none⟩) (Kd.V_far (p:=⟨gb378,0,none⟩) (Kd.V_mono HO_1.out (fun k_ hk=>(⟨hk,hk.2.2⟩:_∧k_≠gb378))) (fun _ hk=>hk.2) (.slice Ao43 t373.length co43)) (fun _ hk=>hk.2) (.int .i64 t376)) (fun _ hk=>⟨hk.1.1,⟨hk.1.2.1,hk.1.2.2⟩⟩)⟩
   have n2_:Aside0 (Kd.N k31 31 ((w42.setCell ⟨gb378,0,none⟩ (.slice Ao43 t373.length co43)).setCell ⟨gb378,1,none⟩ (.int .i64 t376)) w.heap.size (fun k_=>((P0_ k_∨P1_ k_)∨w.heap.size≤k_)∧k_≠gb378) u9 x9_1):=⟨by (with_reducible repeat (first|apply Kd.N_alloc|apply Kd.N_drewN|apply Kd.N_drew));exact Kd.N_mono (Kd.N_far (p:=⟨gb378,1,none⟩) (Kd.N_far (p:=⟨gb378,0,none⟩) (Kd.N_mono HO_9.out (fun k_ hk=>(⟨hk,hk.2⟩:_∧k_≠gb378))) (fun _ hk=>hk.2) (.slice Ao43 t373.length co43)) (fun _ hk=>hk.2) (.int .i64 t376)) (fun _ hk=>⟨hk.1.1,hk.1.2⟩)⟩
   have n3_:Aside0 (Kd.V (Kd.int .i64) 3 ((w42.setCell ⟨gb378,0,none⟩ (.slice Ao43 t373.length co43)).setCell ⟨gb378,1,none⟩ (.int .i64 t376)) w.heap.size (fun k_=>((P0_ k_∨P1_ k_)∨w.heap.size≤k_)∧some k_≠(u9:Value).ownBlock∧k_≠gb378) (.slice A350_0 ((rd_T31 x0_1 0).f0).length c350_0) ((rd_T31 x0_1 0).f0)):=⟨by (with_reducible repeat (first|apply Kd.V_alloc|apply Kd.V_drewN|apply Kd.V_drew));exact Kd.V_mono (Kd.V_far (p:=⟨gb378,1,none⟩) (Kd.V_far (p:=⟨gb378,0,none⟩) (Kd.V_mono HL350_0.out (fun k_ hk=>(⟨hk,hk.2.2⟩:_∧k_≠gb378))) (fun _ hk=>hk.2) (.slice Ao43 t373.length co43)) (fun _ hk=>hk.2) (.int .i64 t376)) (fun _ hk=>⟨hk.1.1,⟨hk.1.2.1,hk.1.2.2⟩⟩)⟩
   have n4_:Aside0 (Kd.V (Kd.int .i64) 3 ((w42.setCell ⟨gb378,0,none⟩ (.slice Ao43 t373.length co43)).setCell ⟨gb378,1,none⟩ (.int .i64 t376)) w.heap.size (fun k_=>((P0_ k_∨P1_ k_)∨w.heap.size≤k_)∧some k_≠(u9:Value).ownBlock∧k_≠gb378) (.slice A351_0 ((rd_T31 x1_1 0).f0).length c351_0) ((rd_T31 x1_1 0).f0)):=⟨by (with_reducible repeat (first|apply Kd.V_alloc|apply Kd.V_drewN|apply Kd.V_drew));exact Kd.V_mono (Kd.V_far (p:=⟨gb378,1,none⟩) (Kd.V_far (p:=⟨gb378,0,none⟩) (Kd.V_mono HL351_0.out (fun k_ hk=>(⟨hk,hk.2.2⟩:_∧k_≠gb378))) (fun _ hk=>hk.2) (.slice Ao43 t373.length co43)) (fun _ hk=>hk.2) (.int .i64 t376)) (fun _ hk=>⟨hk.1.1,⟨hk.1.2.1,hk.1.2.2⟩⟩)⟩
   have n5_:Aside0 (Kd.V (Kd.int .i64) 3 ((w42.setCell ⟨gb378,0,none⟩ (.slice Ao43 t373.length co43)).setCell ⟨gb378,1,none⟩ (.int .i64 t376)) w.heap.size (fun k_=>((P0_ k_∨P1_ k_)∨w.heap.size≤k_)∧some k_≠(u9:Value).ownBlock∧k_≠gb378) (.slice A371_0 ((rd_T31 x0_1 0).f0).length c371_0) ((rd_T31 x0_1 0).f0)):=⟨by (with_reducible repeat (first|apply Kd.V_alloc|apply Kd.V_drewN|apply Kd.V_drew));exact Kd.V_mono (Kd.V_far (p:=⟨gb378,1,none⟩) (Kd.V_far (p:=⟨gb378,0,none⟩) (Kd.V_mono HL371_0.out (fun k_ hk=>(⟨hk,hk.2.2⟩:_∧k_≠gb378))) (fun _ hk=>hk.2) (.slice Ao43 t373.length co43)) (fun _ hk=>hk.2) (.int .i64 t376)) (fun _ hk=>⟨hk.1.1,⟨hk.1.2.1,hk.1.2.2⟩⟩)⟩
   have n6_:Aside0 (Kd.V (Kd.int .i64) 3 ((w42.setCell ⟨gb378,0,none⟩ (.slice Ao43 t373.length co43)).setCell ⟨gb378,1,none⟩ (.int .i64 t376)) w.heap.size (fun k_=>((P0_ k_∨P1_ k_)∨w.heap.size≤k_)∧some k_≠(u9:Value).ownBlock∧k_≠gb378) (.slice A372_0 ((rd_T31 x1_1 0).f0).length c372_0) ((rd_T31 x1_1 0).f0)):=⟨by (with_reducible repeat (first|apply Kd.V_alloc|apply Kd.V_drewN|apply Kd.V_drew));exact Kd.V_mono (Kd.V_far (p:=⟨gb378,1,none⟩) (Kd.V_far (p:=⟨gb378,0,none⟩) (Kd.V_mono HL372_0.out (fun k_ hk=>(⟨hk,hk.2.2⟩:_∧k_≠gb378))) (fun _ hk=>hk.2) (.slice Ao43 t373.length co43)) (fun _ hk=>hk.2) (.int .i64 t376)) (fun _ hk=>⟨hk.1.1,⟨hk.1.2.1,hk.1.2.2⟩⟩)⟩
   have n7_:Aside0 (Kd.V (Kd.int .i64) 3 ((w42.setCell ⟨gb378,0,none⟩ (.slice Ao43 t373.length co43)).setCell ⟨gb378,1,none⟩ (.int .i64 t376)) w.heap.size (fun k_=>((P0_ k_∨P1_ k_)∨w.heap.size≤k_)∧some k_≠(u9:Value).ownBlock∧k_≠gb378) (.slice Ao43 t373.length co43) t373):=⟨by (with_reducible repeat (first|apply Kd.V_alloc|apply Kd.V_drewN|apply Kd.V_drew));exact Kd.V_mono (Kd.V_far (p:=⟨gb378,1,none⟩) (Kd.V_far (p:=⟨gb378,0,none⟩) (Kd.V_mono HO375.out (fun k_ hk=>(⟨hk,hk.2.2⟩:_∧k_≠gb378))) (fun _ hk=>hk.2) (.slice Ao43 t373.length co43)) (fun _ hk=>hk.2) (.int .i64 t376)) (fun _ hk=>⟨hk.1.1,⟨hk.1.2.1,hk.1.2.2⟩⟩)⟩
   have n8_:Aside0 (((w42.setCell ⟨gb378,0,none⟩ (.slice Ao43 t373.length co43)).setCell ⟨gb378,1,none⟩ (.int .i64 t376)).heap[gb378]?=some (.cells #[.slice Ao43 t373.length co43,.int .i64 t376] 31 (0,0))):=⟨by (with_reducible repeat (first|refine blk_drewN ?_ _|refine blk_drew ?_|refine blk_alloc ?_ _));refine blk_put (cs:=#[.slice Ao43 t373.length co43,.int .i64 0]) ?_ 1 _ rfl;(with_reducible repeat (first|refine blk_drewN ?_ _|refine blk_drew ?_|refine blk_alloc ?_ _));refine blk_put (cs:=#[.slice none 0 0,.int .i64 0]) ?_ 0 _ rfl;(with_reducible repeat (first|refine blk_drewN ?_ _|refine blk_drew ?_|refine blk_alloc ?_ _));exact BK378.out⟩
   have n9_:Aside0 (Below w.heap.size w ((w42.setCell ⟨gb378,0,none⟩ (.slice Ao43 t373.length co43)).setCell ⟨gb378,1,none⟩ (.int .i64 t376))):=⟨by repeat (first|(with_reducible first|exact HB.out|apply below_alloc|apply pw_below_drewN|apply below_drew1|refine below_set ?_ GE378.out)|exact HB.out)⟩
   (try clear HO_0)
   (try clear HO_1)
   (try clear HO_9)
   (try clear HL350_0)
   (try clear HL351_0)
   (try clear HL371_0)
   (try clear HL372_0)
   (try clear HO375)
   (try clear BK378)
   (try clear HB)
   generalize ((w42.setCell ⟨gb378,0,none⟩ (.slice Ao43 t373.length co43)).setCell ⟨gb378,1,none⟩ (.int .i64 t376))=w46 at n0_ n1_ n2_ n3_ n4_ n5_ n6_ n7_ n8_ n9_ ⊢
   have HO_0:=n0_
   have HO_1:=n1_
   have HO_9:=n2_
   have HL350_0:=n3_
   have HL351_0:=n4_
   have HL371_0:=n5_
   have HL372_0:=n6_
   have HO375:=n7_
   have BK378:=n8_
   have HB:=n9_
   clear n0_ n1_ n2_ n3_ n4_ n5_ n6_ n7_ n8_ n9_
   have hcz47_0:w46.cell? ⟨gb378,0,none⟩=some (.slice Ao43 t373.length co43):=(blk_cell BK378.out 0).trans rfl
   have hcz47_1:w46.cell? ⟨gb378,1,none⟩=some (.int .i64 t376):=(blk_cell BK378.out 1).trans rfl
   have hfz47_0:=blk_frozen BK378.out 0
   have hfz47_1:=blk_frozen BK378.out 1
   try go_wp2_with (first|((with_reducible refine gate_builtin (b:=.append) (xs:=#[.tmp 41,.tmp 43]) rfl ?_);(try (refine gate_guard (by rfl) ?_;dsimp only));at_builtin;refine Kd.N_append k31 (w0:=w) w.heap.size rfl (.tmp 41) (.tmp 43) 23 31 (.agg #[(.slice none 0 0),(.int .i64 0)]) 32 rfl Tryd.underlying23 info31 rfl (by decide) (by omega) u9 x9_1 (⟨t373,t376⟩:S31) [.slice Ao43 t373.length co43,.int .i64 t376] (fun k_=>((P0_ k_∨P1_ k_)∨w.heap.size≤k_)∧k_≠gb378) (fun k_=>((fun k_=>((P0_ k_∨P1_ k_)∨w.heap.size≤k_)∧k_≠gb378)) k_∧some k_≠(u9:Value).ownBlock) rfl rfl ?aP (fun _ hk=>hk) ?aF ?aO ?aB ?aS ?aL ?_;(case aP=>exact (k31_mkF _ _ (⟨t373,t376⟩:S31) (Kd.V_reads' (Kd.V_mono (ok':=(fun k_=>((fun k_=>((P0_ k_∨P1_ k_)∨w.heap.size≤k_)∧k_≠gb378)) k_∧some k_≠(u9:Value).ownBlock)) (HO375.out) (fun k_ hk=>⟨⟨hk.1,hk.2.2⟩,hk.2.1⟩))).2.1 (Kd.V_F (Kd.V_mono (ok':=(fun k_=>((fun k_=>((P0_ k_∨P1_ k_)∨w.heap.size≤k_)∧k_≠gb378)) k_∧some k_≠(u9:Value).ownBlock)) (HO375.out) (fun k_ hk=>⟨⟨hk.1,hk.2.2⟩,hk.2.1⟩)))));(case aB=>exact (by repeat (first|(with_reducible first|exact HB.out|apply below_alloc|apply pw_below_drewN|apply below_drew1|refine below_set ?_ GE378.out)|exact HB.out)));(case aF=>exact (fun k_ hk=>⟨(.inr (Nat.le_trans (below_size (by repeat (first|(with_reducible first|exact HB.out|apply below_alloc|apply pw_below_drewN|apply below_drew1|refine below_set ?_ GE378.out)|exact HB.out))) hk)),Kd.freshB (g:=gb378) (o:=.cells #[.slice Ao43 t373.length co43,.int .i64 t376] 31 (0,0)) (by (with_reducible repeat (first|refine blk_drewN ?_ _|refine blk_drew ?_|refine blk_alloc ?_ _));exact BK378.out) k_ hk⟩));(case aO=>exact (zN HO_9.out));(case aS=>exact (below_size (by repeat (first|(with_reducible first|exact HB.out|apply below_alloc|apply pw_below_drewN|apply below_drew1|refine below_set ?_ GE378.out)|exact HB.out))));(case aL=>have:=LMc32.out;omega);intro v380 w48 ho hb hg hat;rw [← Ny379.out] at ho;have n0_:=Aside0.mk (Kd.V_afterv (ok:=(fun k_=>((P0_ k_∨P1_ k_)∨w.heap.size≤k_)∧k_≠gb378)) (by (with_reducible repeat (first|apply Kd.V_alloc|apply Kd.V_drewN|apply Kd.V_drew));exact Kd.V_mono HO_0.out (fun _ hk=>⟨⟨hk.1,hk.2.2⟩,hk.2.1⟩)) hg hat);have n1_:=Aside0.mk (Kd.V_afterv (ok:=(fun k_=>((P0_ k_∨P1_ k_)∨w.heap.size≤k_)∧k_≠gb378)) (by (with_reducible repeat (first|apply Kd.V_alloc|apply Kd.V_drewN|apply Kd.V_drew));exact Kd.V_mono HO_1.out (fun _ hk=>⟨⟨hk.1,hk.2.2⟩,hk.2.1⟩)) hg hat);have n2_:=Aside0.mk (Kd.V_afterv (ok:=(fun k_=>((P0_ k_∨P1_ k_)∨w.heap.size≤k_)∧k_≠gb378)) (by (with_reducible repeat (first|apply Kd.V_alloc|apply Kd.V_drewN|apply Kd.V_drew));exact Kd.V_mono HL350_0.out (fun _ hk=>⟨⟨hk.1,hk.2.2⟩,hk.2.1⟩)) hg hat);have n3_:=Aside0.mk (Kd.V_afterv (ok:=(fun k_=>((P0_ k_∨P1_ k_)∨w.heap.size≤k_)∧k_≠gb378)) (by (with_reducible repeat (first|apply Kd.V_alloc|apply Kd.V_drewN|apply Kd.V_drew));exact Kd.V_mono HL351_0.out (fun _ hk=>⟨⟨hk.1,hk.2.2⟩,hk.2.1⟩)) hg hat);have n4_:=Aside0.mk (Kd.V_afterv (ok:=(fun k_=>((P0_ k_∨P1_ k_)∨w.heap.size≤k_)∧k_≠gb378)) (by (with_reducible repeat (first|apply Kd.V_alloc|apply Kd.V_drewN|apply Kd.V_drew));exact Kd.V_mono HL371_0.out (fun _ hk=>⟨⟨hk.1,hk.2.2⟩,hk.2.1⟩)) hg hat);have n5_:=Aside0.mk (Kd.V_afterv (ok:=(fun k_=>((P0_ k_∨P1_ k_)∨w.heap.size≤k_)∧k_≠gb378)) (by (with_reducible repeat (first|apply Kd.V_alloc|apply Kd.V_drewN|apply Kd.V_drew));exact Kd.V_mono HL372_0.out (fun _ hk=>⟨⟨hk.1,hk.2.2⟩,hk.2.1⟩)) hg hat);have n6_:=Aside0.mk (Kd.V_afterv (ok:=(fun k_=>((P0_ k_∨P1_ k_)∨w.heap.size≤k_)∧k_≠gb378)) (by (with_reducible repeat (first|apply Kd.V_alloc|apply Kd.V_drewN|apply Kd.V_drew));exact Kd.V_mono HO375.out (fun _ hk=>⟨⟨hk.1,hk.2.2⟩,hk.2.1⟩)) hg hat);have n7_:=Aside0.mk (blk_grown (g:=gb378) (o:=.cells #[.slice Ao43 t373.length co43,.int .i64 t376] 31 (0,0)) (by (with_reducible repeat (first|refine blk_drewN ?_ _|refine blk_drew ?_|refine blk_alloc ?_ _));exact BK378.out) hg (Kd.N_away HO_9.out (fun _ hk=>hk.2)));have n8_:=Aside0.mk (hb);have n9_:=Aside0.mk (ho);clear HO_0;clear HO_1;clear HL350_0;clear HL351_0;clear HL371_0;clear HL372_0;clear HO375;clear BK378;clear HB;clear HO_9;have HO_0:=n0_;have HO_1:=n1_;have HL350_0:=n2_;have HL351_0:=n3_;have HL371_0:=n4_;have HL372_0:=n5_;have HO375:=n6_;have BK378:=n7_;have HB:=n8_;have HO381:=n9_;clear n0_ n1_ n2_ n3_ n4_ n5_ n6_ n7_ n8_ n9_;clear ho hb hg hat))
   have n0_:=Aside0.mk (Kd.V_drew HO_0.out)
   have n1_:=Aside0.mk (Kd.V_drew HO_1.out)
   have n2_:=Aside0.mk (Kd.V_drew HL350_0.out)
   have n3_:=Aside0.mk (Kd.V_drew HL351_0.out)
   have n4_:=Aside0.mk (Kd.V_drew HL371_0.out)
   have n5_:=Aside0.mk (Kd.V_drew HL372_0.out)
   have n6_:=Aside0.mk (Kd.V_drew HO375.out)
   have n7_:=Aside0.mk (Kd.N_drew HO381.out)
   have n8_:=Aside0.mk (blk_drew BK378.out)
   have n9_:=Aside0.mk (below_drew1 HB.out)
   clear HO_0
   clear HO_1
   clear HL350_0
   clear HL351_0
   clear HL371_0
   clear HL372_0
   clear HO375
   clear HO381
   clear BK378
   clear HB
   have HO_0:=n0_
   have HO_1:=n1_
   have HL350_0:=n2_
   have HL351_0:=n3_
   have HL371_0:=n4_
   have HL372_0:=n5_
   have HO375:=n6_
   have HO381:=n7_
   have BK378:=n8_
   have HB:=n9_
   clear n0_ n1_ n2_ n3_ n4_ n5_ n6_ n7_ n8_ n9_
   have q50:(1:Int)≤((x0_1.length:Int):Int):=zod
   obtain ⟨i050,hi050,_,hsz50,_⟩:=info_parts info31
   have hroom50:x0_1.length≤co35:=(Kd.V_reads' HO_0.out).2.1
   have hC50:Kd.F k31 _ _ (some ad350) x0_1.length x0_1:=(Kd.V_at (base:=w.heap.size) HO_0.out).2.2
   have hcut50:=cut_from (P:=Tryd.prog) 23 31 .i64 Tryd.underlying23 hi050 2 hsz50 (some ad350) x0_1.length co35 1 (by omega) q50
   have hr50:=Kd.F_cut (m:=(1:Int).toNat) (c:=co35) hC50 (by omega) hroom50
   obtain ⟨A50,hA50⟩ : ∃ A1,A1=(if co35=(1:Int).toNat then (some ad350) else ((some ad350):Option Addr).map (·.add ((1:Int).toNat * 2))):=⟨_,rfl⟩
   obtain ⟨c50,hc50⟩ : ∃ c1,c1=co35 - (1:Int).toNat:=⟨_,rfl⟩
   have hy50:y382.length=x0_1.length - (1:Int).toNat:=(by rw [Ny382.out,List.length_drop] <;> omega)
   rw [show (x0_1).drop (1:Int).toNat=y382 from Ny382.out.symm] at hr50
   replace hr50:Kd.F k31 _ _ A50 y382.length y382:=(by rw [hA50];exact hr50)
   rw [← hy50,← hA50,← hc50] at hcut50
   have HO386:=Aside0.mk (show Kd.V k31 31 _ w.heap.size _ (.slice A50 y382.length c50) y382 from Kd.V_mk (by rw [hy50,hc50];exact Nat.sub_le_sub_right hroom50 _) hr50)
   have HC386:=Aside0.mk (show y382.length≤c50 from by rw [hy50,hc50];exact Nat.sub_le_sub_right hroom50 _)
   clear hr50 hC50 hroom50 hi050 hsz50 hc50
   have KY50:=Aside0.mk hy50
   have KA50:=Aside0.mk hA50
   clear hy50 hA50
   replace q50:=eq_true q50
   have q51:(1:Int)≤((x1_1.length:Int):Int):=zod
   obtain ⟨i051,hi051,_,hsz51,_⟩:=info_parts info31
   have hroom51:x1_1.length≤co36:=(Kd.V_reads' HO_1.out).2.1
   have hC51:Kd.F k31 _ _ (some ad351) x1_1.length x1_1:=(Kd.V_at (base:=w.heap.size) HO_1.out).2.2
   have hcut51:=cut_from (P:=Tryd.prog) 23 31 .i64 Tryd.underlying23 hi051 2 hsz51 (some ad351) x1_1.length co36 1 (by omega) q51
   have hr51:=Kd.F_cut (m:=(1:Int).toNat) (c:=co36) hC51 (by omega) hroom51
   obtain ⟨A51,hA51⟩ : ∃ A1,A1=(if co36=(1:Int).toNat then (some ad351) else ((some ad351):Option Addr).map (·.add ((1:Int).toNat * 2))):=⟨_,rfl⟩
   obtain ⟨c51,hc51⟩ : ∃ c1,c1=co36 - (1:Int).toNat:=⟨_,rfl⟩
   have hy51:y387.length=x1_1.length - (1:Int).toNat:=(by rw [Ny387.out,List.length_drop] <;> omega)
   rw [show (x1_1).drop (1:Int).toNat=y387 from Ny387.out.symm] at hr51
   replace hr51:Kd.F k31 _ _ A51 y387.length y387:=(by rw [hA51];exact hr51)
   rw [← hy51,← hA51,← hc51] at hcut51
   have HO391:=Aside0.mk (show Kd.V k31 31 _ w.heap.size _ (.slice A51 y387.length c51) y387 from Kd.V_mk (by rw [hy51,hc51];exact Nat.sub_le_sub_right hroom51 _) hr51)
   have HC391:=Aside0.mk (show y387.length≤c51 from by rw [hy51,hc51];exact Nat.sub_le_sub_right hroom51 _)
   clear hr51 hC51 hroom51 hi051 hsz51 hc51
   have KY51:=Aside0.mk hy51
   have KA51:=Aside0.mk hA51
   clear hy51 hA51
   replace q51:=eq_true q51
   refine start_ (n:=6) (S:=fun w'=>True) (ds:=[]) (zm 6 0) (by kernel_rfl) rfl rfl trivial (fun hHeld=>?_)
   generalize w48.drew=w49 at HO_0 HO_1 HL350_0 HL351_0 HL371_0 HL372_0 HO375 HO381 BK378 HB HO386 HO391 hHeld ⊢
   refine zpk 0 45 6 1 ?_
   refine zpk 1 46 6 3 ?_
   refine zpk 2 47 6 7 ?_
   refine zpk 3 48 6 15 ?_
   refine zpk 4 0 6 31 ?_
   refine zpk 5 1 6 63 ?_
   refine done_ (by kernel_rfl) ?_
   try go_wp2
   go_roundg k1
   case measure=>have:=HK1.out;omega
   case rel=>exact ⟨(y382),(y387),(y379),H',⟨by have:=HK1.out;omega⟩,⟨by (with_reducible repeat (first|apply Kd.V_alloc|apply Kd.V_drewN|apply Kd.V_drew));exact Kd.V_mono HO386.out (fun _ hk=>⟨hk.1.1,hk.2⟩)⟩,⟨by (with_reducible repeat (first|apply Kd.V_alloc|apply Kd.V_drewN|apply Kd.V_drew));exact Kd.V_mono HO391.out (fun _ hk=>⟨hk.1.1,hk.2⟩)⟩,⟨by (with_reducible repeat (first|apply Kd.N_alloc|apply Kd.N_drewN|apply Kd.N_drew));exact Kd.N_mono HO381.out (fun _ hk=>hk.1)⟩,⟨by repeat (first|(with_reducible first|exact HB.out|apply below_alloc|apply pw_below_drewN|apply below_drew1|refine below_set ?_ GE378.out)|exact HB.out)⟩⟩
end Go.Proofs.YtlknceioincaeaaDoor.PFnJoin
