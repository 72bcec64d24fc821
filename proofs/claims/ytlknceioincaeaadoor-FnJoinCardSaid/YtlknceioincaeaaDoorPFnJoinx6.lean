-- Written by wip/tools/pp.py, a program of this session over the kit's printer: not the kit's own print
import Derived.Test.YtlknceioincaeaaDoorPFnJoinx0
import Derived.Test.YtlknceioincaeaaDoorPFnJoinx5
namespace Go.Proofs.YtlknceioincaeaaDoor.PFnJoin
open Go.RowKit Go.Proofs.YtlknceioincaeaaDoorW.PrintWords Go.Proofs.YtlknceioincaeaaDoorW.PrintLast Go.Proofs.YtlknceioincaeaaDoorW.PrintMore
attribute [local go_sem] max2_int min2_int max_two min_two max_three min_three max_four min_four   -- for this text's walks alone
set_option linter.unusedVariables false
set_option linter.unusedSimpArgs false

/-! ### impl_isPlace: function 24 -/
def impl_isPlace.f (a0:Int) (a1:Int):Option (Bool):=if a0 ≥ 0 then (some (decide (a0 < (mn a1 6)))) else (some false)
set_option maxHeartbeats 8000000 in
set_option maxRecDepth 100000 in
theorem impl_isPlace.calls (a0:Int) (a1:Int) (r:Bool) (w:World) (h:impl_isPlace.f a0 a1=some r) :
  Calls Tryd.prog 24 #[.int .i64 a0,.int .i64 a1] w fun e w'=>e=.returned (.bool r)∧Below w.heap.size w w':=by
 have HB:=Aside0.mk (Below.refl w.heap.size w)
 have H:(if a0 ≥ 0 then (some (decide (a0 < (mn a1 6)))) else (some false))=some r:=h
 clear h
 by_cases c3:a0 ≥ 0
 ·rw [if_pos c3] at H
  have c3b0:decide (0≤a0)=true:=decide_eq_true c3
  clear c3
  obtain ⟨ji4,hji4⟩ : ∃ j_:Int,(mn a1 6)=j_:=⟨_,rfl⟩
  replace H:(some (decide (a0 < (ji4))))=some r:=by first|(rw [hji4] at H;exact H)|(simp only [hji4] at H ⊢;exact H)
  (try (have hji4h:ji4≤6:=by (rw [← hji4];unfold mn;(repeat' split) <;> omega)))
  (try (have hji4g:ji4≤64:=by omega))
  have hji4_:(if 6 < a1 then 6 else a1)=ji4:=hji4
  obtain rfl:=Option.some.inj H
  go_enter Tryd.func24,Tryd.ntmps24
  go_wp2
  go_ret
  exact ⟨by first|rfl|(simp [errW_none,errW_some] <;> rfl)|(simp only [← hji4];first|rfl|(simp [errW_none,errW_some] <;> rfl))|(simp [*,errW_none,errW_some] <;> rfl),zhb⟩
 ·rw [if_neg c3] at H
  have c3b0:decide (0≤a0)=false:=decide_eq_false c3
  clear c3
  obtain rfl:=Option.some.inj H
  go_enter Tryd.func24,Tryd.ntmps24
  go_wp2
  go_ret
  exact ⟨by first|rfl|(simp [errW_none,errW_some] <;> rfl)|(simp [*,errW_none,errW_some] <;> rfl),zhb⟩

/-! ### slices_Clone_int_int: function 61 (by hand) -/
def slices_Clone_int_int.f (l0:List Int):Option (List Int):=if l0.length < 17592186044416 then (some l0) else (none)
set_option maxHeartbeats 8000000 in
set_option maxRecDepth 100000 in
theorem slices_Clone_int_int.calls (A0:Option Addr) (c0:Nat) (l0:List Int) (r:List Int) (w:World) (hr0:Kd.C (Kd.int .i64) w A0 l0.length l0) (hc0:l0.length≤c0) (h:slices_Clone_int_int.f l0=some r) :
  Calls Tryd.prog 61 #[.slice A0 l0.length c0] w fun e w'=>∃ v0_:Value,e=.returned (v0_)∧Kd.R (Kd.int .i64) 3 w' w.heap.size (fun _=>True) v0_ r∧Below w.heap.size w w':=by
 unfold slices_Clone_int_int.f at h
 by_cases hl:l0.length < 17592186044416
 rotate_left
 ·rw [if_neg hl] at h
  cases h

 rw [if_pos hl] at h
 obtain rfl:=Option.some.inj h
 clear h
 have HL:=Aside0.mk hl
 clear hl
 have hnil:=fun (W:World)=>Lib.run_eql_slice_nil (P:=Tryd.prog) W 29 3 A0 l0.length c0 0 0 Tryd.underlying29
 cases A0 with
 | none =>
  have h0:l0 = []:=by
   obtain ⟨_,_,h3⟩:=hr0
   cases l0 with
   | nil=>rfl
   | cons x l=>obtain ⟨ad,h4,_⟩:=h3 (by simp);cases h4
  subst h0
  clear hr0 hc0 HL
  have hnil0:=fun (W:World)=>Lib.run_eql_slice_nil (P:=Tryd.prog) W 29 3 none 0 c0 0 0 Tryd.underlying29
  go_enter Tryd.func61,Tryd.ntmps61
  go_wp2
  go_ret
  exact ⟨_,rfl,Kd.R_nil _ _ _ _ _,Below.refl _ _⟩
 | some ad =>
  have HR0:=Aside0.mk hr0
  have HC0:=Aside0.mk hc0
  clear hr0 hc0
  have HB:=Aside0.mk (Below.refl w.heap.size w)
  go_enter Tryd.func61,Tryd.ntmps61
  go_wp2_with (first|((with_reducible refine gate_dst (N:=5) rfl ?_);refine Kd.R_lit (Kd.int .i64) _ 3 ?hg (N:=5) ?hd (xs:=([]:List Int)) (inner:=[]) (ok:=fun _=>True) (okp:=fun _=>True) ?hr ?hp (fun _ hk=>hk) trivial (Below.refl _ _) (Nat.le_refl _) (by simp) ?_;(case hd=>rfl);(case hg=>rfl);(case hr=>first|(go_simp;done)|(go_simp;rfl));(case hp=>exact (Reps.none _ _));intro v105 w3 ho4 hb hg_ hnew_;clear hg_ hnew_;have HO106:=Aside0.mk (Kd.R_lower ho4 (below_size HB.out));have n1_:=Aside0.mk (below_step HB.out hb);clear HB;have HB:=n1_;clear n1_;clear hb ho4)|((with_reducible refine gate_builtin (b:=.append) (xs:=#[.tmp 5,.tmp 6]) rfl ?_);at_builtin;refine Kd.R_append_rows (Kd.int .i64) (w0:=w) w.heap.size rfl (.tmp 5) (.tmp 6) 29 3 (.int .i64 0) 8 rfl Tryd.underlying29 info3 rfl (by decide) (by omega) v105 [] l0 _ _ _ (fun _=>True) (fun _=>False) rfl rfl ?aO ?aR (fun _ _ h=>h) (fun _ h=>h.elim) ?aF ?aB ?aS ?aL ?_;(case aR=>exact (Kd.C_below HR0.out HB.out));(case aB=>exact HB.out);(case aF=>exact (fun _ _=>trivial));(case aO=>exact HO106.out);(case aS=>exact (below_size HB.out));(case aL=>have:=HL.out;simp;omega);intro v108 w5 ho hb hg hat;rw [List.nil_append] at ho;have n0_:=Aside0.mk (hb);have n1_:=Aside0.mk (ho);clear HB;clear HO106;have HB:=n0_;have HO109:=n1_;clear n0_ n1_;clear ho hb hg hat))
  go_ret
  exact ⟨_,rfl,HO109.out,HB.out⟩
/-! ### impl_copyItems: function 35 -/
def impl_copyItems.l0:Nat→List (S31)→List (S31)→Int→Int→Option ((List (S31)))
 | 0,_,_,_,_=>none
 | k + 1,x3,x6,x7,x8=>if x8 < x7 then (if 0≤x8 then (if x8 < (x6.length:Int) then ((slices_Clone_int_int.f ((rd_T31 x6 x8).f0)).bind fun t246=>(if x3.length < 4398046511104 then (impl_copyItems.l0 k (x3 ++ [(⟨t246,(rd_T31 x6 x8).f1⟩:S31)]) x6 x7 (wrap64 (x8 + 1))) else (none))) else (none)) else (none)) else (some x3)
def impl_copyItems.f (k:Nat) (l0:List (S31)):Option ((List (S31))):=impl_copyItems.l0 k ([]:List (S31)) l0 (l0.length:Int) 0
theorem impl_copyItems.mono_l : ∀ k,(∀ y0 y1 y2 y3,LeO (impl_copyItems.l0 k y0 y1 y2 y3) (impl_copyItems.l0 (k + 1) y0 y1 y2 y3))
 | 0=>fun _ _ _ _ r h=>by simp [impl_copyItems.l0] at h
 | k + 1=>by
  have ih0:=impl_copyItems.mono_l k
  ·intro y0 y1 y2 y3
   unfold impl_copyItems.l0
   repeat' first
   | (with_reducible exact ih0 _ _ _ _)
   | (with_reducible exact LeO.refl _)
   | (with_reducible exact LeO.none _)
   | (with_reducible refine LeO.ite ?_ ?_)
   | (with_reducible refine LeO.bind ?_ (fun _=>?_))
   | exact LeO.none _
   | refine LeO.ite ?_ ?_
   | refine LeO.bind ?_ (fun _=>?_)
theorem impl_copyItems.mono : ∀ a0 k,LeO (impl_copyItems.f k a0) (impl_copyItems.f (k + 1) a0):=by
 intro a0 k
 have ih0:=impl_copyItems.mono_l k
 unfold impl_copyItems.f
 repeat' first
   | (with_reducible exact ih0 _ _ _ _)
   | (with_reducible exact LeO.refl _)
   | (with_reducible exact LeO.none _)
   | (with_reducible refine LeO.ite ?_ ?_)
   | (with_reducible refine LeO.bind ?_ (fun _=>?_))
   | exact LeO.none _
   | refine LeO.ite ?_ ?_
   | refine LeO.bind ?_ (fun _=>?_)
def impl_copyItems.T5:Bool × List (List Nat × List Nat):=(true,[([],[]),([],[]),([1],[1]),([2],[2]),([],[]),([4],[4]),([3,5],[3,5]),([6],[6]),([0,7,3],[0,7]),([8,8,0,1,2,3,4,5,6,7,8],[0,8])])
def impl_copyItems.B5:List Nat:=[0,0,2,6,0,16,62,126,255,511]
theorem impl_copyItems.tab5:rtab .any (opsOf Tryd.f35 5)=impl_copyItems.T5:=by kernel_rfl
theorem impl_copyItems.bits5:waitsOk impl_copyItems.T5.2 impl_copyItems.B5=true:=by kernel_rfl
set_option maxHeartbeats 8000000 in
set_option maxRecDepth 100000 in
theorem impl_copyItems.calls (k:Nat) (A0:Option Addr) (c0:Nat) (l0:List (S31)) (r:List (S31)) (w:World) (hr0:Kd.C k31 w A0 l0.length l0) (hc0:l0.length≤c0) (h:impl_copyItems.f k l0=some r) :
  Calls Tryd.prog 35 #[.slice A0 l0.length c0] w fun e w'=>∃ v0_:Value,e=.returned (v0_)∧Kd.S k31 31 w' w.heap.size (fun _=>True) v0_ r∧Below w.heap.size w w':=by
 have hu31:=Tryd.underlying31
 have HR0:=Aside0.mk hr0
 have HC0:=Aside0.mk hc0
 clear hr0 hc0
 have HB:=Aside0.mk (Below.refl w.heap.size w)
 have H:(impl_copyItems.l0 k ([]:List (S31)) l0 (l0.length:Int) 0)=some r:=h
 clear h
 have H':=Aside0.mk H
 clear H
 go_enter Tryd.func35,Tryd.ntmps35
 go_wp2
 go_loopg [3,8] k (fun kq v3 v8 w'=>∃ (x3_1:List (S31)) (x8_1:Int),v8=.int .i64 x8_1∧Aside0 (impl_copyItems.l0 kq x3_1 l0 (l0.length:Int) x8_1=some r)∧Aside0 (kq≤k)∧Aside0 (Kd.S k31 31 w' w.heap.size (fun _=>True) v3 x3_1)∧Aside0 (Below w.heap.size w w'))
 case atStart=>exact ⟨(([]:List (S31))),(0),(by first|rfl|(simp;done)|(simp [*];done)),H',⟨Nat.le_refl _⟩,⟨by first|exact Kd.S_nil _ _ _ _ _|exact Kd.N_nil _ _ _ _ _|exact Kd.V_nil _ _ _ _ _|exact Kd.Q_nil _ _ _ _ _|exact Kd.R_nil _ _ _ _ _⟩,⟨zhb⟩⟩
 case round =>
  clear H'
  obtain ⟨x3_1,x8_1,rfl,HA,HK1,HO_3,HB⟩:=hrel
  cases gk with
  | zero=>exact absurd HA.out (by simp [impl_copyItems.l0])
  | succ k1 =>
   have H:=HA.out
   clear HA
   simp only [impl_copyItems.l0] at H
   by_cases c2:x8_1 < (l0.length:Int)
   rotate_left
   ·rw [if_neg c2] at H
    have c2b0:decide (x8_1 < (l0.length:Int))=false:=decide_eq_false c2
    clear c2
    obtain rfl:=Option.some.inj H
    go_wp2
    go_ret
    exact ⟨_,by first|rfl|(simp [errW_none,errW_some] <;> rfl)|(simp [*,errW_none,errW_some] <;> rfl),by (with_reducible repeat (first|apply Kd.S_alloc|apply Kd.S_drewN|apply Kd.S_drew));exact HO_3.out,zhb⟩

   rw [if_pos c2] at H
   have c2b0:decide (x8_1 < (l0.length:Int))=true:=decide_eq_true c2
   clear c2
   by_cases c3:0≤x8_1
   rotate_left
   ·rw [if_neg c3] at H
    exact absurd H (by simp)
   rw [if_pos c3] at H
   have c3b0:decide (0≤x8_1)=true:=decide_eq_true c3
   clear c3
   by_cases c4:x8_1 < (l0.length:Int)
   rotate_left
   ·rw [if_neg c4] at H
    exact absurd H (by simp)
   rw [if_pos c4] at H
   have c4b0:decide (x8_1 < (l0.length:Int))=true:=decide_eq_true c4
   clear c4
   replace H:=Option.bind_eq_some_iff.mp H
   obtain ⟨t246,A50,H⟩:=H
   (try dsimp only at H)
   have A5:=Aside0.mk A50
   clear A50
   by_cases c6:x3_1.length < 4398046511104
   rotate_left
   ·rw [if_neg c6] at H
    exact absurd H (by simp)
   rw [if_pos c6] at H
   have LMc6:=Aside0.mk c6
   clear c6
   obtain ⟨y249,hy249⟩ : ∃ y_:List (S31),y_=(x3_1 ++ [(⟨t246,(rd_T31 l0 x8_1).f1⟩:S31)]):=⟨_,rfl⟩
   replace H:(impl_copyItems.l0 k1 y249 l0 (l0.length:Int) (wrap64 (x8_1 + 1)))=some r:=by first|(rw [hy249];with_reducible exact H)|(have H2_:=(Option.bind_some _ _).symm.trans H;rw [hy249];with_reducible exact H2_)|(have H2_:=(Option.bind_some _ _).symm.trans H;with_reducible exact H2_)|with_reducible exact H|(rw [hy249];exact H)|exact H
   have Ny249:=Aside0.mk hy249
   clear hy249
   have H':=Aside0.mk H
   clear H
   have p244:0≤(x8_1:Int):=zod
   have q244:x8_1 < (l0.length:Int):=zod
   obtain ⟨ad244,A244_0,c244_0,e244,hx244_0,hx244_1,hl244_0,hi244_0⟩:=at_T31 HR0.out x8_1 p244 q244
   cases e244
   replace hx244_0:=(HB.out.cell (World.block_lt_of_cell? w _ hx244_0)).trans hx244_0
   replace hx244_1:=(HB.out.cell (World.block_lt_of_cell? w _ hx244_1)).trans hx244_1
   have HR244_0:=Aside0.mk hi244_0
   have HC244_0:=Aside0.mk hl244_0
   clear hi244_0 hl244_0
   replace p244:=eq_true p244
   replace q244:=eq_true q244
   try go_wp2_with (first|((with_reducible refine gate_dst (N:=5) rfl ?_);refine box_event ?hg (N:=5) ?hd (cs:=#[.slice none 0 0,.int .i64 0]) (t:=31) ?hr ?_;(case hd=>rfl);(case hg=>rfl);(case hr=>first|(go_simp;done)|(go_simp;rfl));intro gb245 hg w7 hbox hb;have n0_:=Aside0.mk (Kd.S_below (Kd.S_elderB (by (with_reducible repeat (first|apply Kd.S_alloc|apply Kd.S_drewN|apply Kd.S_drew));exact HO_3.out) gb245 (Nat.le_of_eq hg.symm)) hb);have n1_:=Aside0.mk (below_step zhb hb);have n2_:=Aside0.mk (hbox);have n3_:=Aside0.mk ((by rw [hg];exact (below_size zhb):w.heap.size≤gb245));have n4_:=Aside0.mk ((by rw [hg];exact (below_size zhb):w.heap.size≤gb245));clear HO_3;clear HB;have HO_3:=n0_;have HB:=n1_;have BK245:=n2_;have GW245:=n3_;have GE245:=n4_;clear n0_ n1_ n2_ n3_ n4_;clear hb hbox hg;have hcz8_0:w7.cell? ⟨gb245,0,none⟩=some (.slice none 0 0):=(blk_cell BK245.out 0).trans rfl;have hcz8_1:w7.cell? ⟨gb245,1,none⟩=some (.int .i64 0):=(blk_cell BK245.out 1).trans rfl;have hfz8_0:=blk_frozen BK245.out 0;have hfz8_1:=blk_frozen BK245.out 1))
   have n0_:Aside0 (Kd.S k31 31 ((w7.setCell ⟨gb245,0,none⟩ (.slice A244_0 ((rd_T31 l0 x8_1).f0).length c244_0)).setCell ⟨gb245,1,none⟩ (.int .i64 ((rd_T31 l0 x8_1).f1))) w.heap.size (fun k_=>k_≠gb245) u3 x3_1):=⟨by (with_reducible repeat (first|apply Kd.S_alloc|apply Kd.S_drewN|apply Kd.S_drew));exact Kd.S_mono (Kd.S_far (p:=⟨gb245,1,none⟩) (Kd.S_far (p:=⟨gb245,0,none⟩) (Kd.S_mono HO_3.out (fun k_ hk=>(⟨hk,hk.2⟩:_∧k_≠gb245))) (fun _ hk=>hk.2) (.slice A244_0 ((rd_T31 l0 x8_1).f0).length c244_0)) (fun _ hk=>hk.2) (.int .i64 ((rd_T31 l0 x8_1).f1))) (fun _ hk=>hk.1.2)⟩
   have n1_:Aside0 (((w7.setCell ⟨gb245,0,none⟩ (.slice A244_0 ((rd_T31 l0 x8_1).f0).length c244_0)).setCell ⟨gb245,1,none⟩ (.int .i64 ((rd_T31 l0 x8_1).f1))).heap[gb245]?=some (.cells #[.slice A244_0 ((rd_T31 l0 x8_1).f0).length c244_0,.int .i64 ((rd_T31 l0 x8_1).f1)] 31 (0,0))):=⟨by (with_reducible repeat (first|refine blk_drewN ?_ _|refine blk_drew ?_|refine blk_alloc ?_ _));refine blk_put (cs:=#[.slice A244_0 ((rd_T31 l0 x8_1).f0).length c244_0,.int .i64 0]) ?_ 1 _ rfl;(with_reducible repeat (first|refine blk_drewN ?_ _|refine blk_drew ?_|refine blk_alloc ?_ _));refine blk_put (cs:=#[.slice none 0 0,.int .i64 0]) ?_ 0 _ rfl;(with_reducible repeat (first|refine blk_drewN ?_ _|refine blk_drew ?_|refine blk_alloc ?_ _));exact BK245.out⟩
   have n2_:Aside0 (Below w.heap.size w ((w7.setCell ⟨gb245,0,none⟩ (.slice A244_0 ((rd_T31 l0 x8_1).f0).length c244_0)).setCell ⟨gb245,1,none⟩ (.int .i64 ((rd_T31 l0 x8_1).f1)))):=⟨by repeat (first|(with_reducible first|exact HB.out|apply below_alloc|apply pw_below_drewN|apply below_drew1|refine below_set ?_ GE245.out)|exact HB.out)⟩
   (try clear HO_3)
   (try clear BK245)
   (try clear HB)
   generalize ((w7.setCell ⟨gb245,0,none⟩ (.slice A244_0 ((rd_T31 l0 x8_1).f0).length c244_0)).setCell ⟨gb245,1,none⟩ (.int .i64 ((rd_T31 l0 x8_1).f1)))=w9 at n0_ n1_ n2_ ⊢
   have HO_3:=n0_
   have BK245:=n1_
   have HB:=n2_
   clear n0_ n1_ n2_
   have n0_:=Aside0.mk (Kd.S_drew HO_3.out)
   have n1_:=Aside0.mk (blk_drew BK245.out)
   have n2_:=Aside0.mk (below_drew1 HB.out)
   clear HO_3
   clear BK245
   clear HB
   have HO_3:=n0_
   have BK245:=n1_
   have HB:=n2_
   clear n0_ n1_ n2_
   refine start_ (n:=10) (S:=fun w'=>w'.cell? ⟨gb245,0,none⟩=some (.slice A244_0 ((rd_T31 l0 x8_1).f0).length c244_0)∧w'.cell? ⟨gb245,1,none⟩=some (.int .i64 ((rd_T31 l0 x8_1).f1))) (ds:=[]) (zm 10 0) (by kernel_rfl) rfl rfl ⟨(blk_cell BK245.out 0).trans rfl,(blk_cell BK245.out 1).trans rfl⟩ (fun hHeld=>?_);refine with_tabW impl_copyItems.tab5 impl_copyItems.bits5 (fun HT_ HW_=>?_)
   generalize w9.drew=w10 at HO_3 BK245 HB hHeld ⊢
   refine zpu 0 12 10 1 ?_
   refine zpu 1 13 10 3 ?_
   refine zpu 4 16 10 19 ?_
   refine zta 2 14 10 23 ?_
   refine zta 5 17 10 55 ?_
   refine one_ (i:=3) (N:=some 15) (zm 10 63) rfl rfl (one_of HT_.out (by kernel_rfl)) (by decide) (fun K hK=>?_)
   refine goes_ Tryd.func61 (by kernel_rfl) rfl #[.slice A244_0 ((rd_T31 l0 x8_1).f0).length c244_0] (by rfl) rfl rfl zar ?_
   with_reducible refine (slices_Clone_int_int.calls _ _ ((rd_T31 l0 x8_1).f0) t246 _ ?side1 ?side2 A5.out).mono ?_
   (case side1=>exact zC (Kd.C_below HR244_0.out HB.out))
   (case side2=>exact HC244_0.out)
   rintro e w11 ⟨v247,rfl,ho0,hb⟩
   refine ⟨_,rfl,?_⟩
   have n0_:=Aside0.mk (Kd.S_elder' (by (with_reducible repeat (first|apply Kd.S_alloc|apply Kd.S_drewN|apply Kd.S_drew));exact HO_3.out) (Kd.R_base ho0) hb)
   have n1_:=Aside0.mk (Kd.R_lower ho0 (below_size (by repeat (first|(with_reducible first|exact HB.out|apply below_alloc|apply pw_below_drewN|apply below_drew1|refine below_set ?_ GE245.out)|exact HB.out))))
   have n2_:=Aside0.mk (blk_below (g:=gb245) (o:=.cells #[.slice A244_0 ((rd_T31 l0 x8_1).f0).length c244_0,.int .i64 ((rd_T31 l0 x8_1).f1)] 31 (0,0)) (by (with_reducible repeat (first|refine blk_drewN ?_ _|refine blk_drew ?_|refine blk_alloc ?_ _));exact BK245.out) hb)
   have n3_:=Aside0.mk (below_step (by repeat (first|(with_reducible first|exact HB.out|apply below_alloc|apply pw_below_drewN|apply below_drew1|refine below_set ?_ GE245.out)|exact HB.out)) hb)
   clear HO_3
   clear BK245
   clear HB
   have HO_3:=n0_
   have HO248:=n1_
   have BK245:=n2_
   have HB:=n3_
   clear n0_ n1_ n2_ n3_
   (try clear hb)
   (try clear hb2)
   (try clear hk)
   (try clear hi)
   (try clear ho0)
   obtain ⟨Ao12,co12,eo12⟩:=Kd.R_slice HO248.out
   (first|subst eo12|(injection eo12 with f1_ f2_ f3_;have f4_:=f1_.symm;have f5_:=f3_.symm;clear f1_ f2_ f3_;subst f4_;subst f5_))
   refine hK.out _ _ ⟨(blk_cell BK245.out 0).trans rfl,(blk_cell BK245.out 1).trans rfl⟩ (fun hHeld=>?_)
   clear hK K
   refine norm_ (a':=?_) ?_ ?_
   rotate_left
   ·show Act.put _ (some 15) _=_
    simp only [Act.put,zp1,zp2,zp3,i64_w,i32_w]
    rfl
   refine zpu 6 18 10 127 ?_
   refine one_ (i:=7) (N:=some 19) (zm 10 255) rfl rfl (one_of HT_.out (by kernel_rfl)) (by decide) (fun K hK=>?_)
   refine value_ (w1:=?_) (v:=?_) (by rfl) rfl ?_ ?_
   rotate_left 2
   ·go_simp
    constructor
    ·rfl
    rfl
   refine hK.out _ _ ⟨(blk_cell (blk_alloc BK245.out _) 0).trans rfl,(blk_cell (blk_alloc BK245.out _) 1).trans rfl⟩ (fun hHeld=>?_)
   clear hK K
   refine norm_ (a':=?_) ?_ ?_
   rotate_left
   ·show Act.put _ (some 19) _=_
    simp only [Act.put,zp1,zp2,zp3,i64_w,i32_w]
    rfl
   refine one_ (i:=8) (N:=some 20) (zm 10 511) rfl rfl (one_of HT_.out (by kernel_rfl)) (by decide) (fun K hK=>?_)
   refine Kd.S_append_step k31 (w0:=w) w.heap.size (by rfl) (.tmp 12) (.tmp 19) 23 31 (.agg #[(.slice none 0 0),(.int .i64 0)]) 32 rfl Tryd.underlying23 info31 rfl (by decide) (by omega) u3 x3_1 (⟨t246,(rd_T31 l0 x8_1).f1⟩:S31) [.slice Ao12 t246.length co12,.int .i64 ((rd_T31 l0 x8_1).f1)] (fun k_=>k_≠gb245) (fun k_=>some k_=(.slice Ao12 t246.length co12:Value).ownBlock) rfl rfl ?aP (fun k_ hk_=>((Kd.R_mono (ok':=fun k_=>((fun k_=>k_≠gb245)) k_∧some k_≠(u3:Value).ownBlock) (Kd.R_types (Kd.R_apart' (HO248.out) (Kd.S_typed HO_3.out) (by decide)) BK245.out (by decide)) (fun k_ hk=>⟨hk.2,hk.1.2⟩))).1 k_ hk_.symm) ?aF ?aO ?aB ?aS ?aL ?_
   (case aP=>exact k31_mkM _ _ _ (⟨t246,(rd_T31 l0 x8_1).f1⟩:S31) (Kd.R_mono (Kd.R_tight rfl (Kd.R_mono (ok':=fun k_=>((fun k_=>k_≠gb245)) k_∧some k_≠(u3:Value).ownBlock) (Kd.R_types (Kd.R_apart' (HO248.out) (Kd.S_typed HO_3.out) (by decide)) BK245.out (by decide)) (fun k_ hk=>⟨hk.2,hk.1.2⟩))) (fun _ h_=>h_)))
   (case aB=>exact (by repeat (first|(with_reducible first|exact HB.out|apply below_alloc|apply pw_below_drewN|apply below_drew1|refine below_set ?_ GE245.out)|exact HB.out)))
   (case aF=>exact (fun k_ hk=>Kd.freshB (g:=gb245) (o:=.cells #[.slice A244_0 ((rd_T31 l0 x8_1).f0).length c244_0,.int .i64 ((rd_T31 l0 x8_1).f1)] 31 (0,0)) (by (with_reducible repeat (first|refine blk_drewN ?_ _|refine blk_drew ?_|refine blk_alloc ?_ _));exact BK245.out) k_ hk))
   (case aO=>exact (by (with_reducible repeat (first|apply Kd.S_alloc|apply Kd.S_drewN|apply Kd.S_drew));exact Kd.S_mono HO_3.out (fun k_ hk=>⟨hk.1,fun e_=>hk.2 e_⟩)))
   (case aS=>exact (below_size (by repeat (first|(with_reducible first|exact HB.out|apply below_alloc|apply pw_below_drewN|apply below_drew1|refine below_set ?_ GE245.out)|exact HB.out))))
   (case aL=>have:=LMc6.out;omega)
   intro v250 w13 ho hb hg hat
   rw [← Ny249.out] at ho
   have n0_:=Aside0.mk (blk_grown (g:=gb245) (o:=.cells #[.slice A244_0 ((rd_T31 l0 x8_1).f0).length c244_0,.int .i64 ((rd_T31 l0 x8_1).f1)] 31 (0,0)) (by (with_reducible repeat (first|refine blk_drewN ?_ _|refine blk_drew ?_|refine blk_alloc ?_ _));exact BK245.out) hg (Kd.S_away HO_3.out (fun _ hk=>hk.1)))
   have n1_:=Aside0.mk (hb)
   have n2_:=Aside0.mk (ho)
   clear BK245
   clear HB
   clear HO_3
   clear HO248
   have BK245:=n0_
   have HB:=n1_
   have HO251:=n2_
   clear n0_ n1_ n2_
   clear ho hb hg hat
   refine hK.out _ _ ⟨(blk_cell BK245.out 0).trans rfl,(blk_cell BK245.out 1).trans rfl⟩ (fun hHeld=>?_)
   clear hK K
   refine norm_ (a':=?_) ?_ ?_
   rotate_left
   ·show Act.put _ (some 20) _=_
    simp only [Act.put,zp1,zp2,zp3,i64_w,i32_w]
    rfl
   refine zpu 9 3 10 1023 ?_
   refine done_ (done_of HT_.out (by kernel_rfl)) ?_
   try go_wp2
   go_roundg k1
   case measure=>have:=HK1.out;omega
   case rel=>exact ⟨(y249),(wrap64 (x8_1 + 1)),(by first|rfl|(simp;done)|(simp [*];done)),H',⟨by have:=HK1.out;omega⟩,⟨by (with_reducible repeat (first|apply Kd.S_alloc|apply Kd.S_drewN|apply Kd.S_drew));exact Kd.S_mono HO251.out (fun _ hk=>trivial)⟩,⟨by repeat (first|(with_reducible first|exact HB.out|apply below_alloc|apply pw_below_drewN|apply below_drew1|refine below_set ?_ GE245.out)|exact HB.out)⟩⟩
/-! ### impl_told: function 26 -/
def impl_told.f (k:Nat) (l0:List (S31)):Option ((List (S31)) × Bool):=(impl_ZOk.f k l0).bind fun t252=>(if t252=true then ((impl_copyItems.f k l0).bind fun t253=>(some (t253,true))) else (some (([]:List (S31)),false)))
theorem impl_told.mono : ∀ a0 k,LeO (impl_told.f k a0) (impl_told.f (k + 1) a0):=by
 intro a0 k
 unfold impl_told.f
 repeat' first
   | (with_reducible exact impl_ZOk.mono _ _)
   | (with_reducible exact impl_copyItems.mono _ _)
   | (with_reducible exact LeO.refl _)
   | (with_reducible exact LeO.none _)
   | (with_reducible refine LeO.ite ?_ ?_)
   | (with_reducible refine LeO.bind ?_ (fun _=>?_))
   | exact LeO.none _
   | refine LeO.ite ?_ ?_
   | refine LeO.bind ?_ (fun _=>?_)
set_option maxHeartbeats 8000000 in
set_option maxRecDepth 100000 in
theorem impl_told.calls (k:Nat) (A0:Option Addr) (c0:Nat) (l0:List (S31)) (r1:List (S31)) (r2:Bool) (w:World) (hr0:Kd.C k31 w A0 l0.length l0) (hc0:l0.length≤c0) (h:impl_told.f k l0=some (r1,r2)) :
  Calls Tryd.prog 26 #[.slice A0 l0.length c0] w fun e w'=>∃ v0_:Value,e=.returned (.tuple #[v0_,.bool r2])∧Kd.S k31 31 w' w.heap.size (fun _=>True) v0_ r1∧Below w.heap.size w w':=by
 have HR0:=Aside0.mk hr0
 have HC0:=Aside0.mk hc0
 clear hr0 hc0
 have HB:=Aside0.mk (Below.refl w.heap.size w)
 have H:((impl_ZOk.f k l0).bind fun t252=>(if t252=true then ((impl_copyItems.f k l0).bind fun t253=>(some (t253,true))) else (some (([]:List (S31)),false))))=some (r1,r2):=h
 clear h
 replace H:=Option.bind_eq_some_iff.mp H
 obtain ⟨t252,A20,H⟩:=H
 (try dsimp only at H)
 have A2:=Aside0.mk A20
 clear A20
 by_cases c3:t252=true
 rotate_left
 ·replace c3:=Bool.eq_false_iff.mpr c3
  subst c3
  have H1:(some (([]:List (S31)),false))=some (r1,r2):=by rw [if_neg (show ¬ (false=true) by decide)] at H;exact H
  clear H
  have H:=H1
  clear H1
  simp only [Option.some.injEq,Prod.mk.injEq] at H
  obtain ⟨rfl,rfl⟩:=H
  go_enter Tryd.func26,Tryd.ntmps26
  go_wp2_with (first|((with_reducible refine gate_callee (f:=23) rfl ?_);refine goesL_ (some 5) rfl rfl Tryd.func23 (by kernel_rfl) rfl #[.slice A0 l0.length c0] rfl zar ?_;(with_reducible refine (impl_ZOk.calls k _ _ l0 false _ ?side1 ?side2 A2.out).mono ?_);(case side1=>exact zC HR0.out);(case side2=>exact HC0.out);rintro e w7 ⟨rfl,hb⟩;refine ⟨_,rfl,?_⟩;have n0_:=Aside0.mk (below_step zhb hb);clear HB;have HB:=n0_;clear n0_;(try clear hb);(try clear hb2);(try clear hk);(try clear hi)))
  go_ret2
  exact ⟨_,by first|rfl|(simp [errW_none,errW_some] <;> rfl)|(simp [*,errW_none,errW_some] <;> rfl),by first|exact Kd.S_nil _ _ _ _ _|exact Kd.N_nil _ _ _ _ _|exact Kd.V_nil _ _ _ _ _|exact Kd.Q_nil _ _ _ _ _|exact Kd.R_nil _ _ _ _ _,zhb⟩

 subst c3
 have H1:((impl_copyItems.f k l0).bind fun t253=>(some (t253,true)))=some (r1,r2):=by rw [if_pos rfl] at H;exact H
 clear H
 have H:=H1
 clear H1
 replace H:=Option.bind_eq_some_iff.mp H
 obtain ⟨t253,A40,H⟩:=H
 (try dsimp only at H)
 have A4:=Aside0.mk A40
 clear A40
 simp only [Option.some.injEq,Prod.mk.injEq] at H
 obtain ⟨rfl,rfl⟩:=H
 go_enter Tryd.func26,Tryd.ntmps26
 go_wp2_with (first|((with_reducible refine gate_callee (f:=23) rfl ?_);refine goesL_ (some 5) rfl rfl Tryd.func23 (by kernel_rfl) rfl #[.slice A0 l0.length c0] rfl zar ?_;(with_reducible refine (impl_ZOk.calls k _ _ l0 true _ ?side1 ?side2 A2.out).mono ?_);(case side1=>exact zC HR0.out);(case side2=>exact HC0.out);rintro e w5 ⟨rfl,hb⟩;refine ⟨_,rfl,?_⟩;have n0_:=Aside0.mk (below_step zhb hb);clear HB;have HB:=n0_;clear n0_;(try clear hb);(try clear hb2);(try clear hk);(try clear hi))|((with_reducible refine gate_callee (f:=35) rfl ?_);refine goesL_ (some 8) rfl rfl Tryd.func35 (by kernel_rfl) rfl #[.slice A0 l0.length c0] rfl zar ?_;(with_reducible refine (impl_copyItems.calls k _ _ l0 t253 _ ?side1 ?side2 A4.out).mono ?_);(case side1=>exact zC (Kd.C_below HR0.out HB.out));(case side2=>exact HC0.out);rintro e w6 ⟨v254,rfl,ho0,hb⟩;refine ⟨_,rfl,?_⟩;have n0_:=Aside0.mk (Kd.S_lower ho0 (below_size zhb));have n1_:=Aside0.mk (below_step zhb hb);clear HB;have HO255:=n0_;have HB:=n1_;clear n0_ n1_;(try clear hb);(try clear hb2);(try clear hk);(try clear hi);(try clear ho0)))
 go_ret2
 exact ⟨_,by first|rfl|(simp [errW_none,errW_some] <;> rfl)|(simp [*,errW_none,errW_some] <;> rfl),by (with_reducible repeat (first|apply Kd.S_alloc|apply Kd.S_drewN|apply Kd.S_drew));exact HO255.out,zhb⟩
/-! ### impl_RowText: function 77 (by hand) -/
theorem tab_on {P:Program} {w w':World} {nm:String} {k:IntKind} {zs:List Int} (h:Lib.TabIs P w nm k zs) (hb:Below w.heap.size w w'):Lib.TabIs P w' nm k zs:=Lib.tabBelow_of_tabIs h w' hb
theorem var_on {P:Program} {w w':World} {nm:String} {cs:Array Value} (h:w.var? P nm=some cs) (hb:Below w.heap.size w w'):w'.var? P nm=some cs:=by
 unfold World.var? at *
 cases hg:P.globalNamed nm with
 | none=>simp [hg] at h
 | some g =>
  simp only [hg,Option.bind_some] at h ⊢
  have hlt:g < w.heap.size:=by
   rcases Nat.lt_or_ge g w.heap.size with h'|h'
   ·exact h'
   ·rw [Array.getElem?_eq_none h'] at h;simp at h
  rw [hb.block g hlt]
  exact h
/-- what strings.Cut and strings.Split want of internal/bytealg.MaxLen, where they are used (MAXLEN in the law's env; else nothing) -/
def MaxW (w:World):Prop:=w=w
theorem MaxW.on {w w':World} (h:MaxW w) (hb:Below w.heap.size w w'):MaxW w':=by
 unfold MaxW at *
 first|rfl|(obtain ⟨m,hm⟩:=h;exact ⟨m,(hb.cell (World.block_lt_of_cell? _ _ hm)).trans hm⟩)
/-- what the texts' functions find in the library's variables -/
def TxtW (w : World) : Prop := Lib.TabIs Tryd.prog w "internal/strconv.uint64pow10" .u64 Lib.pow10Tab ∧ (∃ tp p, w.var? Tryd.prog "strconv.ErrSyntax" = some #[.iface tp p]) ∧ (∃ tp p, w.var? Tryd.prog "strconv.ErrRange" = some #[.iface tp p]) ∧ MaxW w
theorem TxtW.tab {w : World} (h : TxtW w) : Lib.TabIs Tryd.prog w "internal/strconv.uint64pow10" .u64 Lib.pow10Tab := h.1
theorem TxtW.on {w w':World} (h:TxtW w) (hb:Below w.heap.size w w'):TxtW w':=by
 obtain ⟨h1,⟨t1,p1,h2⟩,⟨t2,p2,h3⟩,h4⟩:=h
 exact ⟨Lib.tabBelow_of_tabIs h1 w' hb,⟨t1,p1,var_on h2 hb⟩,⟨t2,p2,var_on h3 hb⟩,h4.on hb⟩
/-- a row's text: the numerals, with a comma between -/
def tailB (l:List Int):List UInt8:=(l.map (fun x=>44 :: Lib.itoa x)).flatten
def rowB:List Int→List UInt8
 | []=>[]
 | x :: l=>Lib.itoa x ++ tailB l
theorem rowB_snoc (l:List Int) (x:Int):rowB (l ++ [x])=rowB l ++ ((if l = [] then [] else [44]) ++ Lib.itoa x):=by
 cases l with
 | nil=>simp [rowB,tailB]
 | cons y l=>simp [rowB,tailB,List.append_assoc]
def okI (x:Int):Bool:=decide (-9223372036854775808≤x) && decide (x≤9223372036854775807)
theorem okI_iff {x:Int}:okI x=true ↔ (-9223372036854775808≤x∧x≤9223372036854775807):=by unfold okI;simp
theorem tailB_len (l:List Int) (h : ∀ x ∈ l,okI x=true):(tailB l).length≤22 * l.length:=by
 induction l with
 | nil=>simp [tailB]
 | cons x l ih =>
  have h1:=okI_iff.1 (h x List.mem_cons_self)
  have h2:=Lib.itoa_length_le x h1.1 h1.2
  have h3:=ih (fun y hy=>h y (List.mem_cons_of_mem _ hy))
  have e:(tailB (x :: l)).length=1 + (Lib.itoa x).length + (tailB l).length:=by simp [tailB];omega
  rw [e,List.length_cons]
  omega
theorem rowB_len (l:List Int) (h : ∀ x ∈ l,okI x=true):(rowB l).length≤22 * l.length:=by
 cases l with
 | nil=>simp [rowB]
 | cons x l =>
  have h1:=okI_iff.1 (h x List.mem_cons_self)
  have h2:=Lib.itoa_length_le x h1.1 h1.2
  have h3:=tailB_len l (fun y hy=>h y (List.mem_cons_of_mem _ hy))
  rw [rowB,List.length_append,List.length_cons]
  omega
def impl_RowText.f (l0:List Int):Option ByteArray:=if l0.length≤1048576 then (if l0.all okI=true then some ⟨(rowB l0).toArray⟩ else none) else none
theorem intOf_k (k:Nat):(intOf (.int .i64 (k:Int))).toNat=k:=by simp [intOf]
theorem infoByte:(Tryd.prog.info? 5).map (fun i=>(i.zero,i.size,i.bytes))=some (some (.int .u8 0),1,1):=by kernel_rfl
set_option maxHeartbeats 8000000 in
set_option maxRecDepth 100000 in
theorem impl_RowText.calls (A0 : Option Addr) (c0 : Nat) (l0 : List Int) (r : ByteArray) (w : World) (hr0 : Kd.C (Kd.int .i64) w A0 l0.length l0) (hc0 : l0.length ≤ c0) (h : impl_RowText.f l0 = some r) (hT : Lib.TabIs Tryd.prog w "internal/strconv.uint64pow10" .u64 Lib.pow10Tab := by first | exact TxtW.tab (TxtW.on HT0.out zhb) | exact tab_on HT0.out zhb) :
  Calls Tryd.prog 77 #[.slice A0 l0.length c0] w fun e w'=>e=.returned (.string r)∧Below w.heap.size w w':=by
 unfold impl_RowText.f at h
 by_cases hl:l0.length≤1048576
 case neg=>rw [if_neg hl] at h;cases h
 rw [if_pos hl] at h
 by_cases ha:l0.all okI=true
 case neg=>rw [if_neg ha] at h;cases h
 rw [if_pos ha] at h
 obtain rfl:=Option.some.inj h
 clear h
 have hok : ∀ x ∈ l0,okI x=true:=List.all_eq_true.1 ha
 obtain ⟨i0,hi,hz0,hz1,hz2⟩:=info_parts infoByte
 have HR:=Aside0.mk hr0
 have HL:=Aside0.mk hl
 have HOK:=Aside0.mk hok
 have HTB:=Aside0.mk (Lib.tabBelow_of_tabIs hT)
 clear hr0 hl hok ha hT hc0
 go_enter Tryd.func77,Tryd.ntmps77
 go_wp2
 go_loopw [3,8] (fun v i wr=>∃ k:Nat,k≤l0.length∧i=.int .i64 k∧wr.ownsRow w.heap.size 5 1 v (rowB (l0.take k)).length (Lib.byteCells (rowB (l0.take k)))∧Below w.heap.size w wr)
  (fun _ i _=>l0.length - (intOf i).toNat)
 case atStart=>exact ⟨0,Nat.zero_le _,rfl,World.ownsRow_nil _ _ _ _,Below.refl _ _⟩
 case round =>
  obtain ⟨k,hk,rfl,hown,hnx⟩:=hrel
  have HOW:=Aside0.mk hown
  have HNX:=Aside0.mk hnx
  clear hown hnx
  by_cases hlt:k < l0.length
  case neg =>
   have hkl:k=l0.length:=by omega
   have f0:decide ((k:Int) < (l0.length:Int))=false:=decide_eq_false (by omega)
   have f1:decide (k < l0.length)=false:=decide_eq_false (by omega)
   subst hkl
   have hown:=HOW.out
   rw [List.take_length] at hown
   obtain ⟨l,hl⟩ : ∃ l,l=rowB l0:=⟨_,rfl⟩
   rw [← hl] at hown
   have HLL:=Aside0.mk hl
   clear hl HOW hk hlt
   rcases hown.2 with ⟨hv,h0⟩|⟨g,cap,cur,rfl,-,-,-,-,-,-⟩
   ·subst hv
    have h1:=hown.1
    have e1:l = []:=List.eq_nil_of_length_eq_zero (by omega)
    subst e1
    have hcv:=run_convert_bytes_nil (P:=Tryd.prog) wr 22 5 Tryd.underlying22 Tryd.underlying5 0 0 9 Tryd.underlying9
    clear hown h0 h1
    go_wp2
    go_ret
    refine ⟨?_,HNX.out⟩
    rw [← HLL.out]
    rfl
   have hcv:=run_convert_bytes_back (P:=Tryd.prog) wr 22 9 5 ⟨g,0,none⟩ cap l Tryd.underlying22 Tryd.underlying5 Tryd.underlying9 (fun j hj=>hown.cells (g:=g) rfl j _ (by simp [Lib.byteCells,hj]))
   clear hown
   go_wp2
   go_ret
   have hl:=HLL.out
   subst hl
   exact ⟨rfl,HNX.out⟩
  have f0:decide ((k:Int) < (l0.length:Int))=true:=decide_eq_true (by omega)
  have f1:decide (k < l0.length)=true:=decide_eq_true (by omega)
  obtain ⟨ad,rfl,hcell⟩:=Kd.at_int HR.out (k:Int) (by omega) (by omega)
  obtain ⟨x,hx⟩ : ∃ x,x=rd l0 (k:Int):=⟨_,rfl⟩
  rw [← hx] at hcell
  have hxl:x=l0[k]:=by rw [hx];show l0.getD k 0=_;rw [List.getD_eq_getElem?_getD,List.getElem?_eq_getElem hlt];rfl
  have hxo:=okI_iff.1 (HOK.out x (by rw [hxl];exact List.getElem_mem hlt))
  have hcell1:wr.cell? (ad.add k)=some (.int .i64 x):=by
   have h1:=HNX.out.cell (World.block_lt_of_cell? _ _ hcell)
   exact h1.trans hcell
  have HX:=Aside0.mk hxl
  have HXO:=Aside0.mk hxo
  clear hcell hx hxl hxo
  have HLT:=Aside0.mk hlt
  have HK:=Aside0.mk (show (rowB (l0.take k)).length≤22 * k by
   have h1:=rowB_len (l0.take k) (fun y hy=>HOK.out y (List.mem_of_mem_take hy))
   rw [List.length_take] at h1
   omega)
  have HE:=Aside0.mk (show rowB (l0.take (k + 1))=rowB (l0.take k) ++ ((if l0.take k = [] then [] else [44]) ++ Lib.itoa x) by
   rw [List.take_succ_eq_append_getElem hlt,← HX.out,rowB_snoc])
  have HS:=Aside0.mk (HNX.out.size)
  have HW:=Aside0.mk (show wrap64 ((k:Int) + 1)=((k + 1:Nat):Int) by have:=HL.out;unfold wrap64;omega)
  clear HX
  by_cases h0:k=0
  ·have g0:decide (0 < (k:Int))=false:=decide_eq_false (by omega)
   have g1:decide (0 < k)=false:=decide_eq_false (by omega)
   have H0:=Aside0.mk h0
   clear h0 hk
   go_wp2_with (go_at_call 88;refine (Tryd.strconv_AppendInt_10 w.heap.size _ x HXO.out.1 HXO.out.2 u3 _ wr HOW.out HS.out (by have:=HL.out;have:=HLT.out;have:=HK.out;omega) (HTB.out.on HNX.out)).mono ?_;rintro e w1 ⟨v1,rfl,hown1,hnx1,-⟩;refine Hid.out ?_)
   refine Lib.hid ?_
   have HOW1:=Aside0.mk hown1
   have HNX1:=Aside0.mk (HNX.out.trans hnx1)
   clear hown1 hnx1
   go_wp2
   go_roundw
   case rel =>
    refine ⟨k + 1,HLT.out,by rw [HW.out],?_,HNX1.out⟩
    have h1:=HOW1.out
    have e0:l0.take k = []:=by rw [H0.out];rfl
    rw [HE.out,if_pos e0,List.nil_append,e0]
    rw [e0,← Lib.byteCells_append,← List.length_append] at h1
    exact h1
   case measure=>have:=HLT.out;rw [HW.out];simp only [intOf];omega
  have g0:decide (0 < (k:Int))=true:=decide_eq_true (by omega)
  have g1:decide (0 < k)=true:=decide_eq_true (by omega)
  have H0:=Aside0.mk h0
  clear h0 hk
  go_wp2_with (at_builtin;refine wpList_append_own _ rfl _ _ 22 rfl w.heap.size 5 i0 (.int .u8 0) 1 1 Tryd.underlying22 hi hz0 hz1 hz2 rfl (by decide) _ _ _ rfl (HOW.out.alloc _) ⟨wr.heap.size,0,none⟩ 1 1 [Value.int .u8 44] rfl rfl (by intro j u' hj;match j,hj with|0,hj=>simp at hj;subst hj;simp [Addr.add]) (by intro u' hu';simp at hu';subst hu';rfl) (by have:=HL.out;have:=HLT.out;have:=HK.out;unfold maxLen;omega) (by have:=HL.out;have:=HLT.out;have:=HK.out;omega) (by have:=HS.out;simp;omega) ?_)
  intro v2 w2 hown2 hgrow _
  have hnx2:Below w.heap.size w w2:=(HNX.out.alloc (by have:=HS.out;omega) _).grown hgrow (by have:=HS.out;simp;omega) (fun k_ hk_=>(HOW.out.lt k_ hk_).1)
  have HOW2:=Aside0.mk hown2
  have HNX2:=Aside0.mk hnx2
  clear hown2 hgrow hnx2
  go_wp2_with (go_at_call 88;refine (Tryd.strconv_AppendInt_10 w.heap.size _ x HXO.out.1 HXO.out.2 v2 _ w2 HOW2.out HNX2.out.size (by have:=HL.out;have:=HLT.out;have:=HK.out;omega) (HTB.out.on HNX2.out)).mono ?_;rintro e w1 ⟨v1,rfl,hown1,hnx1,-⟩;refine Hid.out ?_)
  refine Lib.hid ?_
  have HOW1:=Aside0.mk hown1
  have HNX1:=Aside0.mk (HNX2.out.trans hnx1)
  clear hown1 hnx1
  go_wp2
  go_roundw
  case rel =>
   refine ⟨k + 1,HLT.out,by rw [HW.out],?_,HNX1.out⟩
   have h1:=HOW1.out
   have e0:l0.take k≠[]:=by
    intro e
    have:=congrArg List.length e
    rw [List.length_take] at this
    have h2:=H0.out;have h3:=HLT.out
    rw [List.length_nil] at this
    omega
   rw [HE.out,if_neg e0,← List.append_assoc,Lib.byteCells_append,Lib.byteCells_append,List.length_append,List.length_append]
   exact h1
  case measure=>have:=HLT.out;rw [HW.out];simp only [intOf];omega

end Go.Proofs.YtlknceioincaeaaDoor.PFnJoin
