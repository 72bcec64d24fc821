-- Written by wip/tools/pp.py, a program of this session over the kit's printer: not the kit's own print
import Derived.Test.YtgcplipimcbhlaaGreatDoorPFnZReadx0
import Derived.Test.YtgcplipimcbhlaaGreatDoorPFnZReadx4
import Derived.Test.YtgcplipimcbhlaaGreatDoorPFnZReadx5
import Derived.Test.YtgcplipimcbhlaaGreatDoorPFnZReadx9
namespace Go.Proofs.YtgcplipimcbhlaaGreatDoor.PFnZRead
open Go.RowKit Go.Proofs.YtgcplipimcbhlaaGreatDoorW.PrintWords Go.Proofs.YtgcplipimcbhlaaGreatDoorW.PrintLast Go.Proofs.YtgcplipimcbhlaaGreatDoorW.PrintMore
attribute [local go_sem] max2_int min2_int max_two min_two max_three min_three max_four min_four   -- for this text's walks alone
set_option linter.unusedVariables false
set_option linter.unusedSimpArgs false

/-! ### impl_copyItems: function 62 -/
def impl_copyItems.l0:Nat→List (S33)→List (S33)→Int→Int→Option ((List (S33)))
 | 0,_,_,_,_=>none
 | k + 1,x3,x6,x7,x8=>if x8 < x7 then (if 0≤x8 then (if x8 < (x6.length:Int) then ((slices_Clone_int_int.f ((rd_T33 x6 x8).f0)).bind fun t241=>(if x3.length < 4398046511104 then (impl_copyItems.l0 k (x3 ++ [(⟨t241,(rd_T33 x6 x8).f1⟩:S33)]) x6 x7 (wrap64 (x8 + 1))) else (none))) else (none)) else (none)) else (some x3)
def impl_copyItems.f (k:Nat) (l0:List (S33)):Option ((List (S33))):=impl_copyItems.l0 k ([]:List (S33)) l0 (l0.length:Int) 0
theorem impl_copyItems.mono_l : ∀ k,(∀ y0 y1 y2 y3,LeO (impl_copyItems.l0 k y0 y1 y2 y3) (impl_copyItems.l0 (k + 1) y0 y1 y2 y3))
 | 0=>fun _ _ _ _ r h=>by simp [impl_copyItems.l0] at h
 | k + 1=>by
  have ih0:=impl_copyItems.mono_l k
  ·intro y0 y1 y2 y3
   unfold impl_copyItems.l0
   repeat' first
   | (with_reducible exact ih0 _ _ _ _)
   | (with_reducible exact LeO.refl _)
   | (with_reducible exact LeO.none _)
   | (with_reducible refine LeO.ite ?_ ?_)
   | (with_reducible refine LeO.bind ?_ (fun _=>?_))
   | exact LeO.none _
   | refine LeO.ite ?_ ?_
   | refine LeO.bind ?_ (fun _=>?_)
theorem impl_copyItems.mono : ∀ a0 k,LeO (impl_copyItems.f k a0) (impl_copyItems.f (k + 1) a0):=by
 intro a0 k
 have ih0:=impl_copyItems.mono_l k
 unfold impl_copyItems.f
 repeat' first
   | (with_reducible exact ih0 _ _ _ _)
   | (with_reducible exact LeO.refl _)
   | (with_reducible exact LeO.none _)
   | (with_reducible refine LeO.ite ?_ ?_)
   | (with_reducible refine LeO.bind ?_ (fun _=>?_))
   | exact LeO.none _
   | refine LeO.ite ?_ ?_
   | refine LeO.bind ?_ (fun _=>?_)
def impl_copyItems.T5:Bool × List (List Nat × List Nat):=(true,[([],[]),([],[]),([1],[1]),([2],[2]),([],[]),([4],[4]),([3,5],[3,5]),([6],[6]),([0,7,3],[0,7]),([8,8,0,1,2,3,4,5,6,7,8],[0,8])])
def impl_copyItems.B5:List Nat:=[0,0,2,6,0,16,62,126,255,511]
theorem impl_copyItems.tab5:rtab .any (opsOf Tryz.f62 5)=impl_copyItems.T5:=by kernel_rfl
theorem impl_copyItems.bits5:waitsOk impl_copyItems.T5.2 impl_copyItems.B5=true:=by kernel_rfl
set_option maxHeartbeats 8000000 in
set_option maxRecDepth 100000 in
theorem impl_copyItems.calls (k:Nat) (A0:Option Addr) (c0:Nat) (l0:List (S33)) (r:List (S33)) (w:World) (hr0:Kd.C k33 w A0 l0.length l0) (hc0:l0.length≤c0) (h:impl_copyItems.f k l0=some r) :
  Calls Tryz.prog 62 #[.slice A0 l0.length c0] w fun e w'=>∃ v0_:Value,e=.returned (v0_)∧Kd.S k33 33 w' w.heap.size (fun _=>True) v0_ r∧Below w.heap.size w w':=by
 have hu33:=Tryz.underlying33
 have HR0:=Aside0.mk hr0
 have HC0:=Aside0.mk hc0
 clear hr0 hc0
 have HB:=Aside0.mk (Below.refl w.heap.size w)
 have H:(impl_copyItems.l0 k ([]:List (S33)) l0 (l0.length:Int) 0)=some r:=h
 clear h
 have H':=Aside0.mk H
 clear H
 go_enter Tryz.func62,Tryz.ntmps62
 go_wp2
 go_loopg [3,8] k (fun kq v3 v8 w'=>∃ (x3_1:List (S33)) (x8_1:Int),v8=.int .i64 x8_1∧Aside0 (impl_copyItems.l0 kq x3_1 l0 (l0.length:Int) x8_1=some r)∧Aside0 (kq≤k)∧Aside0 (Kd.S k33 33 w' w.heap.size (fun _=>True) v3 x3_1)∧Aside0 (Below w.heap.size w w'))
 case atStart=>exact ⟨(([]:List (S33))),(0),(by first|rfl|(simp;done)|(simp [*];done)),H',⟨Nat.le_refl _⟩,⟨by first|exact Kd.S_nil _ _ _ _ _|exact Kd.N_nil _ _ _ _ _|exact Kd.V_nil _ _ _ _ _|exact Kd.Q_nil _ _ _ _ _|exact Kd.R_nil _ _ _ _ _⟩,⟨zhb⟩⟩
 case round =>
  clear H'
  obtain ⟨x3_1,x8_1,rfl,HA,HK1,HO_3,HB⟩:=hrel
  cases gk with
  | zero=>exact absurd HA.out (by simp [impl_copyItems.l0])
  | succ k1 =>
   have H:=HA.out
   clear HA
   simp only [impl_copyItems.l0] at H
   by_cases c2:x8_1 < (l0.length:Int)
   ·rw [if_pos c2] at H
    have c2b0:decide (x8_1 < (l0.length:Int))=true:=decide_eq_true c2
    clear c2
    by_cases c3:0≤x8_1
    ·rw [if_pos c3] at H
     have c3b0:decide (0≤x8_1)=true:=decide_eq_true c3
     clear c3
     by_cases c4:x8_1 < (l0.length:Int)
     ·rw [if_pos c4] at H
      have c4b0:decide (x8_1 < (l0.length:Int))=true:=decide_eq_true c4
      clear c4
      replace H:=Option.bind_eq_some_iff.mp H
      obtain ⟨t241,A50,H⟩:=H
      (try dsimp only at H)
      have A5:=Aside0.mk A50
      clear A50
      by_cases c6:x3_1.length < 4398046511104
      ·rw [if_pos c6] at H
       have LMc6:=Aside0.mk c6
       clear c6
       obtain ⟨y244,hy244⟩ : ∃ y_:List (S33),y_=(x3_1 ++ [(⟨t241,(rd_T33 l0 x8_1).f1⟩:S33)]):=⟨_,rfl⟩
       replace H:(impl_copyItems.l0 k1 y244 l0 (l0.length:Int) (wrap64 (x8_1 + 1)))=some r:=by first|(rw [hy244];with_reducible exact H)|(have H2_:=(Option.bind_some _ _).symm.trans H;rw [hy244];with_reducible exact H2_)|(have H2_:=(Option.bind_some _ _).symm.trans H;with_reducible exact H2_)|with_reducible exact H|(rw [hy244];exact H)|exact H
       have Ny244:=Aside0.mk hy244
       clear hy244
       have H':=Aside0.mk H
       clear H
       have p239:0≤(x8_1:Int):=zod
       have q239:x8_1 < (l0.length:Int):=zod
       obtain ⟨ad239,A239_0,c239_0,e239,hx239_0,hx239_1,hl239_0,hi239_0⟩:=at_T33 HR0.out x8_1 p239 q239
       cases e239
       replace hx239_0:=(HB.out.cell (World.block_lt_of_cell? w _ hx239_0)).trans hx239_0
       replace hx239_1:=(HB.out.cell (World.block_lt_of_cell? w _ hx239_1)).trans hx239_1
       have HR239_0:=Aside0.mk hi239_0
       have HC239_0:=Aside0.mk hl239_0
       clear hi239_0 hl239_0
       replace p239:=eq_true p239
       replace q239:=eq_true q239
       try go_wp2_with (first|((with_reducible refine gate_dst (N:=5) rfl ?_);refine box_event ?hg (N:=5) ?hd (cs:=#[.slice none 0 0,.int .i64 0]) (t:=33) ?hr ?_;(case hd=>rfl);(case hg=>rfl);(case hr=>first|(go_simp;done)|(go_simp;rfl));intro gb240 hg w7 hbox hb;have n0_:=Aside0.mk (Kd.S_below (Kd.S_elderB (by (with_reducible repeat (first|apply Kd.S_alloc|apply Kd.S_drewN|apply Kd.S_drew));exact HO_3.out) gb240 (Nat.le_of_eq hg.symm)) hb);have n1_:=Aside0.mk (below_step zhb hb);have n2_:=Aside0.mk (hbox);have n3_:=Aside0.mk ((by rw [hg];exact (below_size zhb):w.heap.size≤gb240));have n4_:=Aside0.mk ((by rw [hg];exact (below_size zhb):w.heap.size≤gb240));clear HO_3;clear HB;have HO_3:=n0_;have HB:=n1_;have BK240:=n2_;have GW240:=n3_;have GE240:=n4_;clear n0_ n1_ n2_ n3_ n4_;clear hb hbox hg;have hcz8_0:w7.cell? ⟨gb240,0,none⟩=some (.slice none 0 0):=(blk_cell BK240.out 0).trans rfl;have hcz8_1:w7.cell? ⟨gb240,1,none⟩=some (.int .i64 0):=(blk_cell BK240.out 1).trans rfl;have hfz8_0:=blk_frozen BK240.out 0;have hfz8_1:=blk_frozen BK240.out 1))
       have n0_:Aside0 (Kd.S k33 33 ((w7.setCell ⟨gb240,0,none⟩ (.slice A239_0 ((rd_T33 l0 x8_1).f0).length c239_0)).setCell ⟨gb240,1,none⟩ (.int .i64 ((rd_T33 l0 x8_1).f1))) w.heap.size (fun k_=>k_≠gb240) u3 x3_1):=⟨by (with_reducible repeat (first|apply Kd.S_alloc|apply Kd.S_drewN|apply Kd.S_drew));exact Kd.S_mono (Kd.S_far (p:=⟨gb240,1,none⟩) (Kd.S_far (p:=⟨gb240,0,none⟩) (Kd.S_mono HO_3.out (fun k_ hk=>(⟨hk,hk.2⟩:_∧k_≠gb240))) (fun _ hk=>hk.2) (.slice A239_0 ((rd_T33 l0 x8_1).f0).length c239_0)) (fun _ hk=>hk.2) (.int .i64 ((rd_T33 l0 x8_1).f1))) (fun _ hk=>hk.1.2)⟩
       have n1_:Aside0 (((w7.setCell ⟨gb240,0,none⟩ (.slice A239_0 ((rd_T33 l0 x8_1).f0).length c239_0)).setCell ⟨gb240,1,none⟩ (.int .i64 ((rd_T33 l0 x8_1).f1))).heap[gb240]?=some (.cells #[.slice A239_0 ((rd_T33 l0 x8_1).f0).length c239_0,.int .i64 ((rd_T33 l0 x8_1).f1)] 33 (0,0))):=⟨by (with_reducible repeat (first|refine blk_drewN ?_ _|refine blk_drew ?_|refine blk_alloc ?_ _));refine blk_put (cs:=#[.slice A239_0 ((rd_T33 l0 x8_1).f0).length c239_0,.int .i64 0]) ?_ 1 _ rfl;(with_reducible repeat (first|refine blk_drewN ?_ _|refine blk_drew ?_|refine blk_alloc ?_ _));refine blk_put (cs:=#[.slice none 0 0,.int .i64 0]) ?_ 0 _ rfl;(with_reducible repeat (first|refine blk_drewN ?_ _|refine blk_drew ?_|refine blk_alloc ?_ _));exact BK240.out⟩
       have n2_:Aside0 (Below w.heap.size w ((w7.setCell ⟨gb240,0,none⟩ (.slice A239_0 ((rd_T33 l0 x8_1).f0).length c239_0)).setCell ⟨gb240,1,none⟩ (.int .i64 ((rd_T33 l0 x8_1).f1)))):=⟨by repeat (first|(with_reducible first|exact HB.out|apply below_alloc|apply pw_below_drewN|apply below_drew1|refine below_set ?_ GE240.out)|exact HB.out)⟩
       (try clear HO_3)
       (try clear BK240)
       (try clear HB)
       generalize ((w7.setCell ⟨gb240,0,none⟩ (.slice A239_0 ((rd_T33 l0 x8_1).f0).length c239_0)).setCell ⟨gb240,1,none⟩ (.int .i64 ((rd_T33 l0 x8_1).f1)))=w9 at n0_ n1_ n2_ ⊢
       have HO_3:=n0_
       have BK240:=n1_
       have HB:=n2_
       clear n0_ n1_ n2_
       have n0_:=Aside0.mk (Kd.S_drew HO_3.out)
       have n1_:=Aside0.mk (blk_drew BK240.out)
       have n2_:=Aside0.mk (below_drew1 HB.out)
       clear HO_3
       clear BK240
       clear HB
       have HO_3:=n0_
       have BK240:=n1_
       have HB:=n2_
       clear n0_ n1_ n2_
       refine start_ (n:=10) (S:=fun w'=>w'.cell? ⟨gb240,0,none⟩=some (.slice A239_0 ((rd_T33 l0 x8_1).f0).length c239_0)∧w'.cell? ⟨gb240,1,none⟩=some (.int .i64 ((rd_T33 l0 x8_1).f1))) (ds:=[]) #[X,X,X,X,X,X,X,X,X,X] (by kernel_rfl) rfl rfl ⟨(blk_cell BK240.out 0).trans rfl,(blk_cell BK240.out 1).trans rfl⟩ (fun hHeld=>?_);refine with_tabW impl_copyItems.tab5 impl_copyItems.bits5 (fun HT_ HW_=>?_)
       generalize w9.drew=w10 at HO_3 BK240 HB hHeld ⊢
       refine pure_ (i:=0) (N:=some 12) (v:=?_) (a':=?_) #[Y,X,X,X,X,X,X,X,X,X] rfl rfl zan (fun _ _ _ h=>h) (Or.inl ⟨by rfl,?_⟩) ?_ ?_
       rotate_left
       ·intro w'
        go_simp
        with_reducible rfl
       rotate_left
       ·simp only [Act.put,zp1,zp2,zp3,i64_w,i32_w]
        rfl
       refine pure_ (i:=1) (N:=some 13) (v:=?_) (a':=?_) #[Y,Y,X,X,X,X,X,X,X,X] rfl rfl zan (fun _ _ _ h=>h) (Or.inl ⟨by rfl,?_⟩) ?_ ?_
       rotate_left
       ·intro w'
        go_simp
        with_reducible rfl
       rotate_left
       ·simp only [Act.put,zp1,zp2,zp3,i64_w,i32_w]
        rfl
       refine pure_ (i:=4) (N:=some 16) (v:=?_) (a':=?_) #[Y,Y,X,X,Y,X,X,X,X,X] rfl rfl zan (fun _ _ _ h=>h) (Or.inl ⟨by rfl,?_⟩) ?_ ?_
       rotate_left
       ·intro w'
        go_simp
        with_reducible rfl
       rotate_left
       ·simp only [Act.put,zp1,zp2,zp3,i64_w,i32_w]
        rfl
       refine take_ (i:=2) (N:=some 14) (v:=?_) (a':=?_) #[Y,Y,Y,X,Y,X,X,X,X,X] rfl rfl ztw (fun _ _ _ h=>h) (Or.inl ⟨by rfl,?_⟩) hHeld ?_ ?_
       rotate_left
       ·rintro w' ⟨s0,s1⟩
        go_simp
        with_reducible rfl
       rotate_left
       ·simp only [Act.put,zp1,zp2,zp3,i64_w,i32_w]
        rfl
       refine take_ (i:=5) (N:=some 17) (v:=?_) (a':=?_) #[Y,Y,Y,X,Y,Y,X,X,X,X] rfl rfl ztw (fun _ _ _ h=>h) (Or.inl ⟨by rfl,?_⟩) hHeld ?_ ?_
       rotate_left
       ·rintro w' ⟨s0,s1⟩
        go_simp
        with_reducible rfl
       rotate_left
       ·simp only [Act.put,zp1,zp2,zp3,i64_w,i32_w]
        rfl
       refine one_ (i:=3) (N:=some 15) #[Y,Y,Y,Y,Y,Y,X,X,X,X] rfl rfl (one_of HT_.out (by kernel_rfl)) (by decide) (fun K hK=>?_)
       refine goes_ Tryz.func88 (by kernel_rfl) rfl #[.slice A239_0 ((rd_T33 l0 x8_1).f0).length c239_0] (by rfl) rfl rfl zar ?_
       with_reducible refine (slices_Clone_int_int.calls _ _ ((rd_T33 l0 x8_1).f0) t241 _ ?side1 ?side2 A5.out).mono ?_
       (case side1=>exact zC (Kd.C_below HR239_0.out HB.out))
       (case side2=>exact HC239_0.out)
       rintro e w11 ⟨v242,rfl,ho0,hb⟩
       refine ⟨_,rfl,?_⟩
       have n0_:=Aside0.mk (Kd.S_elder' (by (with_reducible repeat (first|apply Kd.S_alloc|apply Kd.S_drewN|apply Kd.S_drew));exact HO_3.out) (Kd.R_base ho0) hb)
       have n1_:=Aside0.mk (Kd.R_lower ho0 (below_size (by repeat (first|(with_reducible first|exact HB.out|apply below_alloc|apply pw_below_drewN|apply below_drew1|refine below_set ?_ GE240.out)|exact HB.out))))
       have n2_:=Aside0.mk (blk_below (g:=gb240) (o:=.cells #[.slice A239_0 ((rd_T33 l0 x8_1).f0).length c239_0,.int .i64 ((rd_T33 l0 x8_1).f1)] 33 (0,0)) (by (with_reducible repeat (first|refine blk_drewN ?_ _|refine blk_drew ?_|refine blk_alloc ?_ _));exact BK240.out) hb)
       have n3_:=Aside0.mk (below_step (by repeat (first|(with_reducible first|exact HB.out|apply below_alloc|apply pw_below_drewN|apply below_drew1|refine below_set ?_ GE240.out)|exact HB.out)) hb)
       clear HO_3
       clear BK240
       clear HB
       have HO_3:=n0_
       have HO243:=n1_
       have BK240:=n2_
       have HB:=n3_
       clear n0_ n1_ n2_ n3_
       (try clear hb)
       (try clear hb2)
       (try clear hk)
       (try clear hi)
       (try clear ho0)
       obtain ⟨Ao12,co12,eo12⟩:=Kd.R_slice HO243.out
       (first|subst eo12|(injection eo12 with f1_ f2_ f3_;have f4_:=f1_.symm;have f5_:=f3_.symm;clear f1_ f2_ f3_;subst f4_;subst f5_))
       refine hK.out _ _ ⟨(blk_cell BK240.out 0).trans rfl,(blk_cell BK240.out 1).trans rfl⟩ (fun hHeld=>?_)
       clear hK K
       refine norm_ (a':=?_) ?_ ?_
       rotate_left
       ·show Act.put _ (some 15) _=_
        simp only [Act.put,zp1,zp2,zp3,i64_w,i32_w]
        rfl
       refine pure_ (i:=6) (N:=some 18) (v:=?_) (a':=?_) #[Y,Y,Y,Y,Y,Y,Y,X,X,X] rfl rfl zan (fun _ _ _ h=>h) (Or.inl ⟨by rfl,?_⟩) ?_ ?_
       rotate_left
       ·intro w'
        go_simp
        with_reducible rfl
       rotate_left
       ·simp only [Act.put,zp1,zp2,zp3,i64_w,i32_w]
        rfl
       refine one_ (i:=7) (N:=some 19) #[Y,Y,Y,Y,Y,Y,Y,Y,X,X] rfl rfl (one_of HT_.out (by kernel_rfl)) (by decide) (fun K hK=>?_)
       refine value_ (w1:=?_) (v:=?_) (by rfl) rfl ?_ ?_
       rotate_left 2
       ·go_simp
        constructor
        ·rfl
        ·rfl
       refine hK.out _ _ ⟨(blk_cell (blk_alloc BK240.out _) 0).trans rfl,(blk_cell (blk_alloc BK240.out _) 1).trans rfl⟩ (fun hHeld=>?_)
       clear hK K
       refine norm_ (a':=?_) ?_ ?_
       rotate_left
       ·show Act.put _ (some 19) _=_
        simp only [Act.put,zp1,zp2,zp3,i64_w,i32_w]
        rfl
       refine one_ (i:=8) (N:=some 20) #[Y,Y,Y,Y,Y,Y,Y,Y,Y,X] rfl rfl (one_of HT_.out (by kernel_rfl)) (by decide) (fun K hK=>?_)
       refine Kd.S_append_step k33 (w0:=w) w.heap.size (by rfl) (.tmp 12) (.tmp 19) 23 33 (.agg #[(.slice none 0 0),(.int .i64 0)]) 32 rfl Tryz.underlying23 info33 rfl (by decide) (by omega) u3 x3_1 (⟨t241,(rd_T33 l0 x8_1).f1⟩:S33) [.slice Ao12 t241.length co12,.int .i64 ((rd_T33 l0 x8_1).f1)] (fun k_=>k_≠gb240) (fun k_=>some k_=(.slice Ao12 t241.length co12:Value).ownBlock) rfl rfl ?aP (fun k_ hk_=>((Kd.R_mono (ok':=fun k_=>((fun k_=>k_≠gb240)) k_∧some k_≠(u3:Value).ownBlock) (Kd.R_types (Kd.R_apart' (HO243.out) (Kd.S_typed HO_3.out) (by decide)) BK240.out (by decide)) (fun k_ hk=>⟨hk.2,hk.1.2⟩))).1 k_ hk_.symm) ?aF ?aO ?aB ?aS ?aL ?_
       (case aP=>exact k33_mkM _ _ _ (⟨t241,(rd_T33 l0 x8_1).f1⟩:S33) (Kd.R_mono (Kd.R_tight rfl (Kd.R_mono (ok':=fun k_=>((fun k_=>k_≠gb240)) k_∧some k_≠(u3:Value).ownBlock) (Kd.R_types (Kd.R_apart' (HO243.out) (Kd.S_typed HO_3.out) (by decide)) BK240.out (by decide)) (fun k_ hk=>⟨hk.2,hk.1.2⟩))) (fun _ h_=>h_)))
       (case aB=>exact (by repeat (first|(with_reducible first|exact HB.out|apply below_alloc|apply pw_below_drewN|apply below_drew1|refine below_set ?_ GE240.out)|exact HB.out)))
       (case aF=>exact (fun k_ hk=>Kd.freshB (g:=gb240) (o:=.cells #[.slice A239_0 ((rd_T33 l0 x8_1).f0).length c239_0,.int .i64 ((rd_T33 l0 x8_1).f1)] 33 (0,0)) (by (with_reducible repeat (first|refine blk_drewN ?_ _|refine blk_drew ?_|refine blk_alloc ?_ _));exact BK240.out) k_ hk))
       (case aO=>exact (by (with_reducible repeat (first|apply Kd.S_alloc|apply Kd.S_drewN|apply Kd.S_drew));exact Kd.S_mono HO_3.out (fun k_ hk=>⟨hk.1,fun e_=>hk.2 e_⟩)))
       (case aS=>exact (below_size (by repeat (first|(with_reducible first|exact HB.out|apply below_alloc|apply pw_below_drewN|apply below_drew1|refine below_set ?_ GE240.out)|exact HB.out))))
       (case aL=>have:=LMc6.out;omega)
       intro v245 w13 ho hb hg hat
       rw [← Ny244.out] at ho
       have n0_:=Aside0.mk (blk_grown (g:=gb240) (o:=.cells #[.slice A239_0 ((rd_T33 l0 x8_1).f0).length c239_0,.int .i64 ((rd_T33 l0 x8_1).f1)] 33 (0,0)) (by (with_reducible repeat (first|refine blk_drewN ?_ _|refine blk_drew ?_|refine blk_alloc ?_ _));exact BK240.out) hg (Kd.S_away HO_3.out (fun _ hk=>hk.1)))
       have n1_:=Aside0.mk (hb)
       have n2_:=Aside0.mk (ho)
       clear BK240
       clear HB
       clear HO_3
       clear HO243
       have BK240:=n0_
       have HB:=n1_
       have HO246:=n2_
       clear n0_ n1_ n2_
       clear ho hb hg hat
       refine hK.out _ _ ⟨(blk_cell BK240.out 0).trans rfl,(blk_cell BK240.out 1).trans rfl⟩ (fun hHeld=>?_)
       clear hK K
       refine norm_ (a':=?_) ?_ ?_
       rotate_left
       ·show Act.put _ (some 20) _=_
        simp only [Act.put,zp1,zp2,zp3,i64_w,i32_w]
        rfl
       refine pure_ (i:=9) (N:=some 3) (v:=?_) (a':=?_) #[Y,Y,Y,Y,Y,Y,Y,Y,Y,Y] rfl rfl zan (fun _ _ _ h=>h) (Or.inl ⟨by rfl,?_⟩) ?_ ?_
       rotate_left
       ·intro w'
        go_simp
        with_reducible rfl
       rotate_left
       ·simp only [Act.put,zp1,zp2,zp3,i64_w,i32_w]
        rfl
       refine done_ (done_of HT_.out (by kernel_rfl)) ?_
       try go_wp2
       go_roundg k1
       case measure=>have:=HK1.out;omega
       case rel=>exact ⟨(y244),(wrap64 (x8_1 + 1)),(by first|rfl|(simp;done)|(simp [*];done)),H',⟨by have:=HK1.out;omega⟩,⟨by (with_reducible repeat (first|apply Kd.S_alloc|apply Kd.S_drewN|apply Kd.S_drew));exact Kd.S_mono HO246.out (fun _ hk=>trivial)⟩,⟨by repeat (first|(with_reducible first|exact HB.out|apply below_alloc|apply pw_below_drewN|apply below_drew1|refine below_set ?_ GE240.out)|exact HB.out)⟩⟩
      ·rw [if_neg c6] at H
       exact absurd H (by simp)
     ·rw [if_neg c4] at H
      exact absurd H (by simp)
    ·rw [if_neg c3] at H
     exact absurd H (by simp)
   ·rw [if_neg c2] at H
    have c2b0:decide (x8_1 < (l0.length:Int))=false:=decide_eq_false c2
    clear c2
    obtain rfl:=Option.some.inj H
    go_wp2
    go_ret
    exact ⟨_,by first|rfl|(simp [errW_none,errW_some] <;> rfl)|(simp [*,errW_none,errW_some] <;> rfl),by (with_reducible repeat (first|apply Kd.S_alloc|apply Kd.S_drewN|apply Kd.S_drew));exact HO_3.out,zhb⟩

/-! ### impl_told: function 31 -/
def impl_told.f (k:Nat) (l0:List (S33)):Option ((List (S33)) × Bool):=(impl_ZOk.f k l0).bind fun t247=>(if t247=true then ((impl_copyItems.f k l0).bind fun t248=>(some (t248,true))) else (some (([]:List (S33)),false)))
theorem impl_told.mono : ∀ a0 k,LeO (impl_told.f k a0) (impl_told.f (k + 1) a0):=by
 intro a0 k
 unfold impl_told.f
 repeat' first
   | (with_reducible exact impl_ZOk.mono _ _)
   | (with_reducible exact impl_copyItems.mono _ _)
   | (with_reducible exact LeO.refl _)
   | (with_reducible exact LeO.none _)
   | (with_reducible refine LeO.ite ?_ ?_)
   | (with_reducible refine LeO.bind ?_ (fun _=>?_))
   | exact LeO.none _
   | refine LeO.ite ?_ ?_
   | refine LeO.bind ?_ (fun _=>?_)
set_option maxHeartbeats 8000000 in
set_option maxRecDepth 100000 in
theorem impl_told.calls (k:Nat) (A0:Option Addr) (c0:Nat) (l0:List (S33)) (r1:List (S33)) (r2:Bool) (w:World) (hr0:Kd.C k33 w A0 l0.length l0) (hc0:l0.length≤c0) (h:impl_told.f k l0=some (r1,r2)) :
  Calls Tryz.prog 31 #[.slice A0 l0.length c0] w fun e w'=>∃ v0_:Value,e=.returned (.tuple #[v0_,.bool r2])∧Kd.S k33 33 w' w.heap.size (fun _=>True) v0_ r1∧Below w.heap.size w w':=by
 have HR0:=Aside0.mk hr0
 have HC0:=Aside0.mk hc0
 clear hr0 hc0
 have HB:=Aside0.mk (Below.refl w.heap.size w)
 have H:((impl_ZOk.f k l0).bind fun t247=>(if t247=true then ((impl_copyItems.f k l0).bind fun t248=>(some (t248,true))) else (some (([]:List (S33)),false))))=some (r1,r2):=h
 clear h
 replace H:=Option.bind_eq_some_iff.mp H
 obtain ⟨t247,A20,H⟩:=H
 (try dsimp only at H)
 have A2:=Aside0.mk A20
 clear A20
 by_cases c3:t247=true
 ·subst c3
  have H1:((impl_copyItems.f k l0).bind fun t248=>(some (t248,true)))=some (r1,r2):=by rw [if_pos rfl] at H;exact H
  clear H
  have H:=H1
  clear H1
  replace H:=Option.bind_eq_some_iff.mp H
  obtain ⟨t248,A40,H⟩:=H
  (try dsimp only at H)
  have A4:=Aside0.mk A40
  clear A40
  simp only [Option.some.injEq,Prod.mk.injEq] at H
  obtain ⟨rfl,rfl⟩:=H
  go_enter Tryz.func31,Tryz.ntmps31
  go_wp2_with (first|((with_reducible refine gate_callee (f:=6) rfl ?_);refine goesL_ (some 5) rfl rfl Tryz.func6 (by kernel_rfl) rfl #[.slice A0 l0.length c0] rfl zar ?_;(with_reducible refine (impl_ZOk.calls k _ _ l0 true _ ?side1 ?side2 A2.out).mono ?_);(case side1=>exact zC HR0.out);(case side2=>exact HC0.out);rintro e w5 ⟨rfl,hb⟩;refine ⟨_,rfl,?_⟩;have n0_:=Aside0.mk (below_step zhb hb);clear HB;have HB:=n0_;clear n0_;(try clear hb);(try clear hb2);(try clear hk);(try clear hi))|((with_reducible refine gate_callee (f:=62) rfl ?_);refine goesL_ (some 8) rfl rfl Tryz.func62 (by kernel_rfl) rfl #[.slice A0 l0.length c0] rfl zar ?_;(with_reducible refine (impl_copyItems.calls k _ _ l0 t248 _ ?side1 ?side2 A4.out).mono ?_);(case side1=>exact zC (Kd.C_below HR0.out HB.out));(case side2=>exact HC0.out);rintro e w6 ⟨v249,rfl,ho0,hb⟩;refine ⟨_,rfl,?_⟩;have n0_:=Aside0.mk (Kd.S_lower ho0 (below_size zhb));have n1_:=Aside0.mk (below_step zhb hb);clear HB;have HO250:=n0_;have HB:=n1_;clear n0_ n1_;(try clear hb);(try clear hb2);(try clear hk);(try clear hi);(try clear ho0)))
  go_ret2
  exact ⟨_,by first|rfl|(simp [errW_none,errW_some] <;> rfl)|(simp [*,errW_none,errW_some] <;> rfl),by (with_reducible repeat (first|apply Kd.S_alloc|apply Kd.S_drewN|apply Kd.S_drew));exact HO250.out,zhb⟩
 ·replace c3:=Bool.eq_false_iff.mpr c3
  subst c3
  have H1:(some (([]:List (S33)),false))=some (r1,r2):=by rw [if_neg (show ¬ (false=true) by decide)] at H;exact H
  clear H
  have H:=H1
  clear H1
  simp only [Option.some.injEq,Prod.mk.injEq] at H
  obtain ⟨rfl,rfl⟩:=H
  go_enter Tryz.func31,Tryz.ntmps31
  go_wp2_with (first|((with_reducible refine gate_callee (f:=6) rfl ?_);refine goesL_ (some 5) rfl rfl Tryz.func6 (by kernel_rfl) rfl #[.slice A0 l0.length c0] rfl zar ?_;(with_reducible refine (impl_ZOk.calls k _ _ l0 false _ ?side1 ?side2 A2.out).mono ?_);(case side1=>exact zC HR0.out);(case side2=>exact HC0.out);rintro e w7 ⟨rfl,hb⟩;refine ⟨_,rfl,?_⟩;have n0_:=Aside0.mk (below_step zhb hb);clear HB;have HB:=n0_;clear n0_;(try clear hb);(try clear hb2);(try clear hk);(try clear hi)))
  go_ret2
  exact ⟨_,by first|rfl|(simp [errW_none,errW_some] <;> rfl)|(simp [*,errW_none,errW_some] <;> rfl),by first|exact Kd.S_nil _ _ _ _ _|exact Kd.N_nil _ _ _ _ _|exact Kd.V_nil _ _ _ _ _|exact Kd.Q_nil _ _ _ _ _|exact Kd.R_nil _ _ _ _ _,zhb⟩

-- NOT PRINTED: function 63 (impl_merged_impl_Item)

/-! ### impl_cmpItem: function 64 -/
def impl_cmpItem.f (k:Nat) (l0_0:List Int) (a0_1:Int) (l1_0:List Int) (a1_1:Int):Option (Int):=(slices_Compare_int_int.f k l0_0 l1_0).bind fun t253=>(some t253)
theorem impl_cmpItem.mono : ∀ a0 a1 a2 a3 k,LeO (impl_cmpItem.f k a0 a1 a2 a3) (impl_cmpItem.f (k + 1) a0 a1 a2 a3):=by
 intro a0 a1 a2 a3 k
 unfold impl_cmpItem.f
 repeat' first
   | (with_reducible exact slices_Compare_int_int.mono _ _ _)
   | (with_reducible exact LeO.refl _)
   | (with_reducible exact LeO.none _)
   | (with_reducible refine LeO.ite ?_ ?_)
   | (with_reducible refine LeO.bind ?_ (fun _=>?_))
   | exact LeO.none _
   | refine LeO.ite ?_ ?_
   | refine LeO.bind ?_ (fun _=>?_)
set_option maxHeartbeats 8000000 in
set_option maxRecDepth 100000 in
theorem impl_cmpItem.calls (k:Nat) (A0_0:Option Addr) (c0_0:Nat) (l0_0:List Int) (a0_1:Int) (A1_0:Option Addr) (c1_0:Nat) (l1_0:List Int) (a1_1:Int) (r:Int) (w:World) (hr0_0:Kd.C (Kd.int .i64) w A0_0 l0_0.length l0_0) (hc0_0:l0_0.length≤c0_0) (hr1_0:Kd.C (Kd.int .i64) w A1_0 l1_0.length l1_0) (hc1_0:l1_0.length≤c1_0) (h:impl_cmpItem.f k l0_0 a0_1 l1_0 a1_1=some r) :
  Calls Tryz.prog 64 #[.agg #[.slice A0_0 l0_0.length c0_0,.int .i64 a0_1],.agg #[.slice A1_0 l1_0.length c1_0,.int .i64 a1_1]] w fun e w'=>e=.returned (.int .i64 r)∧Below w.heap.size w w':=by
 have hu33:=Tryz.underlying33
 have HR0_0:=Aside0.mk hr0_0
 have HC0_0:=Aside0.mk hc0_0
 clear hr0_0 hc0_0
 have HR1_0:=Aside0.mk hr1_0
 have HC1_0:=Aside0.mk hc1_0
 clear hr1_0 hc1_0
 have HB:=Aside0.mk (Below.refl w.heap.size w)
 have H:((slices_Compare_int_int.f k l0_0 l1_0).bind fun t253=>(some t253))=some r:=h
 clear h
 replace H:=Option.bind_eq_some_iff.mp H
 obtain ⟨t253,A30,H⟩:=H
 (try dsimp only at H)
 have A3:=Aside0.mk A30
 clear A30
 obtain rfl:=Option.some.inj H
 go_enter Tryz.func64,Tryz.ntmps64
 go_wp2_with (first|((with_reducible refine gate_dst (N:=2) rfl ?_);refine box_event ?hg (N:=2) ?hd (cs:=#[.slice A0_0 l0_0.length c0_0,.int .i64 a0_1]) (t:=33) ?hr ?_;(case hd=>rfl);(case hg=>rfl);(case hr=>first|(go_simp;done)|(go_simp;rfl));intro gb251 hg w4 hbox hb;have n0_:=Aside0.mk (below_step zhb hb);have n1_:=Aside0.mk (hbox);have n2_:=Aside0.mk ((by rw [hg];exact (below_size zhb):w.heap.size≤gb251));have n3_:=Aside0.mk ((by rw [hg];exact (below_size zhb):w.heap.size≤gb251));clear HB;have HB:=n0_;have BK251:=n1_;have GW251:=n2_;have GE251:=n3_;clear n0_ n1_ n2_ n3_;clear hb hbox hg)|((with_reducible refine gate_dst (N:=3) rfl ?_);refine box_event ?hg (N:=3) ?hd (cs:=#[.slice A1_0 l1_0.length c1_0,.int .i64 a1_1]) (t:=33) ?hr ?_;(case hd=>rfl);(case hg=>rfl);(case hr=>first|(go_simp;done)|(go_simp;rfl));intro gb252 hg w5 hbox hb;have n0_:=Aside0.mk (blk_below (g:=gb251) (o:=.cells #[.slice A0_0 l0_0.length c0_0,.int .i64 a0_1] 33 (0,0)) (by (with_reducible repeat (first|refine blk_drewN ?_ _|refine blk_drew ?_|refine blk_alloc ?_ _));exact BK251.out) hb);have n1_:=Aside0.mk (below_step (by repeat (first|(with_reducible first|exact HB.out|apply below_alloc|apply pw_below_drewN|apply below_drew1|refine below_set ?_ GE251.out)|exact HB.out)) hb);have n2_:=Aside0.mk (hbox);have n3_:=Aside0.mk ((by rw [hg];exact (below_size (by repeat (first|(with_reducible first|exact HB.out|apply below_alloc|apply pw_below_drewN|apply below_drew1|refine below_set ?_ GE251.out)|exact HB.out))):w.heap.size≤gb252));have n4_:=Aside0.mk ((by rw [hg];exact (below_size (by repeat (first|(with_reducible first|exact HB.out|apply below_alloc|apply pw_below_drewN|apply below_drew1|refine below_set ?_ GE251.out)|exact HB.out))):w.heap.size≤gb252));have n5_:=Aside0.mk ((by rw [hg];exact Nat.ne_of_lt (blk_lt (g:=gb251) (o:=.cells #[.slice A0_0 l0_0.length c0_0,.int .i64 a0_1] 33 (0,0)) (by (with_reducible repeat (first|refine blk_drewN ?_ _|refine blk_drew ?_|refine blk_alloc ?_ _));exact BK251.out)):gb251≠gb252));have n6_:=Aside0.mk ((by rw [hg];exact Nat.ne_of_gt (blk_lt (g:=gb251) (o:=.cells #[.slice A0_0 l0_0.length c0_0,.int .i64 a0_1] 33 (0,0)) (by (with_reducible repeat (first|refine blk_drewN ?_ _|refine blk_drew ?_|refine blk_alloc ?_ _));exact BK251.out)):gb252≠gb251));clear BK251;clear HB;have BK251:=n0_;have HB:=n1_;have BK252:=n2_;have GW252:=n3_;have GE252:=n4_;have NB251_252:=n5_;have NB252_251:=n6_;clear n0_ n1_ n2_ n3_ n4_ n5_ n6_;clear hb hbox hg;have hnb6:=NB251_252.out;have hnc6:=NB252_251.out;have hcz7_0:w5.cell? ⟨gb251,0,none⟩=some (.slice A0_0 l0_0.length c0_0):=(blk_cell BK251.out 0).trans rfl;have hcz7_1:w5.cell? ⟨gb251,1,none⟩=some (.int .i64 a0_1):=(blk_cell BK251.out 1).trans rfl;have hfz7_0:=blk_frozen BK251.out 0;have hfz7_1:=blk_frozen BK251.out 1;have hcz8_0:w5.cell? ⟨gb252,0,none⟩=some (.slice A1_0 l1_0.length c1_0):=(blk_cell BK252.out 0).trans rfl;have hcz8_1:w5.cell? ⟨gb252,1,none⟩=some (.int .i64 a1_1):=(blk_cell BK252.out 1).trans rfl;have hfz8_0:=blk_frozen BK252.out 0;have hfz8_1:=blk_frozen BK252.out 1)|((with_reducible refine gate_callee (f:=33) rfl ?_);refine goesL_ (some 9) rfl rfl Tryz.func33 (by kernel_rfl) rfl #[.slice A0_0 l0_0.length c0_0,.slice A1_0 l1_0.length c1_0] rfl zar ?_;(with_reducible refine (slices_Compare_int_int.calls k _ _ l0_0 _ _ l1_0 t253 _ ?side1 ?side2 ?side3 ?side4 A3.out).mono ?_);(case side1=>exact zC (Kd.C_below HR0_0.out HB.out));(case side2=>exact HC0_0.out);(case side3=>exact zC (Kd.C_below HR1_0.out HB.out));(case side4=>exact HC1_0.out);rintro e w' ⟨rfl,⟨nd,rfl⟩⟩;refine ⟨_,rfl,?_⟩))
 go_ret
 exact ⟨by first|rfl|(simp [errW_none,errW_some] <;> rfl)|(simp [*,errW_none,errW_some] <;> rfl),by repeat (first|(with_reducible first|exact HB.out|apply below_alloc|apply pw_below_drewN|apply below_drew1|refine below_set ?_ GE251.out|refine below_set ?_ GE252.out)|exact HB.out)⟩

/-! ### impl_together_1: function 65 -/
def impl_together_1.f (l0_0:List Int) (a0_1:Int) (l1_0:List Int) (a1_1:Int):Option (List Int × Int × Bool):=some (l0_0,wrap64 (a0_1 + a1_1),((wrap64 (a0_1 + a1_1)) != 0))
def impl_together_1.T1:Bool × List (List Nat × List Nat):=(true,[([],[]),([0],[0]),([],[]),([2],[2]),([],[]),([4],[4]),([3,5],[3,5]),([1,6],[1,6]),([],[]),([8],[8]),([],[]),([10],[10]),([9,11],[9,11]),([12],[12]),([7,0,1,2,3,4,5,6,7],[7]),([13,14,0,1,2,3,4,5,6,7,8,9,10,11,12,13,14],[13])])
def impl_together_1.B1:List Nat:=[0,1,0,4,0,16,60,127,0,256,0,1024,3840,7936,255,32767]
theorem impl_together_1.tab1:rtab .any (opsOf Tryz.f65 1)=impl_together_1.T1:=by kernel_rfl
theorem impl_together_1.bits1:waitsOk impl_together_1.T1.2 impl_together_1.B1=true:=by kernel_rfl
set_option maxHeartbeats 8000000 in
set_option maxRecDepth 100000 in
theorem impl_together_1.calls (P0_0_:Nat→Prop) (A0_0:Option Addr) (c0_0:Nat) (l0_0:List Int) (a0_1:Int) (A1_0:Option Addr) (c1_0:Nat) (l1_0:List Int) (a1_1:Int) (r1:List Int) (r2:Int) (r3:Bool) (w:World) (hs0_0:Kd.V (Kd.int .i64) 3 w w.heap.size (fun k_=>P0_0_ k_) (.slice A0_0 l0_0.length c0_0) l0_0) (hr1_0:Kd.C (Kd.int .i64) w A1_0 l1_0.length l1_0) (hc1_0:l1_0.length≤c1_0) (h:impl_together_1.f l0_0 a0_1 l1_0 a1_1=some (r1,r2,r3)) :
  Calls Tryz.prog 65 #[.agg #[.slice A0_0 l0_0.length c0_0,.int .i64 a0_1],.agg #[.slice A1_0 l1_0.length c1_0,.int .i64 a1_1]] w fun e w'=>∃ v0_:Value,e=.returned (.tuple #[.agg #[v0_,.int .i64 r2],.bool r3])∧Kd.V (Kd.int .i64) 3 w' w.heap.size (fun k_=>(P0_0_ k_∨w.heap.size≤k_)) v0_ r1∧Below w.heap.size w w':=by
 have hu33:=Tryz.underlying33
 have HO0_0:=Aside0.mk (show Kd.V (Kd.int .i64) 3 w w.heap.size (fun k_=>(P0_0_ k_∨w.heap.size≤k_)) (.slice A0_0 l0_0.length c0_0) l0_0 from Kd.V_mono hs0_0 (fun k_ hk=>.inl hk))
 have HR1_0:=Aside0.mk hr1_0
 have HC1_0:=Aside0.mk hc1_0
 clear hr1_0 hc1_0
 have HB:=Aside0.mk (Below.refl w.heap.size w)
 have H:(some (l0_0,wrap64 (a0_1 + a1_1),((wrap64 (a0_1 + a1_1)) != 0)))=some (r1,r2,r3):=h
 clear h
 simp only [Option.some.injEq,Prod.mk.injEq] at H
 obtain ⟨rfl,rfl,rfl⟩:=H
 go_enter Tryz.func65,Tryz.ntmps65
 try go_wp2_with (first|((with_reducible refine gate_dst (N:=2) rfl ?_);refine box_event ?hg (N:=2) ?hd (cs:=#[.slice A0_0 l0_0.length c0_0,.int .i64 a0_1]) (t:=33) ?hr ?_;(case hd=>rfl);(case hg=>rfl);(case hr=>first|(go_simp;done)|(go_simp;rfl));intro gb254 hg w3 hbox hb;have n0_:=Aside0.mk (Kd.V_below (Kd.V_elderB (zV HO0_0.out) gb254 (Nat.le_of_eq hg.symm)) hb);have n1_:=Aside0.mk (below_step zhb hb);have n2_:=Aside0.mk (hbox);have n3_:=Aside0.mk ((by rw [hg];exact (below_size zhb):w.heap.size≤gb254));have n4_:=Aside0.mk ((by rw [hg];exact (below_size zhb):w.heap.size≤gb254));clear HO0_0;clear HB;have HO0_0:=n0_;have HB:=n1_;have BK254:=n2_;have GW254:=n3_;have GE254:=n4_;clear n0_ n1_ n2_ n3_ n4_;clear hb hbox hg)|((with_reducible refine gate_dst (N:=3) rfl ?_);refine box_event ?hg (N:=3) ?hd (cs:=#[.slice A1_0 l1_0.length c1_0,.int .i64 a1_1]) (t:=33) ?hr ?_;(case hd=>rfl);(case hg=>rfl);(case hr=>first|(go_simp;done)|(go_simp;rfl));intro gb255 hg w4 hbox hb;have n0_:=Aside0.mk (Kd.V_below (Kd.V_elderB (zV HO0_0.out) gb255 (Nat.le_of_eq hg.symm)) hb);have n1_:=Aside0.mk (blk_below (g:=gb254) (o:=.cells #[.slice A0_0 l0_0.length c0_0,.int .i64 a0_1] 33 (0,0)) (by (with_reducible repeat (first|refine blk_drewN ?_ _|refine blk_drew ?_|refine blk_alloc ?_ _));exact BK254.out) hb);have n2_:=Aside0.mk (below_step (by repeat (first|(with_reducible first|exact HB.out|apply below_alloc|apply pw_below_drewN|apply below_drew1|refine below_set ?_ GE254.out)|exact HB.out)) hb);have n3_:=Aside0.mk (hbox);have n4_:=Aside0.mk ((by rw [hg];exact (below_size (by repeat (first|(with_reducible first|exact HB.out|apply below_alloc|apply pw_below_drewN|apply below_drew1|refine below_set ?_ GE254.out)|exact HB.out))):w.heap.size≤gb255));have n5_:=Aside0.mk ((by rw [hg];exact (below_size (by repeat (first|(with_reducible first|exact HB.out|apply below_alloc|apply pw_below_drewN|apply below_drew1|refine below_set ?_ GE254.out)|exact HB.out))):w.heap.size≤gb255));have n6_:=Aside0.mk ((by rw [hg];exact Nat.ne_of_lt (blk_lt (g:=gb254) (o:=.cells #[.slice A0_0 l0_0.length c0_0,.int .i64 a0_1] 33 (0,0)) (by (with_reducible repeat (first|refine blk_drewN ?_ _|refine blk_drew ?_|refine blk_alloc ?_ _));exact BK254.out)):gb254≠gb255));have n7_:=Aside0.mk ((by rw [hg];exact Nat.ne_of_gt (blk_lt (g:=gb254) (o:=.cells #[.slice A0_0 l0_0.length c0_0,.int .i64 a0_1] 33 (0,0)) (by (with_reducible repeat (first|refine blk_drewN ?_ _|refine blk_drew ?_|refine blk_alloc ?_ _));exact BK254.out)):gb255≠gb254));clear HO0_0;clear BK254;clear HB;have HO0_0:=n0_;have BK254:=n1_;have HB:=n2_;have BK255:=n3_;have GW255:=n4_;have GE255:=n5_;have NB254_255:=n6_;have NB255_254:=n7_;clear n0_ n1_ n2_ n3_ n4_ n5_ n6_ n7_;clear hb hbox hg)|((with_reducible refine gate_dst (N:=4) rfl ?_);refine box_event ?hg (N:=4) ?hd (cs:=#[.slice none 0 0,.int .i64 0]) (t:=33) ?hr ?_;(case hd=>rfl);(case hg=>rfl);(case hr=>first|(go_simp;done)|(go_simp;rfl));intro gb256 hg w5 hbox hb;have n0_:=Aside0.mk (Kd.V_below (Kd.V_elderB (zV HO0_0.out) gb256 (Nat.le_of_eq hg.symm)) hb);have n1_:=Aside0.mk (blk_below (g:=gb254) (o:=.cells #[.slice A0_0 l0_0.length c0_0,.int .i64 a0_1] 33 (0,0)) (by (with_reducible repeat (first|refine blk_drewN ?_ _|refine blk_drew ?_|refine blk_alloc ?_ _));exact BK254.out) hb);have n2_:=Aside0.mk (blk_below (g:=gb255) (o:=.cells #[.slice A1_0 l1_0.length c1_0,.int .i64 a1_1] 33 (0,0)) (by (with_reducible repeat (first|refine blk_drewN ?_ _|refine blk_drew ?_|refine blk_alloc ?_ _));exact BK255.out) hb);have n3_:=Aside0.mk (below_step (by repeat (first|(with_reducible first|exact HB.out|apply below_alloc|apply pw_below_drewN|apply below_drew1|refine below_set ?_ GE254.out|refine below_set ?_ GE255.out)|exact HB.out)) hb);have n4_:=Aside0.mk (hbox);have n5_:=Aside0.mk ((by rw [hg];exact (below_size (by repeat (first|(with_reducible first|exact HB.out|apply below_alloc|apply pw_below_drewN|apply below_drew1|refine below_set ?_ GE254.out|refine below_set ?_ GE255.out)|exact HB.out))):w.heap.size≤gb256));have n6_:=Aside0.mk ((by rw [hg];exact (below_size (by repeat (first|(with_reducible first|exact HB.out|apply below_alloc|apply pw_below_drewN|apply below_drew1|refine below_set ?_ GE254.out|refine below_set ?_ GE255.out)|exact HB.out))):w.heap.size≤gb256));have n7_:=Aside0.mk ((by rw [hg];exact Nat.ne_of_lt (blk_lt (g:=gb254) (o:=.cells #[.slice A0_0 l0_0.length c0_0,.int .i64 a0_1] 33 (0,0)) (by (with_reducible repeat (first|refine blk_drewN ?_ _|refine blk_drew ?_|refine blk_alloc ?_ _));exact BK254.out)):gb254≠gb256));have n8_:=Aside0.mk ((by rw [hg];exact Nat.ne_of_gt (blk_lt (g:=gb254) (o:=.cells #[.slice A0_0 l0_0.length c0_0,.int .i64 a0_1] 33 (0,0)) (by (with_reducible repeat (first|refine blk_drewN ?_ _|refine blk_drew ?_|refine blk_alloc ?_ _));exact BK254.out)):gb256≠gb254));have n9_:=Aside0.mk ((by rw [hg];exact Nat.ne_of_lt (blk_lt (g:=gb255) (o:=.cells #[.slice A1_0 l1_0.length c1_0,.int .i64 a1_1] 33 (0,0)) (by (with_reducible repeat (first|refine blk_drewN ?_ _|refine blk_drew ?_|refine blk_alloc ?_ _));exact BK255.out)):gb255≠gb256));have n10_:=Aside0.mk ((by rw [hg];exact Nat.ne_of_gt (blk_lt (g:=gb255) (o:=.cells #[.slice A1_0 l1_0.length c1_0,.int .i64 a1_1] 33 (0,0)) (by (with_reducible repeat (first|refine blk_drewN ?_ _|refine blk_drew ?_|refine blk_alloc ?_ _));exact BK255.out)):gb256≠gb255));clear HO0_0;clear BK254;clear BK255;clear HB;have HO0_0:=n0_;have BK254:=n1_;have BK255:=n2_;have HB:=n3_;have BK256:=n4_;have GW256:=n5_;have GE256:=n6_;have NB254_256:=n7_;have NB256_254:=n8_;have NB255_256:=n9_;have NB256_255:=n10_;clear n0_ n1_ n2_ n3_ n4_ n5_ n6_ n7_ n8_ n9_ n10_;clear hb hbox hg))
 have n0_:=Aside0.mk (Kd.V_drew HO0_0.out)
 have n1_:=Aside0.mk (blk_drew BK254.out)
 have n2_:=Aside0.mk (blk_drew BK255.out)
 have n3_:=Aside0.mk (blk_drew BK256.out)
 have n4_:=Aside0.mk (below_drew1 HB.out)
 clear HO0_0
 clear BK254
 clear BK255
 clear BK256
 clear HB
 have HO0_0:=n0_
 have BK254:=n1_
 have BK255:=n2_
 have BK256:=n3_
 have HB:=n4_
 clear n0_ n1_ n2_ n3_ n4_
 refine start_ (n:=16) (S:=fun w'=>w'.cell? ⟨gb254,0,none⟩=some (.slice A0_0 l0_0.length c0_0)∧w'.cell? ⟨gb254,1,none⟩=some (.int .i64 a0_1)∧w'.cell? ⟨gb255,0,none⟩=some (.slice A1_0 l1_0.length c1_0)∧w'.cell? ⟨gb255,1,none⟩=some (.int .i64 a1_1)) (ds:=[]) #[X,X,X,X,X,X,X,X,X,X,X,X,X,X,X,X] (by kernel_rfl) rfl rfl ⟨(blk_cell BK254.out 0).trans rfl,(blk_cell BK254.out 1).trans rfl,(blk_cell BK255.out 0).trans rfl,(blk_cell BK255.out 1).trans rfl⟩ (fun hHeld=>?_);refine with_tabW impl_together_1.tab1 impl_together_1.bits1 (fun HT_ HW_=>?_)
 generalize w5.drew=w6 at HO0_0 BK254 BK255 BK256 HB hHeld ⊢
 refine pure_ (i:=0) (N:=some 6) (v:=?_) (a':=?_) #[Y,X,X,X,X,X,X,X,X,X,X,X,X,X,X,X] rfl rfl zan (fun _ _ _ h=>h) (Or.inl ⟨by rfl,?_⟩) ?_ ?_
 rotate_left
 ·intro w'
  go_simp
  with_reducible rfl
 rotate_left
 ·simp only [Act.put,zp1,zp2,zp3,i64_w,i32_w]
  rfl
 refine pure_ (i:=2) (N:=some 8) (v:=?_) (a':=?_) #[Y,X,Y,X,X,X,X,X,X,X,X,X,X,X,X,X] rfl rfl zan (fun _ _ _ h=>h) (Or.inl ⟨by rfl,?_⟩) ?_ ?_
 rotate_left
 ·intro w'
  go_simp
  with_reducible rfl
 rotate_left
 ·simp only [Act.put,zp1,zp2,zp3,i64_w,i32_w]
  rfl
 refine pure_ (i:=4) (N:=some 10) (v:=?_) (a':=?_) #[Y,X,Y,X,Y,X,X,X,X,X,X,X,X,X,X,X] rfl rfl zan (fun _ _ _ h=>h) (Or.inl ⟨by rfl,?_⟩) ?_ ?_
 rotate_left
 ·intro w'
  go_simp
  with_reducible rfl
 rotate_left
 ·simp only [Act.put,zp1,zp2,zp3,i64_w,i32_w]
  rfl
 refine pure_ (i:=8) (N:=some 14) (v:=?_) (a':=?_) #[Y,X,Y,X,Y,X,X,X,Y,X,X,X,X,X,X,X] rfl rfl zan (fun _ _ _ h=>h) (Or.inl ⟨by rfl,?_⟩) ?_ ?_
 rotate_left
 ·intro w'
  go_simp
  with_reducible rfl
 rotate_left
 ·simp only [Act.put,zp1,zp2,zp3,i64_w,i32_w]
  rfl
 refine pure_ (i:=10) (N:=some 16) (v:=?_) (a':=?_) #[Y,X,Y,X,Y,X,X,X,Y,X,Y,X,X,X,X,X] rfl rfl zan (fun _ _ _ h=>h) (Or.inl ⟨by rfl,?_⟩) ?_ ?_
 rotate_left
 ·intro w'
  go_simp
  with_reducible rfl
 rotate_left
 ·simp only [Act.put,zp1,zp2,zp3,i64_w,i32_w]
  rfl
 refine take_ (i:=1) (N:=some 7) (v:=?_) (a':=?_) #[Y,Y,Y,X,Y,X,X,X,Y,X,Y,X,X,X,X,X] rfl rfl ztw (fun _ _ _ h=>h) (Or.inl ⟨by rfl,?_⟩) hHeld ?_ ?_
 rotate_left
 ·rintro w' ⟨s0,s1,s2,s3⟩
  go_simp
  with_reducible rfl
 rotate_left
 ·simp only [Act.put,zp1,zp2,zp3,i64_w,i32_w]
  rfl
 refine take_ (i:=3) (N:=some 9) (v:=?_) (a':=?_) #[Y,Y,Y,Y,Y,X,X,X,Y,X,Y,X,X,X,X,X] rfl rfl ztw (fun _ _ _ h=>h) (Or.inl ⟨by rfl,?_⟩) hHeld ?_ ?_
 rotate_left
 ·rintro w' ⟨s0,s1,s2,s3⟩
  go_simp
  with_reducible rfl
 rotate_left
 ·simp only [Act.put,zp1,zp2,zp3,i64_w,i32_w]
  rfl
 refine take_ (i:=5) (N:=some 11) (v:=?_) (a':=?_) #[Y,Y,Y,Y,Y,Y,X,X,Y,X,Y,X,X,X,X,X] rfl rfl ztw (fun _ _ _ h=>h) (Or.inl ⟨by rfl,?_⟩) hHeld ?_ ?_
 rotate_left
 ·rintro w' ⟨s0,s1,s2,s3⟩
  go_simp
  with_reducible rfl
 rotate_left
 ·simp only [Act.put,zp1,zp2,zp3,i64_w,i32_w]
  rfl
 refine pure_ (i:=6) (N:=some 12) (v:=?_) (a':=?_) #[Y,Y,Y,Y,Y,Y,Y,X,Y,X,Y,X,X,X,X,X] rfl rfl zan (fun _ _ _ h=>h) (Or.inl ⟨by rfl,?_⟩) ?_ ?_
 rotate_left
 ·intro w'
  go_simp
  with_reducible rfl
 rotate_left
 ·simp only [Act.put,zp1,zp2,zp3,i64_w,i32_w]
  rfl
 refine pure_ (i:=7) (N:=some 13) (v:=?_) (a':=?_) #[Y,Y,Y,Y,Y,Y,Y,Y,Y,X,Y,X,X,X,X,X] rfl rfl zan (fun _ _ _ h=>h) (Or.inl ⟨by rfl,?_⟩) ?_ ?_
 rotate_left
 ·intro w'
  go_simp
  with_reducible rfl
 rotate_left
 ·simp only [Act.put,zp1,zp2,zp3,i64_w,i32_w]
  rfl
 refine take_ (i:=9) (N:=some 15) (v:=?_) (a':=?_) #[Y,Y,Y,Y,Y,Y,Y,Y,Y,Y,Y,X,X,X,X,X] rfl rfl ztw (fun _ _ _ h=>h) (Or.inl ⟨by rfl,?_⟩) hHeld ?_ ?_
 rotate_left
 ·rintro w' ⟨s0,s1,s2,s3⟩
  go_simp
  with_reducible rfl
 rotate_left
 ·simp only [Act.put,zp1,zp2,zp3,i64_w,i32_w]
  rfl
 refine take_ (i:=11) (N:=some 17) (v:=?_) (a':=?_) #[Y,Y,Y,Y,Y,Y,Y,Y,Y,Y,Y,Y,X,X,X,X] rfl rfl ztw (fun _ _ _ h=>h) (Or.inl ⟨by rfl,?_⟩) hHeld ?_ ?_
 rotate_left
 ·rintro w' ⟨s0,s1,s2,s3⟩
  go_simp
  with_reducible rfl
 rotate_left
 ·simp only [Act.put,zp1,zp2,zp3,i64_w,i32_w]
  rfl
 refine pure_ (i:=12) (N:=some 18) (v:=?_) (a':=?_) #[Y,Y,Y,Y,Y,Y,Y,Y,Y,Y,Y,Y,Y,X,X,X] rfl rfl zan (fun _ _ _ h=>h) (Or.inl ⟨by rfl,?_⟩) ?_ ?_
 rotate_left
 ·intro w'
  go_simp
  with_reducible rfl
 rotate_left
 ·simp only [Act.put,zp1,zp2,zp3,i64_w,i32_w]
  rfl
 refine pure_ (i:=13) (N:=some 19) (v:=?_) (a':=?_) #[Y,Y,Y,Y,Y,Y,Y,Y,Y,Y,Y,Y,Y,Y,X,X] rfl rfl zan (fun _ _ _ h=>h) (Or.inl ⟨by rfl,?_⟩) ?_ ?_
 rotate_left
 ·intro w'
  go_simp
  with_reducible rfl
 rotate_left
 ·simp only [Act.put,zp1,zp2,zp3,i64_w,i32_w]
  rfl
 refine one_ (i:=14) (N:=none) #[Y,Y,Y,Y,Y,Y,Y,Y,Y,Y,Y,Y,Y,Y,Y,X] rfl rfl (one_of HT_.out (by kernel_rfl)) (by decide) (fun K hK=>?_)
 have hs7:w6.cell? ⟨gb256,0,none⟩=some (.slice none 0 0):=(blk_cell BK256.out 0).trans rfl
 have hfs7:=blk_frozen BK256.out 0
 have hns7_0:=NB254_256.out
 have hns7_1:=NB255_256.out
 have hms7_0:=NB256_254.out
 have hms7_1:=NB256_255.out
 have hs8:w6.cell? ⟨gb256,1,none⟩=some (.int .i64 0):=(blk_cell BK256.out 1).trans rfl
 have hfs8:=blk_frozen BK256.out 1
 have hns8_0:=NB254_256.out
 have hns8_1:=NB255_256.out
 have hms8_0:=NB256_254.out
 have hms8_1:=NB256_255.out
 refine skip_ (w1:=?_) (by rfl) rfl ?_ ?_
 rotate_left
 ·go_simp
  rfl
 refine hK.out _ _ ⟨((cell_far (p:=⟨gb256,_,none⟩) NB254_256.out _).trans (((cell_far (p:=⟨gb256,_,none⟩) NB254_256.out _).trans (hHeld.1)))),((cell_far (p:=⟨gb256,_,none⟩) NB254_256.out _).trans (((cell_far (p:=⟨gb256,_,none⟩) NB254_256.out _).trans (hHeld.2.1)))),((cell_far (p:=⟨gb256,_,none⟩) NB255_256.out _).trans (((cell_far (p:=⟨gb256,_,none⟩) NB255_256.out _).trans (hHeld.2.2.1)))),((cell_far (p:=⟨gb256,_,none⟩) NB255_256.out _).trans (((cell_far (p:=⟨gb256,_,none⟩) NB255_256.out _).trans (hHeld.2.2.2))))⟩ (fun hHeld=>?_)
 clear hK K
 refine pure_ (i:=15) (N:=some 5) (v:=?_) (a':=?_) #[Y,Y,Y,Y,Y,Y,Y,Y,Y,Y,Y,Y,Y,Y,Y,Y] rfl rfl zan (fun _ _ _ h=>h) (Or.inl ⟨by rfl,?_⟩) ?_ ?_
 rotate_left
 ·intro w'
  go_simp
  with_reducible rfl
 rotate_left
 ·simp only [Act.put,zp1,zp2,zp3,i64_w,i32_w]
  rfl
 refine done_ (done_of HT_.out (by kernel_rfl)) ?_
 try go_wp2
 refine bodyPost_ret (results_ct rfl _ _ gb256 33 #[.slice A0_0 l0_0.length c0_0,.int .i64 (wrap64 (a0_1 + a1_1))] (0,0) _ rfl (by (with_reducible repeat (first|refine blk_drewN ?_ _|refine blk_drew ?_|refine blk_alloc ?_ _));refine blk_put (cs:=#[.slice A0_0 l0_0.length c0_0,.int .i64 0]) ?_ 1 _ rfl;(with_reducible repeat (first|refine blk_drewN ?_ _|refine blk_drew ?_|refine blk_alloc ?_ _));refine blk_put (cs:=#[.slice none 0 0,.int .i64 0]) ?_ 0 _ rfl;(with_reducible repeat (first|refine blk_drewN ?_ _|refine blk_drew ?_|refine blk_alloc ?_ _));exact BK256.out) Tryz.underlying33 rfl (by kernel_rfl)) rfl ?_
 exact ⟨_,by first|rfl|(simp [errW_none,errW_some] <;> rfl)|(simp [*,errW_none,errW_some] <;> rfl),by (with_reducible repeat (first|apply Kd.V_alloc|apply Kd.V_drewN|apply Kd.V_drew));exact Kd.V_mono (Kd.V_far (p:=⟨gb256,1,none⟩) (Kd.V_far (p:=⟨gb256,0,none⟩) (Kd.V_mono HO0_0.out (fun k_ hk=>(⟨hk,hk.2⟩:_∧k_≠gb256))) (fun _ hk=>hk.2) (.slice A0_0 l0_0.length c0_0)) (fun _ hk=>hk.2) (.int .i64 (wrap64 (a0_1 + a1_1)))) (fun _ hk=>hk.1.1.1.1),by repeat (first|(with_reducible first|exact HB.out|apply below_alloc|apply pw_below_drewN|apply below_drew1|refine below_set ?_ GE254.out|refine below_set ?_ GE255.out|refine below_set ?_ GE256.out)|exact HB.out)⟩

end Go.Proofs.YtgcplipimcbhlaaGreatDoor.PFnZRead
