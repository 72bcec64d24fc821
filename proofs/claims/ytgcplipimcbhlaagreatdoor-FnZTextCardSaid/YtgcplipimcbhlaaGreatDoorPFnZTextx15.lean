-- Written by wip/tools/pp.py, a program of this session over the kit's printer: not the kit's own print
import Derived.Test.YtgcplipimcbhlaaGreatDoorPFnZTextx0
import Derived.Test.YtgcplipimcbhlaaGreatDoorPFnZTextx1
import Derived.Test.YtgcplipimcbhlaaGreatDoorPFnZTextx3
import Derived.Test.YtgcplipimcbhlaaGreatDoorPFnZTextx14
namespace Go.Proofs.YtgcplipimcbhlaaGreatDoor.PFnZText
open Go.RowKit Go.Proofs.YtgcplipimcbhlaaGreatDoorW.PrintWords Go.Proofs.YtgcplipimcbhlaaGreatDoorW.PrintLast Go.Proofs.YtgcplipimcbhlaaGreatDoorW.PrintMore
attribute [local go_sem] max2_int min2_int max_two min_two max_three min_three max_four min_four   -- for this text's walks alone
set_option linter.unusedVariables false
set_option linter.unusedSimpArgs false

/-! ### spec_l2Two: function 43 -/
def spec_l2Two.f (k:Nat) (l0:List Int):Option ((List (S33)) × (List (S33))):=(spec_l12Open.f l0).bind fun bt350=>((spec_l2Bent.f k bt350.1 bt350.2).bind fun bt353=>((spec_l12Rd_pick.f bt350.1 bt353.2 5).bind fun bt357=>(if bt357.1=0 then ((spec_l2Copy.f k bt353.1).bind fun t359=>(some (bt353.1,t359))) else ((spec_l2Bent.f k bt350.1 bt357.2).bind fun bt362=>(some (bt353.1,bt362.1))))))
theorem spec_l2Two.mono : ∀ a0 k,LeO (spec_l2Two.f k a0) (spec_l2Two.f (k + 1) a0):=by
 intro a0 k
 unfold spec_l2Two.f
 repeat' first
   | (with_reducible exact spec_l2Bent.mono _ _ _)
   | (with_reducible exact spec_l2Copy.mono _ _)
   | (with_reducible exact LeO.refl _)
   | (with_reducible exact LeO.none _)
   | (with_reducible refine LeO.ite ?_ ?_)
   | (with_reducible refine LeO.bind ?_ (fun _=>?_))
   | exact LeO.none _
   | refine LeO.ite ?_ ?_
   | refine LeO.bind ?_ (fun _=>?_)
set_option maxHeartbeats 8000000 in
set_option maxRecDepth 100000 in
theorem spec_l2Two.calls (k:Nat) (A0:Option Addr) (c0:Nat) (l0:List Int) (r1:List (S33)) (r2:List (S33)) (w:World) (hr0:Kd.C (Kd.int .u8) w A0 l0.length l0) (hc0:l0.length≤c0) (h:spec_l2Two.f k l0=some (r1,r2)) :
  Calls Tryz.prog 43 #[.slice A0 l0.length c0] w fun e w'=>∃ v0_ v1_:Value,e=.returned (.tuple #[v0_,v1_])∧Kd.N k33 33 w' w.heap.size (fun k_=>(w.heap.size≤k_)∧some k_≠(v1_:Value).ownBlock) v0_ r1∧Kd.N k33 33 w' w.heap.size (fun k_=>(w.heap.size≤k_)∧some k_≠(v0_:Value).ownBlock) v1_ r2∧Below w.heap.size w w':=by
 have HR0:=Aside0.mk hr0
 have HC0:=Aside0.mk hc0
 clear hr0 hc0
 have HB:=Aside0.mk (Below.refl w.heap.size w)
 have H:((spec_l12Open.f l0).bind fun bt350=>((spec_l2Bent.f k bt350.1 bt350.2).bind fun bt353=>((spec_l12Rd_pick.f bt350.1 bt353.2 5).bind fun bt357=>(if bt357.1=0 then ((spec_l2Copy.f k bt353.1).bind fun t359=>(some (bt353.1,t359))) else ((spec_l2Bent.f k bt350.1 bt357.2).bind fun bt362=>(some (bt353.1,bt362.1)))))))=some (r1,r2):=h
 clear h
 replace H:=Option.bind_eq_some_iff.mp H
 obtain ⟨⟨t350,t351⟩,A20,H⟩:=H
 (try dsimp only at H)
 have A2:=Aside0.mk A20
 clear A20
 replace H:=Option.bind_eq_some_iff.mp H
 obtain ⟨⟨t353,t356⟩,A30,H⟩:=H
 (try dsimp only at H)
 have A3:=Aside0.mk A30
 clear A30
 replace H:=Option.bind_eq_some_iff.mp H
 obtain ⟨⟨t357,t358⟩,A40,H⟩:=H
 (try dsimp only at H)
 have A4:=Aside0.mk A40
 clear A40
 by_cases c5:t357=0
 ·rw [if_pos c5] at H
  have c5b0:(t357 == 0)=true:=beq_iff_eq.mpr c5
  have c5b1:(t357 != 0)=false:=bne_eq_false_iff_eq.mpr c5
  clear c5
  replace H:=Option.bind_eq_some_iff.mp H
  obtain ⟨t359,A60,H⟩:=H
  (try dsimp only at H)
  have A6:=Aside0.mk A60
  clear A60
  simp only [Option.some.injEq,Prod.mk.injEq] at H
  obtain ⟨rfl,rfl⟩:=H
  go_enter Tryz.func43,Tryz.ntmps43
  go_wp2_with (first|((with_reducible refine gate_callee (f:=19) rfl ?_);refine goesL_ (some 7) rfl rfl Tryz.func19 (by kernel_rfl) rfl #[.slice A0 l0.length c0] rfl zar ?_;(with_reducible refine (spec_l12Open.calls _ _ l0 t350 t351 w _ ?side1 ?side2 ?side3 A2.out).mono ?_);(case side1=>exact zhb);(case side2=>exact HR0.out);(case side3=>exact HC0.out);rintro e w7 ⟨g352,rfl,hi,hb,hb2⟩;refine ⟨_,rfl,?_⟩;have n0_:=Aside0.mk (hb);have n1_:=Aside0.mk (hi);clear HB;have HB:=n0_;have HI352:=n1_;clear n0_ n1_;(try clear hb);(try clear hb2);(try clear hk);(try clear hi))|((with_reducible refine gate_callee (f:=18) rfl ?_);refine goesL_ (some 9) rfl rfl Tryz.func18 (by kernel_rfl) rfl #[.pointer (some ⟨g352,0,none⟩)] rfl zar ?_;(with_reducible refine (spec_l2Bent.calls k g352 t350 t351 t353 t356 w _ ?side1 ?side2 A3.out).mono ?_);(case side1=>repeat (first|(with_reducible first|exact HI352.out|apply IsS71.alloc|apply IsS71.drewN|apply IsS71.drew|apply IsS71.set_1)|exact HI352.out));(case side2=>repeat (first|(with_reducible first|exact HB.out|apply below_alloc|apply pw_below_drewN|apply below_drew1|refine below_set ?_ (IsS71.ge HI352.out))|exact HB.out));rintro e w8 ⟨v354,rfl,ho0,hi,hb,hk⟩;refine ⟨_,rfl,?_⟩;have n0_:=Aside0.mk (Kd.N_lower (Kd.N_mono (ok':=fun k_=>(w.heap.size≤k_)∧k_≠g352) ho0 (fun k_ hk_=>⟨(Nat.le_trans (below_size (by repeat (first|(with_reducible first|exact HB.out|apply below_alloc|apply pw_below_drewN|apply below_drew1|refine below_set ?_ (IsS71.ge HI352.out))|exact HB.out))) hk_),(IsS71.fresh (by repeat (first|(with_reducible first|exact HI352.out|apply IsS71.alloc|apply IsS71.drewN|apply IsS71.drew|apply IsS71.set_1)|exact HI352.out)) k_ hk_)⟩)) (below_size (by repeat (first|(with_reducible first|exact HB.out|apply below_alloc|apply pw_below_drewN|apply below_drew1|refine below_set ?_ (IsS71.ge HI352.out))|exact HB.out))));have n1_:=Aside0.mk (hb);have n2_:=Aside0.mk (hi);clear HB;clear HI352;have HO355:=n0_;have HB:=n1_;have HI352:=n2_;clear n0_ n1_ n2_;(try clear hb);(try clear hb2);(try clear hk);(try clear hi);(try clear ho0))|((with_reducible refine gate_callee (f:=39) rfl ?_);refine goesL_ (some 11) rfl rfl Tryz.func39 (by kernel_rfl) rfl #[.pointer (some ⟨g352,0,none⟩),.int .i64 5] rfl zar ?_;(with_reducible refine (spec_l12Rd_pick.calls g352 t350 t356 5 t357 t358 w _ ?side1 ?side2 A4.out).mono ?_);(case side1=>repeat (first|(with_reducible first|exact HI352.out|apply IsS71.alloc|apply IsS71.drewN|apply IsS71.drew|apply IsS71.set_1)|exact HI352.out));(case side2=>repeat (first|(with_reducible first|exact HB.out|apply below_alloc|apply pw_below_drewN|apply below_drew1|refine below_set ?_ (IsS71.ge HI352.out))|exact HB.out));rintro e w9 ⟨rfl,hi,hb,hk⟩;refine ⟨_,rfl,?_⟩;have n0_:=Aside0.mk (Kd.N_mono (Kd.N_keep (Kd.N_mono (ok:=fun k_=>(((w.heap.size≤k_))∧k_≠g352)) (zN HO355.out) (fun k_ hk_=>(⟨hk_,hk_.2⟩:_∧k_≠g352))) hk (fun _ h=>h.2)) (fun _ h=>h.1));have n1_:=Aside0.mk (hb);have n2_:=Aside0.mk (hi);clear HO355;clear HB;clear HI352;have HO355:=n0_;have HB:=n1_;have HI352:=n2_;clear n0_ n1_ n2_;(try clear hb);(try clear hb2);(try clear hk);(try clear hi);obtain ⟨Ao10,co10,eo10⟩:=Kd.N_slice HO355.out;subst eo10)|((with_reducible refine gate_callee (f:=71) rfl ?_);refine goesL_ (some 15) rfl rfl Tryz.func71 (by kernel_rfl) rfl #[.slice Ao10 t353.length co10] rfl zar ?_;(with_reducible refine (spec_l2Copy.calls k _ _ t353 t359 _ ?side1 ?side2 A6.out).mono ?_);(case side1=>exact zC (Kd.N_reads' HO355.out).2.2);(case side2=>exact (Kd.N_reads' HO355.out).2.1);rintro e w11 ⟨v360,rfl,ho0,hb⟩;refine ⟨_,rfl,?_⟩;have n0_:=Aside0.mk (Kd.N_elder' (zN HO355.out) (Kd.S_base ho0) hb);have n1_:=Aside0.mk (Kd.N_lower (Kd.N_mono (ok':=fun k_=>(w.heap.size≤k_)∧some k_≠(.slice Ao10 t353.length co10:Value).ownBlock∧k_≠g352) (Kd.S_N (Kd.S_bound ho0)) (fun k_ hk_=>⟨(Nat.le_trans (below_size (by repeat (first|(with_reducible first|exact HB.out|apply below_alloc|apply pw_below_drewN|apply below_drew1|refine below_set ?_ (IsS71.ge HI352.out))|exact HB.out))) hk_.2.1),(Kd.fresh' (Kd.N_lt (zN HO355.out)) k_ hk_.2.1),(IsS71.fresh (by repeat (first|(with_reducible first|exact HI352.out|apply IsS71.alloc|apply IsS71.drewN|apply IsS71.drew|apply IsS71.set_1)|exact HI352.out)) k_ hk_.2.1)⟩)) (below_size (by repeat (first|(with_reducible first|exact HB.out|apply below_alloc|apply pw_below_drewN|apply below_drew1|refine below_set ?_ (IsS71.ge HI352.out))|exact HB.out))));have n2_:=Aside0.mk (IsS71.below (by repeat (first|(with_reducible first|exact HI352.out|apply IsS71.alloc|apply IsS71.drewN|apply IsS71.drew|apply IsS71.set_1)|exact HI352.out)) hb);have n3_:=Aside0.mk (below_step (by repeat (first|(with_reducible first|exact HB.out|apply below_alloc|apply pw_below_drewN|apply below_drew1|refine below_set ?_ (IsS71.ge HI352.out))|exact HB.out)) hb);clear HO355;clear HI352;clear HB;have HO355:=n0_;have HO361:=n1_;have HI352:=n2_;have HB:=n3_;clear n0_ n1_ n2_ n3_;(try clear hb);(try clear hb2);(try clear hk);(try clear hi);(try clear ho0)))
  go_ret2
  exact ⟨_,_,by first|rfl|(simp [errW_none,errW_some] <;> rfl)|(simp [*,errW_none,errW_some] <;> rfl),by (with_reducible repeat (first|apply Kd.N_alloc|apply Kd.N_drewN|apply Kd.N_drew));exact Kd.N_mono HO355.out (fun _ hk=>⟨hk.1.1,hk.2⟩),by (with_reducible repeat (first|apply Kd.N_alloc|apply Kd.N_drewN|apply Kd.N_drew));exact Kd.N_mono HO361.out (fun _ hk=>⟨hk.1,hk.2.1⟩),by repeat (first|(with_reducible first|exact HB.out|apply below_alloc|apply pw_below_drewN|apply below_drew1|refine below_set ?_ (IsS71.ge HI352.out))|exact HB.out)⟩
 ·rw [if_neg c5] at H
  have c5b0:(t357 == 0)=false:=beq_eq_false_iff_ne.mpr c5
  have c5b1:(t357 != 0)=true:=bne_iff_ne.mpr c5
  replace H:=Option.bind_eq_some_iff.mp H
  obtain ⟨⟨t362,t365⟩,A120,H⟩:=H
  (try dsimp only at H)
  have A12:=Aside0.mk A120
  clear A120
  simp only [Option.some.injEq,Prod.mk.injEq] at H
  obtain ⟨rfl,rfl⟩:=H
  go_enter Tryz.func43,Tryz.ntmps43
  go_wp2_with (first|((with_reducible refine gate_callee (f:=19) rfl ?_);refine goesL_ (some 7) rfl rfl Tryz.func19 (by kernel_rfl) rfl #[.slice A0 l0.length c0] rfl zar ?_;(with_reducible refine (spec_l12Open.calls _ _ l0 t350 t351 w _ ?side1 ?side2 ?side3 A2.out).mono ?_);(case side1=>exact zhb);(case side2=>exact HR0.out);(case side3=>exact HC0.out);rintro e w13 ⟨g352,rfl,hi,hb,hb2⟩;refine ⟨_,rfl,?_⟩;have n0_:=Aside0.mk (hb);have n1_:=Aside0.mk (hi);clear HB;have HB:=n0_;have HI352:=n1_;clear n0_ n1_;(try clear hb);(try clear hb2);(try clear hk);(try clear hi))|((with_reducible refine gate_callee (f:=18) rfl ?_);refine goesL_ (some 9) rfl rfl Tryz.func18 (by kernel_rfl) rfl #[.pointer (some ⟨g352,0,none⟩)] rfl zar ?_;(with_reducible refine (spec_l2Bent.calls k g352 t350 t351 t353 t356 w _ ?side1 ?side2 A3.out).mono ?_);(case side1=>repeat (first|(with_reducible first|exact HI352.out|apply IsS71.alloc|apply IsS71.drewN|apply IsS71.drew|apply IsS71.set_1)|exact HI352.out));(case side2=>repeat (first|(with_reducible first|exact HB.out|apply below_alloc|apply pw_below_drewN|apply below_drew1|refine below_set ?_ (IsS71.ge HI352.out))|exact HB.out));rintro e w14 ⟨v354,rfl,ho0,hi,hb,hk⟩;refine ⟨_,rfl,?_⟩;have n0_:=Aside0.mk (Kd.N_lower (Kd.N_mono (ok':=fun k_=>(w.heap.size≤k_)∧k_≠g352) ho0 (fun k_ hk_=>⟨(Nat.le_trans (below_size (by repeat (first|(with_reducible first|exact HB.out|apply below_alloc|apply pw_below_drewN|apply below_drew1|refine below_set ?_ (IsS71.ge HI352.out))|exact HB.out))) hk_),(IsS71.fresh (by repeat (first|(with_reducible first|exact HI352.out|apply IsS71.alloc|apply IsS71.drewN|apply IsS71.drew|apply IsS71.set_1)|exact HI352.out)) k_ hk_)⟩)) (below_size (by repeat (first|(with_reducible first|exact HB.out|apply below_alloc|apply pw_below_drewN|apply below_drew1|refine below_set ?_ (IsS71.ge HI352.out))|exact HB.out))));have n1_:=Aside0.mk (hb);have n2_:=Aside0.mk (hi);clear HB;clear HI352;have HO355:=n0_;have HB:=n1_;have HI352:=n2_;clear n0_ n1_ n2_;(try clear hb);(try clear hb2);(try clear hk);(try clear hi);(try clear ho0))|((with_reducible refine gate_callee (f:=39) rfl ?_);refine goesL_ (some 11) rfl rfl Tryz.func39 (by kernel_rfl) rfl #[.pointer (some ⟨g352,0,none⟩),.int .i64 5] rfl zar ?_;(with_reducible refine (spec_l12Rd_pick.calls g352 t350 t356 5 t357 t358 w _ ?side1 ?side2 A4.out).mono ?_);(case side1=>repeat (first|(with_reducible first|exact HI352.out|apply IsS71.alloc|apply IsS71.drewN|apply IsS71.drew|apply IsS71.set_1)|exact HI352.out));(case side2=>repeat (first|(with_reducible first|exact HB.out|apply below_alloc|apply pw_below_drewN|apply below_drew1|refine below_set ?_ (IsS71.ge HI352.out))|exact HB.out));rintro e w15 ⟨rfl,hi,hb,hk⟩;refine ⟨_,rfl,?_⟩;have n0_:=Aside0.mk (Kd.N_mono (Kd.N_keep (Kd.N_mono (ok:=fun k_=>(((w.heap.size≤k_))∧k_≠g352)) (zN HO355.out) (fun k_ hk_=>(⟨hk_,hk_.2⟩:_∧k_≠g352))) hk (fun _ h=>h.2)) (fun _ h=>h.1));have n1_:=Aside0.mk (hb);have n2_:=Aside0.mk (hi);clear HO355;clear HB;clear HI352;have HO355:=n0_;have HB:=n1_;have HI352:=n2_;clear n0_ n1_ n2_;(try clear hb);(try clear hb2);(try clear hk);(try clear hi))|((with_reducible refine gate_callee (f:=18) rfl ?_);refine goesL_ (some 18) rfl rfl Tryz.func18 (by kernel_rfl) rfl #[.pointer (some ⟨g352,0,none⟩)] rfl zar ?_;(with_reducible refine (spec_l2Bent.calls k g352 t350 t358 t362 t365 w _ ?side1 ?side2 A12.out).mono ?_);(case side1=>repeat (first|(with_reducible first|exact HI352.out|apply IsS71.alloc|apply IsS71.drewN|apply IsS71.drew|apply IsS71.set_1)|exact HI352.out));(case side2=>repeat (first|(with_reducible first|exact HB.out|apply below_alloc|apply pw_below_drewN|apply below_drew1|refine below_set ?_ (IsS71.ge HI352.out))|exact HB.out));rintro e w16 ⟨v363,rfl,ho0,hi,hb,hk⟩;refine ⟨_,rfl,?_⟩;have n0_:=Aside0.mk (Kd.N_mono (Kd.N_told (Kd.N_oldK (Kd.N_mono (ok:=fun k_=>(((w.heap.size≤k_))∧k_≠g352)) (zN HO355.out) (fun k_ hk_=>(⟨hk_,hk_.2⟩:_∧k_≠g352))) hk) (Kd.N_base ho0)) (fun _ h_=>h_.1));have n1_:=Aside0.mk (Kd.N_lower (Kd.N_mono (ok':=fun k_=>(w.heap.size≤k_)∧some k_≠(v354:Value).ownBlock∧k_≠g352) ho0 (fun k_ hk_=>⟨(Nat.le_trans (below_size (by repeat (first|(with_reducible first|exact HB.out|apply below_alloc|apply pw_below_drewN|apply below_drew1|refine below_set ?_ (IsS71.ge HI352.out))|exact HB.out))) hk_),(Kd.fresh' (Kd.N_lt (zN HO355.out)) k_ hk_),(IsS71.fresh (by repeat (first|(with_reducible first|exact HI352.out|apply IsS71.alloc|apply IsS71.drewN|apply IsS71.drew|apply IsS71.set_1)|exact HI352.out)) k_ hk_)⟩)) (below_size (by repeat (first|(with_reducible first|exact HB.out|apply below_alloc|apply pw_below_drewN|apply below_drew1|refine below_set ?_ (IsS71.ge HI352.out))|exact HB.out))));have n2_:=Aside0.mk (hb);have n3_:=Aside0.mk (hi);clear HO355;clear HB;clear HI352;have HO355:=n0_;have HO364:=n1_;have HB:=n2_;have HI352:=n3_;clear n0_ n1_ n2_ n3_;(try clear hb);(try clear hb2);(try clear hk);(try clear hi);(try clear ho0)))
  go_ret2
  exact ⟨_,_,by first|rfl|(simp [errW_none,errW_some] <;> rfl)|(simp [*,errW_none,errW_some] <;> rfl),by (with_reducible repeat (first|apply Kd.N_alloc|apply Kd.N_drewN|apply Kd.N_drew));exact Kd.N_mono HO355.out (fun _ hk=>⟨hk.1.1,hk.2⟩),by (with_reducible repeat (first|apply Kd.N_alloc|apply Kd.N_drewN|apply Kd.N_drew));exact Kd.N_mono HO364.out (fun _ hk=>⟨hk.1,hk.2.1⟩),by repeat (first|(with_reducible first|exact HB.out|apply below_alloc|apply pw_below_drewN|apply below_drew1|refine below_set ?_ (IsS71.ge HI352.out))|exact HB.out)⟩

/-! ### spec_DrawZSame: function 16 -/
def spec_DrawZSame.f (k:Nat) (l0:List Int):Option ((List (S33)) × (List (S33))):=(spec_l2Two.f k l0).bind fun bt366=>(some (bt366.1,bt366.2))
theorem spec_DrawZSame.mono : ∀ a0 k,LeO (spec_DrawZSame.f k a0) (spec_DrawZSame.f (k + 1) a0):=by
 intro a0 k
 unfold spec_DrawZSame.f
 repeat' first
   | (with_reducible exact spec_l2Two.mono _ _)
   | (with_reducible exact LeO.refl _)
   | (with_reducible exact LeO.none _)
   | (with_reducible refine LeO.ite ?_ ?_)
   | (with_reducible refine LeO.bind ?_ (fun _=>?_))
   | exact LeO.none _
   | refine LeO.ite ?_ ?_
   | refine LeO.bind ?_ (fun _=>?_)
set_option maxHeartbeats 8000000 in
set_option maxRecDepth 100000 in
theorem spec_DrawZSame.calls (k:Nat) (A0:Option Addr) (c0:Nat) (l0:List Int) (r1:List (S33)) (r2:List (S33)) (w:World) (hr0:Kd.C (Kd.int .u8) w A0 l0.length l0) (hc0:l0.length≤c0) (h:spec_DrawZSame.f k l0=some (r1,r2)) :
  Calls Tryz.prog 16 #[.slice A0 l0.length c0] w fun e w'=>∃ v0_ v1_:Value,e=.returned (.tuple #[v0_,v1_])∧Kd.N k33 33 w' w.heap.size (fun k_=>(w.heap.size≤k_)∧some k_≠(v1_:Value).ownBlock) v0_ r1∧Kd.N k33 33 w' w.heap.size (fun k_=>(w.heap.size≤k_)∧some k_≠(v0_:Value).ownBlock) v1_ r2∧Below w.heap.size w w':=by
 have HR0:=Aside0.mk hr0
 have HC0:=Aside0.mk hc0
 clear hr0 hc0
 have HB:=Aside0.mk (Below.refl w.heap.size w)
 have H:((spec_l2Two.f k l0).bind fun bt366=>(some (bt366.1,bt366.2)))=some (r1,r2):=h
 clear h
 replace H:=Option.bind_eq_some_iff.mp H
 obtain ⟨⟨t366,t369⟩,A20,H⟩:=H
 (try dsimp only at H)
 have A2:=Aside0.mk A20
 clear A20
 simp only [Option.some.injEq,Prod.mk.injEq] at H
 obtain ⟨rfl,rfl⟩:=H
 go_enter Tryz.func16,Tryz.ntmps16
 go_wp2_with (first|((with_reducible refine gate_callee (f:=43) rfl ?_);refine goesL_ (some 5) rfl rfl Tryz.func43 (by kernel_rfl) rfl #[.slice A0 l0.length c0] rfl zar ?_;(with_reducible refine (spec_l2Two.calls k _ _ l0 t366 t369 _ ?side1 ?side2 A2.out).mono ?_);(case side1=>exact zC HR0.out);(case side2=>exact HC0.out);rintro e w3 ⟨v367,v370,rfl,ho0,ho1,hb⟩;refine ⟨_,rfl,?_⟩;have n0_:=Aside0.mk (Kd.N_lower (Kd.N_mono (ok':=fun k_=>(w.heap.size≤k_)∧some k_≠(v370:Value).ownBlock) ho0 (fun k_ hk_=>⟨(Nat.le_trans (below_size zhb) hk_.1),hk_.2⟩)) (below_size zhb));have n1_:=Aside0.mk (Kd.N_lower (Kd.N_mono (ok':=fun k_=>(w.heap.size≤k_)∧some k_≠(v367:Value).ownBlock) ho1 (fun k_ hk_=>⟨(Nat.le_trans (below_size zhb) hk_.1),hk_.2⟩)) (below_size zhb));have n2_:=Aside0.mk (below_step zhb hb);clear HB;have HO368:=n0_;have HO371:=n1_;have HB:=n2_;clear n0_ n1_ n2_;(try clear hb);(try clear hb2);(try clear hk);(try clear hi);(try clear ho0);(try clear ho1)))
 go_ret2
 exact ⟨_,_,by first|rfl|(simp [errW_none,errW_some] <;> rfl)|(simp [*,errW_none,errW_some] <;> rfl),by (with_reducible repeat (first|apply Kd.N_alloc|apply Kd.N_drewN|apply Kd.N_drew));exact HO368.out,by (with_reducible repeat (first|apply Kd.N_alloc|apply Kd.N_drewN|apply Kd.N_drew));exact HO371.out,zhb⟩

/-! ### spec_ZSame: function 17 -/
def spec_ZSame.l0:Nat→List (S33)→List (S33)→Int→Option (Bool)
 | 0,_,_,_=>none
 | k + 1,x0,x1,x5=>if x5 < (x0.length:Int) then (if 0≤x5 then (if x5 < (x1.length:Int) then (if ((rd_T33 x0 x5).f1)=((rd_T33 x1 x5).f1) then ((spec_RowSame.f k ((rd_T33 x0 x5).f0) ((rd_T33 x1 x5).f0)).bind fun t376=>(if t376=true then (spec_ZSame.l0 k x0 x1 (wrap64 (x5 + 1))) else (some false))) else (some false)) else (none)) else (none)) else (some true)
def spec_ZSame.f (k:Nat) (l0:List (S33)) (l1:List (S33)):Option (Bool):=if (l0.length:Int)=(l1.length:Int) then (spec_ZSame.l0 k l0 l1 0) else (some false)
theorem spec_ZSame.mono_l : ∀ k,(∀ y0 y1 y2,LeO (spec_ZSame.l0 k y0 y1 y2) (spec_ZSame.l0 (k + 1) y0 y1 y2))
 | 0=>fun _ _ _ r h=>by simp [spec_ZSame.l0] at h
 | k + 1=>by
  have ih0:=spec_ZSame.mono_l k
  ·intro y0 y1 y2
   unfold spec_ZSame.l0
   repeat' first
   | (with_reducible exact ih0 _ _ _)
   | (with_reducible exact spec_RowSame.mono _ _ _)
   | (with_reducible exact LeO.refl _)
   | (with_reducible exact LeO.none _)
   | (with_reducible refine LeO.ite ?_ ?_)
   | (with_reducible refine LeO.bind ?_ (fun _=>?_))
   | exact LeO.none _
   | refine LeO.ite ?_ ?_
   | refine LeO.bind ?_ (fun _=>?_)
theorem spec_ZSame.mono : ∀ a0 a1 k,LeO (spec_ZSame.f k a0 a1) (spec_ZSame.f (k + 1) a0 a1):=by
 intro a0 a1 k
 have ih0:=spec_ZSame.mono_l k
 unfold spec_ZSame.f
 repeat' first
   | (with_reducible exact ih0 _ _ _)
   | (with_reducible exact spec_RowSame.mono _ _ _)
   | (with_reducible exact LeO.refl _)
   | (with_reducible exact LeO.none _)
   | (with_reducible refine LeO.ite ?_ ?_)
   | (with_reducible refine LeO.bind ?_ (fun _=>?_))
   | exact LeO.none _
   | refine LeO.ite ?_ ?_
   | refine LeO.bind ?_ (fun _=>?_)
set_option maxHeartbeats 8000000 in
set_option maxRecDepth 100000 in
theorem spec_ZSame.calls (k:Nat) (A0:Option Addr) (c0:Nat) (l0:List (S33)) (A1:Option Addr) (c1:Nat) (l1:List (S33)) (r:Bool) (w:World) (hr0:Kd.C k33 w A0 l0.length l0) (hc0:l0.length≤c0) (hr1:Kd.C k33 w A1 l1.length l1) (hc1:l1.length≤c1) (h:spec_ZSame.f k l0 l1=some r) :
  Calls Tryz.prog 17 #[.slice A0 l0.length c0,.slice A1 l1.length c1] w fun e w'=>e=.returned (.bool r)∧Drawn0 w w':=by
 have HR0:=Aside0.mk hr0
 have HC0:=Aside0.mk hc0
 clear hr0 hc0
 have HR1:=Aside0.mk hr1
 have HC1:=Aside0.mk hc1
 clear hr1 hc1
 have H:(if (l0.length:Int)=(l1.length:Int) then (spec_ZSame.l0 k l0 l1 0) else (some false))=some r:=h
 clear h
 by_cases c3:(l0.length:Int)=(l1.length:Int)
 ·rw [if_pos c3] at H
  have c3b0:((l0.length:Int) == (l1.length:Int))=true:=beq_iff_eq.mpr c3
  have c3b1:((l0.length:Int) != (l1.length:Int))=false:=bne_eq_false_iff_eq.mpr c3
  have c3b2:(l0.length == l1.length)=true:=by first|simpa using c3|(simp at c3 ⊢;omega)
  clear c3
  have H':=Aside0.mk H
  clear H
  go_enter Tryz.func17,Tryz.ntmps17
  go_wp2
  repeat (go_quiet (fail);try go_wp2)
  go_loopg [5] k (fun kq v5 w'=>∃ (x5_1:Int),v5=.int .i64 x5_1∧Aside0 (spec_ZSame.l0 kq l0 l1 x5_1=some r)∧Aside0 (kq≤k)∧Drawn0 w w')
  case atStart=>exact ⟨(0),(by first|rfl|(simp;done)|(simp [*];done)),H',⟨Nat.le_refl _⟩,zdw⟩
  case round =>
   clear H'
   try clear c1
   try clear p2
   try clear c3
   try clear c3b0
   try clear c3b1
   try clear c3b2
   obtain ⟨x5_1,rfl,HA,HK1,⟨m1,rfl⟩⟩:=hrel
   cases gk with
   | zero=>exact absurd HA.out (by simp [spec_ZSame.l0])
   | succ k1 =>
    have H:=HA.out
    clear HA
    simp only [spec_ZSame.l0] at H
    by_cases c4:x5_1 < (l0.length:Int)
    ·rw [if_pos c4] at H
     have c4b0:decide (x5_1 < (l0.length:Int))=true:=decide_eq_true c4
     clear c4
     by_cases c5:0≤x5_1
     ·rw [if_pos c5] at H
      have c5b0:decide (0≤x5_1)=true:=decide_eq_true c5
      clear c5
      by_cases c6:x5_1 < (l1.length:Int)
      ·rw [if_pos c6] at H
       have c6b0:decide (x5_1 < (l1.length:Int))=true:=decide_eq_true c6
       clear c6
       by_cases c7:((rd_T33 l0 x5_1).f1)=((rd_T33 l1 x5_1).f1)
       ·rw [if_pos c7] at H
        have c7b0:(((rd_T33 l0 x5_1).f1) == ((rd_T33 l1 x5_1).f1))=true:=beq_iff_eq.mpr c7
        have c7b1:(((rd_T33 l0 x5_1).f1) != ((rd_T33 l1 x5_1).f1))=false:=bne_eq_false_iff_eq.mpr c7
        clear c7
        replace H:=Option.bind_eq_some_iff.mp H
        obtain ⟨t376,A80,H⟩:=H
        (try dsimp only at H)
        have A8:=Aside0.mk A80
        clear A80
        by_cases c9:t376=true
        ·subst c9
         have H1:(spec_ZSame.l0 k1 l0 l1 (wrap64 (x5_1 + 1)))=some r:=by rw [if_pos rfl] at H;exact H
         clear H
         have H:=H1
         clear H1
         have H':=Aside0.mk H
         clear H
         have p372:0≤(x5_1:Int):=zod
         have q372:x5_1 < (l0.length:Int):=zod
         obtain ⟨ad372,A372_0,c372_0,e372,hx372_0,hx372_1,hl372_0,hi372_0⟩:=at_T33 HR0.out x5_1 p372 q372
         cases e372
         have HR372_0:=Aside0.mk hi372_0
         have HC372_0:=Aside0.mk hl372_0
         clear hi372_0 hl372_0
         replace p372:=eq_true p372
         replace q372:=eq_true q372
         have p373:0≤(x5_1:Int):=zod
         have q373:x5_1 < (l1.length:Int):=zod
         obtain ⟨ad373,A373_0,c373_0,e373,hx373_0,hx373_1,hl373_0,hi373_0⟩:=at_T33 HR1.out x5_1 p373 q373
         cases e373
         have HR373_0:=Aside0.mk hi373_0
         have HC373_0:=Aside0.mk hl373_0
         clear hi373_0 hl373_0
         replace p373:=eq_true p373
         replace q373:=eq_true q373
         have p374:0≤(x5_1:Int):=zod
         have q374:x5_1 < (l0.length:Int):=zod
         obtain ⟨ad374,A374_0,c374_0,e374,hx374_0,hx374_1,hl374_0,hi374_0⟩:=at_T33 HR0.out x5_1 p374 q374
         obtain rfl:ad372=ad374:=(by injection e374)
         have HR374_0:=Aside0.mk hi374_0
         have HC374_0:=Aside0.mk hl374_0
         clear hi374_0 hl374_0
         replace p374:=eq_true p374
         replace q374:=eq_true q374
         have ea_:=Option.some.inj (hx372_0.symm.trans hx374_0)
         injection ea_ with ea_ en_ ec_
         subst ea_
         subst ec_
         clear en_
         have p375:0≤(x5_1:Int):=zod
         have q375:x5_1 < (l1.length:Int):=zod
         obtain ⟨ad375,A375_0,c375_0,e375,hx375_0,hx375_1,hl375_0,hi375_0⟩:=at_T33 HR1.out x5_1 p375 q375
         obtain rfl:ad373=ad375:=(by injection e375)
         have HR375_0:=Aside0.mk hi375_0
         have HC375_0:=Aside0.mk hl375_0
         clear hi375_0 hl375_0
         replace p375:=eq_true p375
         replace q375:=eq_true q375
         have ea_:=Option.some.inj (hx373_0.symm.trans hx375_0)
         injection ea_ with ea_ en_ ec_
         subst ea_
         subst ec_
         clear en_
         go_wp2_with (first|(go_at_call 44;(with_reducible refine (spec_RowSame.calls k1 _ _ ((rd_T33 l0 x5_1).f0) _ _ ((rd_T33 l1 x5_1).f0) true _ ?side1 ?side2 ?side3 ?side4 A8.out).mono ?_);(case side1=>exact zC HR374_0.out);(case side2=>exact HC374_0.out);(case side3=>exact zC HR375_0.out);(case side4=>exact HC375_0.out);rintro e w' ⟨rfl,⟨nd,rfl⟩⟩;(try first|exact ⟨rfl,_,World.drewN_drewN _ _ _⟩|exact ⟨rfl,_,Eq.trans (World.drewN_drewN _ _ _) (congrArg (World.drewN _) (Nat.add_assoc _ _ _))⟩)))
         repeat (go_quiet (first|(go_at_call 44;(with_reducible refine (spec_RowSame.calls k1 _ _ ((rd_T33 l0 x5_1).f0) _ _ ((rd_T33 l1 x5_1).f0) true _ ?side1 ?side2 ?side3 ?side4 A8.out).mono ?_);(case side1=>exact zC HR374_0.out);(case side2=>exact HC374_0.out);(case side3=>exact zC HR375_0.out);(case side4=>exact HC375_0.out);rintro e w' ⟨rfl,⟨nd,rfl⟩⟩;(try first|exact ⟨rfl,_,World.drewN_drewN _ _ _⟩|exact ⟨rfl,_,Eq.trans (World.drewN_drewN _ _ _) (congrArg (World.drewN _) (Nat.add_assoc _ _ _))⟩)));try go_wp2_with (first|(go_at_call 44;(with_reducible refine (spec_RowSame.calls k1 _ _ ((rd_T33 l0 x5_1).f0) _ _ ((rd_T33 l1 x5_1).f0) true _ ?side1 ?side2 ?side3 ?side4 A8.out).mono ?_);(case side1=>exact zC HR374_0.out);(case side2=>exact HC374_0.out);(case side3=>exact zC HR375_0.out);(case side4=>exact HC375_0.out);rintro e w' ⟨rfl,⟨nd,rfl⟩⟩;(try first|exact ⟨rfl,_,World.drewN_drewN _ _ _⟩|exact ⟨rfl,_,Eq.trans (World.drewN_drewN _ _ _) (congrArg (World.drewN _) (Nat.add_assoc _ _ _))⟩))))
         go_roundg k1
         case measure=>have:=HK1.out;omega
         case rel=>exact ⟨(wrap64 (x5_1 + 1)),(by first|rfl|(simp;done)|(simp [*];done)),H',⟨by have:=HK1.out;omega⟩,zdw⟩
        ·replace c9:=Bool.eq_false_iff.mpr c9
         subst c9
         have H1:(some false)=some r:=by rw [if_neg (show ¬ (false=true) by decide)] at H;exact H
         clear H
         have H:=H1
         clear H1
         obtain rfl:=Option.some.inj H
         have p372:0≤(x5_1:Int):=zod
         have q372:x5_1 < (l0.length:Int):=zod
         obtain ⟨ad372,A372_0,c372_0,e372,hx372_0,hx372_1,hl372_0,hi372_0⟩:=at_T33 HR0.out x5_1 p372 q372
         cases e372
         have HR372_0:=Aside0.mk hi372_0
         have HC372_0:=Aside0.mk hl372_0
         clear hi372_0 hl372_0
         replace p372:=eq_true p372
         replace q372:=eq_true q372
         have p373:0≤(x5_1:Int):=zod
         have q373:x5_1 < (l1.length:Int):=zod
         obtain ⟨ad373,A373_0,c373_0,e373,hx373_0,hx373_1,hl373_0,hi373_0⟩:=at_T33 HR1.out x5_1 p373 q373
         cases e373
         have HR373_0:=Aside0.mk hi373_0
         have HC373_0:=Aside0.mk hl373_0
         clear hi373_0 hl373_0
         replace p373:=eq_true p373
         replace q373:=eq_true q373
         have p374:0≤(x5_1:Int):=zod
         have q374:x5_1 < (l0.length:Int):=zod
         obtain ⟨ad374,A374_0,c374_0,e374,hx374_0,hx374_1,hl374_0,hi374_0⟩:=at_T33 HR0.out x5_1 p374 q374
         obtain rfl:ad372=ad374:=(by injection e374)
         have HR374_0:=Aside0.mk hi374_0
         have HC374_0:=Aside0.mk hl374_0
         clear hi374_0 hl374_0
         replace p374:=eq_true p374
         replace q374:=eq_true q374
         have ea_:=Option.some.inj (hx372_0.symm.trans hx374_0)
         injection ea_ with ea_ en_ ec_
         subst ea_
         subst ec_
         clear en_
         have p375:0≤(x5_1:Int):=zod
         have q375:x5_1 < (l1.length:Int):=zod
         obtain ⟨ad375,A375_0,c375_0,e375,hx375_0,hx375_1,hl375_0,hi375_0⟩:=at_T33 HR1.out x5_1 p375 q375
         obtain rfl:ad373=ad375:=(by injection e375)
         have HR375_0:=Aside0.mk hi375_0
         have HC375_0:=Aside0.mk hl375_0
         clear hi375_0 hl375_0
         replace p375:=eq_true p375
         replace q375:=eq_true q375
         have ea_:=Option.some.inj (hx373_0.symm.trans hx375_0)
         injection ea_ with ea_ en_ ec_
         subst ea_
         subst ec_
         clear en_
         go_wp2_with (first|(go_at_call 44;(with_reducible refine (spec_RowSame.calls k1 _ _ ((rd_T33 l0 x5_1).f0) _ _ ((rd_T33 l1 x5_1).f0) false _ ?side1 ?side2 ?side3 ?side4 A8.out).mono ?_);(case side1=>exact zC HR374_0.out);(case side2=>exact HC374_0.out);(case side3=>exact zC HR375_0.out);(case side4=>exact HC375_0.out);rintro e w' ⟨rfl,⟨nd,rfl⟩⟩;(try first|exact ⟨rfl,_,World.drewN_drewN _ _ _⟩|exact ⟨rfl,_,Eq.trans (World.drewN_drewN _ _ _) (congrArg (World.drewN _) (Nat.add_assoc _ _ _))⟩)))
         repeat (go_quiet (first|(go_at_call 44;(with_reducible refine (spec_RowSame.calls k1 _ _ ((rd_T33 l0 x5_1).f0) _ _ ((rd_T33 l1 x5_1).f0) false _ ?side1 ?side2 ?side3 ?side4 A8.out).mono ?_);(case side1=>exact zC HR374_0.out);(case side2=>exact HC374_0.out);(case side3=>exact zC HR375_0.out);(case side4=>exact HC375_0.out);rintro e w' ⟨rfl,⟨nd,rfl⟩⟩;(try first|exact ⟨rfl,_,World.drewN_drewN _ _ _⟩|exact ⟨rfl,_,Eq.trans (World.drewN_drewN _ _ _) (congrArg (World.drewN _) (Nat.add_assoc _ _ _))⟩)));try go_wp2_with (first|(go_at_call 44;(with_reducible refine (spec_RowSame.calls k1 _ _ ((rd_T33 l0 x5_1).f0) _ _ ((rd_T33 l1 x5_1).f0) false _ ?side1 ?side2 ?side3 ?side4 A8.out).mono ?_);(case side1=>exact zC HR374_0.out);(case side2=>exact HC374_0.out);(case side3=>exact zC HR375_0.out);(case side4=>exact HC375_0.out);rintro e w' ⟨rfl,⟨nd,rfl⟩⟩;(try first|exact ⟨rfl,_,World.drewN_drewN _ _ _⟩|exact ⟨rfl,_,Eq.trans (World.drewN_drewN _ _ _) (congrArg (World.drewN _) (Nat.add_assoc _ _ _))⟩))))
         go_ret
         exact ⟨by first|rfl|(simp;done)|(simp [*];done),zdw⟩
       ·rw [if_neg c7] at H
        have c7b0:(((rd_T33 l0 x5_1).f1) == ((rd_T33 l1 x5_1).f1))=false:=beq_eq_false_iff_ne.mpr c7
        have c7b1:(((rd_T33 l0 x5_1).f1) != ((rd_T33 l1 x5_1).f1))=true:=bne_iff_ne.mpr c7
        obtain rfl:=Option.some.inj H
        have p372:0≤(x5_1:Int):=zod
        have q372:x5_1 < (l0.length:Int):=zod
        obtain ⟨ad372,A372_0,c372_0,e372,hx372_0,hx372_1,hl372_0,hi372_0⟩:=at_T33 HR0.out x5_1 p372 q372
        cases e372
        have HR372_0:=Aside0.mk hi372_0
        have HC372_0:=Aside0.mk hl372_0
        clear hi372_0 hl372_0
        replace p372:=eq_true p372
        replace q372:=eq_true q372
        have p373:0≤(x5_1:Int):=zod
        have q373:x5_1 < (l1.length:Int):=zod
        obtain ⟨ad373,A373_0,c373_0,e373,hx373_0,hx373_1,hl373_0,hi373_0⟩:=at_T33 HR1.out x5_1 p373 q373
        cases e373
        have HR373_0:=Aside0.mk hi373_0
        have HC373_0:=Aside0.mk hl373_0
        clear hi373_0 hl373_0
        replace p373:=eq_true p373
        replace q373:=eq_true q373
        go_wp2
        repeat (go_quiet (fail);try go_wp2)
        go_ret
        exact ⟨by first|rfl|(simp;done)|(simp [*];done),zdw⟩
      ·rw [if_neg c6] at H
       exact absurd H (by simp)
     ·rw [if_neg c5] at H
      exact absurd H (by simp)
    ·rw [if_neg c4] at H
     have c4b0:decide (x5_1 < (l0.length:Int))=false:=decide_eq_false c4
     clear c4
     obtain rfl:=Option.some.inj H
     go_wp2
     repeat (go_quiet (fail);try go_wp2)
     go_ret
     exact ⟨by first|rfl|(simp;done)|(simp [*];done),zdw⟩
 ·rw [if_neg c3] at H
  have c3b0:((l0.length:Int) == (l1.length:Int))=false:=beq_eq_false_iff_ne.mpr c3
  have c3b1:((l0.length:Int) != (l1.length:Int))=true:=bne_iff_ne.mpr c3
  have c3b2:(l0.length == l1.length)=false:=by first|simpa using c3|(simp at c3 ⊢;omega)
  obtain rfl:=Option.some.inj H
  go_enter Tryz.func17,Tryz.ntmps17
  go_wp2
  repeat (go_quiet (fail);try go_wp2)
  go_ret
  exact ⟨by first|rfl|(simp;done)|(simp [*];done),zdw⟩

end Go.Proofs.YtgcplipimcbhlaaGreatDoor.PFnZText
