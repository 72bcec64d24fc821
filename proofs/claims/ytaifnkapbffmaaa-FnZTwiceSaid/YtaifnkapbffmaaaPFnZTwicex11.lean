-- Written by wip/tools/pp.py, a program of this session over the kit's printer: not the kit's own print
import Derived.Test.YtaifnkapbffmaaaPFnZTwicex0
import Derived.Test.YtaifnkapbffmaaaPFnZTwicex4
import Derived.Test.YtaifnkapbffmaaaPFnZTwicex6
import Derived.Test.YtaifnkapbffmaaaPFnZTwicex10
namespace Go.Proofs.Ytaifnkapbffmaaa.PFnZTwice
open Go.RowKit Go.Proofs.YtaifnkapbffmaaaW.PrintWords Go.Proofs.YtaifnkapbffmaaaW.PrintLast Go.Proofs.YtaifnkapbffmaaaW.PrintMore
attribute [local go_sem] max2_int min2_int max_two min_two max_three min_three max_four min_four   -- for this text's walks alone
set_option linter.unusedVariables false
set_option linter.unusedSimpArgs false

/-! ### spec_l2Bent: function 67 -/
def spec_l2Bent.l0:Nat→List (S54)→Int→List Int→Int→Option ((List (S54)) × Int)
 | 0,_,_,_,_=>none
 | k + 1,x3,x5,x1000,x1001=>if x5 < 101 then ((spec_l2Put.f k x3 (([wrap64 (10 + x5)]:List Int)) 1).bind fun t325=>(spec_l2Bent.l0 k t325 (wrap64 (x5 + 1)) x1000 x1001)) else (some (x3,x1001))
def spec_l2Bent.f (k:Nat) (s0_0:List Int) (s0_1:Int):Option ((List (S54)) × Int):=(spec_l12Rd_pick.f s0_0 s0_1 3).bind fun bt298=>((spec_l2Z.f k s0_0 bt298.2 (wrap64 (1 + bt298.1)) 6).bind fun bt300=>(if (bt300.1.length:Int)=0 then (some (bt300.1,bt300.2)) else ((spec_l12Rd_pick.f s0_0 bt300.2 (bt300.1.length:Int)).bind fun bt304=>((spec_l12Rd_pick.f s0_0 bt304.2 40).bind fun bt306=>(if bt306.1=0 then ((spec_l12Rd_num.f s0_0 bt306.2 (([0,10000,10001,(-10000)]:List Int))).bind fun bt311=>(if 0≤bt304.1 then (if bt304.1 < (bt300.1.length:Int) then (some ((bt300.1.set (bt304.1:Int).toNat (⟨(rd_T54 bt300.1 bt304.1).f0,bt311.1⟩:S54)),bt311.2)) else (none)) else (none))) else (if bt306.1=1 then (if 0≤bt304.1 then (if bt304.1 < (bt300.1.length:Int) then (some ((bt300.1.set (bt304.1:Int).toNat (⟨(([]:List Int)),(rd_T54 bt300.1 bt304.1).f1⟩:S54)),bt306.2)) else (none)) else (none)) else (if bt306.1=2 then (if 0 < (bt300.1.length:Int) then (if bt300.1.length < 4398046511104 then (some ((bt300.1 ++ [(⟨(rd_T54 bt300.1 0).f0,(rd_T54 bt300.1 0).f1⟩:S54)]),bt306.2)) else (none)) else (none)) else (if bt306.1=3 then (spec_l2Bent.l0 k bt300.1 0 s0_0 bt306.2) else (some (bt300.1,bt306.2))))))))))
theorem spec_l2Bent.mono_l : ∀ k,(∀ y0 y1 y2 y3,LeO (spec_l2Bent.l0 k y0 y1 y2 y3) (spec_l2Bent.l0 (k + 1) y0 y1 y2 y3))
 | 0=>fun _ _ _ _ r h=>by simp [spec_l2Bent.l0] at h
 | k + 1=>by
  have ih0:=spec_l2Bent.mono_l k
  ·intro y0 y1 y2 y3
   unfold spec_l2Bent.l0
   repeat' first
   | (with_reducible exact ih0 _ _ _ _)
   | (with_reducible exact spec_l2Put.mono _ _ _ _)
   | (with_reducible exact spec_l2Z.mono _ _ _ _ _)
   | (with_reducible exact LeO.refl _)
   | (with_reducible exact LeO.none _)
   | (with_reducible refine LeO.ite ?_ ?_)
   | (with_reducible refine LeO.bind ?_ (fun _=>?_))
   | exact LeO.none _
   | refine LeO.ite ?_ ?_
   | refine LeO.bind ?_ (fun _=>?_)
theorem spec_l2Bent.mono : ∀ a0 a1 k,LeO (spec_l2Bent.f k a0 a1) (spec_l2Bent.f (k + 1) a0 a1):=by
 intro a0 a1 k
 have ih0:=spec_l2Bent.mono_l k
 unfold spec_l2Bent.f
 repeat' first
   | (with_reducible exact ih0 _ _ _ _)
   | (with_reducible exact spec_l2Put.mono _ _ _ _)
   | (with_reducible exact spec_l2Z.mono _ _ _ _ _)
   | (with_reducible exact LeO.refl _)
   | (with_reducible exact LeO.none _)
   | (with_reducible refine LeO.ite ?_ ?_)
   | (with_reducible refine LeO.bind ?_ (fun _=>?_))
   | exact LeO.none _
   | refine LeO.ite ?_ ?_
   | refine LeO.bind ?_ (fun _=>?_)
set_option maxHeartbeats 8000000 in
set_option maxRecDepth 100000 in
theorem spec_l2Bent.calls (k:Nat) (g:Nat) (s0_0:List Int) (s0_1:Int) (r1:List (S54)) (r2:Int) (w0 w:World) (hI:IsS131 w0 w g s0_0 s0_1) (hB:Below w0.heap.size w0 w) (h:spec_l2Bent.f k s0_0 s0_1=some (r1,r2)) :
  Calls Try.prog 67 #[.pointer (some ⟨g,0,none⟩)] w fun e w'=>∃ v0_:Value,e=.returned (v0_)∧Kd.N k54 54 w' w.heap.size (fun k_=>(w.heap.size≤k_)) v0_ r1∧IsS131 w0 w' g s0_0 r2∧Below w0.heap.size w0 w'∧KeepBut w w' g none:=by
 have hu54:=Try.underlying54
 have HI0:=Aside0.mk hI
 have HK:=Aside0.mk (KeepBut.refl w g none)
 have HL:=Aside0.mk hB.size
 clear hI
 have HW0:=Aside0.mk hB.size
 have HB:=Aside0.mk hB
 clear hB
 have H:((spec_l12Rd_pick.f s0_0 s0_1 3).bind fun bt298=>((spec_l2Z.f k s0_0 bt298.2 (wrap64 (1 + bt298.1)) 6).bind fun bt300=>(if (bt300.1.length:Int)=0 then (some (bt300.1,bt300.2)) else ((spec_l12Rd_pick.f s0_0 bt300.2 (bt300.1.length:Int)).bind fun bt304=>((spec_l12Rd_pick.f s0_0 bt304.2 40).bind fun bt306=>(if bt306.1=0 then ((spec_l12Rd_num.f s0_0 bt306.2 (([0,10000,10001,(-10000)]:List Int))).bind fun bt311=>(if 0≤bt304.1 then (if bt304.1 < (bt300.1.length:Int) then (some ((bt300.1.set (bt304.1:Int).toNat (⟨(rd_T54 bt300.1 bt304.1).f0,bt311.1⟩:S54)),bt311.2)) else (none)) else (none))) else (if bt306.1=1 then (if 0≤bt304.1 then (if bt304.1 < (bt300.1.length:Int) then (some ((bt300.1.set (bt304.1:Int).toNat (⟨(([]:List Int)),(rd_T54 bt300.1 bt304.1).f1⟩:S54)),bt306.2)) else (none)) else (none)) else (if bt306.1=2 then (if 0 < (bt300.1.length:Int) then (if bt300.1.length < 4398046511104 then (some ((bt300.1 ++ [(⟨(rd_T54 bt300.1 0).f0,(rd_T54 bt300.1 0).f1⟩:S54)]),bt306.2)) else (none)) else (none)) else (if bt306.1=3 then (spec_l2Bent.l0 k bt300.1 0 s0_0 bt306.2) else (some (bt300.1,bt306.2)))))))))))=some (r1,r2):=h
 clear h
 replace H:=Option.bind_eq_some_iff.mp H
 obtain ⟨⟨t298,t299⟩,A20,H⟩:=H
 (try dsimp only at H)
 have A2:=Aside0.mk A20
 clear A20
 replace H:=Option.bind_eq_some_iff.mp H
 obtain ⟨⟨t300,t303⟩,A30,H⟩:=H
 (try dsimp only at H)
 have A3:=Aside0.mk A30
 clear A30
 by_cases c4:(t300.length:Int)=0
 ·rw [if_pos c4] at H
  have c4b0:((t300.length:Int) == 0)=true:=beq_iff_eq.mpr c4
  have c4b1:((t300.length:Int) != 0)=false:=bne_eq_false_iff_eq.mpr c4
  clear c4
  simp only [Option.some.injEq,Prod.mk.injEq] at H
  obtain ⟨rfl,rfl⟩:=H
  go_enter Try.func67,Try.ntmps67
  go_wp2_with (first|((with_reducible refine gate_callee (f:=83) rfl ?_);refine goesL_ (some 8) rfl rfl Try.func83 (by kernel_rfl) rfl #[.pointer (some ⟨g,0,none⟩),.int .i64 3] rfl zar ?_;(with_reducible refine (spec_l12Rd_pick.calls g s0_0 s0_1 3 t298 t299 w0 _ ?side1 ?side2 A2.out).mono ?_);(case side1=>exact zi131);(case side2=>exact zg131);rintro e w5 ⟨rfl,hi,hb,hk⟩;refine ⟨_,rfl,?_⟩;have n0_:=Aside0.mk (KeepBut.trans zhk hk (.inl rfl));have n1_:=Aside0.mk (hb);have n2_:=Aside0.mk (hi);clear HK;clear HB;clear HI0;have HK:=n0_;have HB:=n1_;have HI0:=n2_;clear n0_ n1_ n2_;(try clear hb);(try clear hb2);(try clear hk);(try clear hi))|((with_reducible refine gate_callee (f:=114) rfl ?_);refine goesL_ (some 10) rfl rfl Try.func114 (by kernel_rfl) rfl #[.pointer (some ⟨g,0,none⟩),.int .i64 (wrap64 (1 + t298)),.int .i64 6] rfl zar ?_;(with_reducible refine (spec_l2Z.calls k g s0_0 t299 (wrap64 (1 + t298)) 6 t300 t303 w0 _ ?side1 ?side2 A3.out).mono ?_);(case side1=>exact zi131);(case side2=>exact zg131);rintro e w6 ⟨v301,rfl,ho0,hi,hb,hk⟩;refine ⟨_,rfl,?_⟩;have n0_:=Aside0.mk (Kd.N_lower (Kd.N_mono (ok':=fun k_=>(w.heap.size≤k_)∧k_≠g) ho0 (fun k_ hk_=>⟨(Nat.le_trans (keep_size (w:=w) (g:=g) (row:=none) zhk) hk_),(IsS131.fresh zi131 k_ hk_)⟩)) (keep_size (w:=w) (g:=g) (row:=none) zhk));have n1_:=Aside0.mk (KeepBut.trans zhk hk (.inl rfl));have n2_:=Aside0.mk (hb);have n3_:=Aside0.mk (hi);clear HK;clear HB;clear HI0;have HO302:=n0_;have HK:=n1_;have HB:=n2_;have HI0:=n3_;clear n0_ n1_ n2_ n3_;(try clear hb);(try clear hb2);(try clear hk);(try clear hi);(try clear ho0);obtain ⟨Ao7,co7,eo7⟩:=Kd.N_slice HO302.out;subst eo7))
  go_ret
  exact ⟨_,by first|rfl|(simp [errW_none,errW_some] <;> rfl)|(simp [*,errW_none,errW_some] <;> rfl),by (with_reducible repeat (first|apply Kd.N_alloc|apply Kd.N_drewN|apply Kd.N_drew));exact Kd.N_mono HO302.out (fun _ hk=>hk.1),zi131,zg131,zhk⟩
 ·rw [if_neg c4] at H
  have c4b0:((t300.length:Int) == 0)=false:=beq_eq_false_iff_ne.mpr c4
  have c4b1:((t300.length:Int) != 0)=true:=bne_iff_ne.mpr c4
  have c4b2 : ¬ (t300 = []):=fun h_=>c4 (by rw [h_];rfl)
  replace H:=Option.bind_eq_some_iff.mp H
  obtain ⟨⟨t304,t305⟩,A80,H⟩:=H
  (try dsimp only at H)
  have A8:=Aside0.mk A80
  clear A80
  replace H:=Option.bind_eq_some_iff.mp H
  obtain ⟨⟨t306,t307⟩,A90,H⟩:=H
  (try dsimp only at H)
  have A9:=Aside0.mk A90
  clear A90
  by_cases c10:t306=0
  ·rw [if_pos c10] at H
   have c10b0:(t306 == 0)=true:=beq_iff_eq.mpr c10
   have c10b1:(t306 != 0)=false:=bne_eq_false_iff_eq.mpr c10
   clear c10
   obtain ⟨y308,hy308⟩ : ∃ y_:List Int,y_=(([0,10000,10001,(-10000)]:List Int)):=⟨_,rfl⟩
   replace H:((spec_l12Rd_num.f s0_0 t307 y308).bind fun bt311=>(if 0≤t304 then (if t304 < (t300.length:Int) then (some ((t300.set (t304:Int).toNat (⟨(rd_T54 t300 t304).f0,bt311.1⟩:S54)),bt311.2)) else (none)) else (none)))=some (r1,r2):=by first|(rw [hy308];with_reducible exact H)|(have H2_:=(Option.bind_some _ _).symm.trans H;rw [hy308];with_reducible exact H2_)|(have H2_:=(Option.bind_some _ _).symm.trans H;with_reducible exact H2_)|with_reducible exact H|(rw [hy308];exact H)|exact H
   have Ny308:=Aside0.mk hy308
   clear hy308
   replace H:=Option.bind_eq_some_iff.mp H
   obtain ⟨⟨t311,t312⟩,A110,H⟩:=H
   (try dsimp only at H)
   have A11:=Aside0.mk A110
   clear A110
   by_cases c12:0≤t304
   ·rw [if_pos c12] at H
    have c12b0:decide (0≤t304)=true:=decide_eq_true c12
    clear c12
    by_cases c13:t304 < (t300.length:Int)
    ·rw [if_pos c13] at H
     have c13b0:decide (t304 < (t300.length:Int))=true:=decide_eq_true c13
     clear c13
     obtain ⟨y313,hy313⟩ : ∃ y_:List (S54),y_=(t300.set (t304:Int).toNat (⟨(rd_T54 t300 t304).f0,t311⟩:S54)):=⟨_,rfl⟩
     replace H:(some (y313,t312))=some (r1,r2):=by first|(rw [hy313];with_reducible exact H)|(have H2_:=(Option.bind_some _ _).symm.trans H;rw [hy313];with_reducible exact H2_)|(have H2_:=(Option.bind_some _ _).symm.trans H;with_reducible exact H2_)|with_reducible exact H|(rw [hy313];exact H)|exact H
     have Ny313:=Aside0.mk hy313
     clear hy313
     simp only [Option.some.injEq,Prod.mk.injEq] at H
     obtain ⟨rfl,rfl⟩:=H
     go_enter Try.func67,Try.ntmps67
     go_wp2_with (first|((with_reducible refine gate_callee (f:=83) rfl ?_);refine goesL_ (some 8) rfl rfl Try.func83 (by kernel_rfl) rfl #[.pointer (some ⟨g,0,none⟩),.int .i64 3] rfl zar ?_;(with_reducible refine (spec_l12Rd_pick.calls g s0_0 s0_1 3 t298 t299 w0 _ ?side1 ?side2 A2.out).mono ?_);(case side1=>exact zi131);(case side2=>exact zg131);rintro e w15 ⟨rfl,hi,hb,hk⟩;refine ⟨_,rfl,?_⟩;have n0_:=Aside0.mk (KeepBut.trans zhk hk (.inl rfl));have n1_:=Aside0.mk (hb);have n2_:=Aside0.mk (hi);clear HK;clear HB;clear HI0;have HK:=n0_;have HB:=n1_;have HI0:=n2_;clear n0_ n1_ n2_;(try clear hb);(try clear hb2);(try clear hk);(try clear hi))|((with_reducible refine gate_callee (f:=114) rfl ?_);refine goesL_ (some 10) rfl rfl Try.func114 (by kernel_rfl) rfl #[.pointer (some ⟨g,0,none⟩),.int .i64 (wrap64 (1 + t298)),.int .i64 6] rfl zar ?_;(with_reducible refine (spec_l2Z.calls k g s0_0 t299 (wrap64 (1 + t298)) 6 t300 t303 w0 _ ?side1 ?side2 A3.out).mono ?_);(case side1=>exact zi131);(case side2=>exact zg131);rintro e w16 ⟨v301,rfl,ho0,hi,hb,hk⟩;refine ⟨_,rfl,?_⟩;have n0_:=Aside0.mk (Kd.N_lower (Kd.N_mono (ok':=fun k_=>(w.heap.size≤k_)∧k_≠g) ho0 (fun k_ hk_=>⟨(Nat.le_trans (keep_size (w:=w) (g:=g) (row:=none) zhk) hk_),(IsS131.fresh zi131 k_ hk_)⟩)) (keep_size (w:=w) (g:=g) (row:=none) zhk));have n1_:=Aside0.mk (KeepBut.trans zhk hk (.inl rfl));have n2_:=Aside0.mk (hb);have n3_:=Aside0.mk (hi);clear HK;clear HB;clear HI0;have HO302:=n0_;have HK:=n1_;have HB:=n2_;have HI0:=n3_;clear n0_ n1_ n2_ n3_;(try clear hb);(try clear hb2);(try clear hk);(try clear hi);(try clear ho0);obtain ⟨Ao17,co17,eo17⟩:=Kd.N_slice HO302.out;subst eo17)|((with_reducible refine gate_callee (f:=83) rfl ?_);refine goesL_ (some 18) rfl rfl Try.func83 (by kernel_rfl) rfl #[.pointer (some ⟨g,0,none⟩),.int .i64 (t300.length:Int)] rfl zar ?_;(with_reducible refine (spec_l12Rd_pick.calls g s0_0 t303 (t300.length:Int) t304 t305 w0 _ ?side1 ?side2 A8.out).mono ?_);(case side1=>exact zi131);(case side2=>exact zg131);rintro e w18 ⟨rfl,hi,hb,hk⟩;refine ⟨_,rfl,?_⟩;have n0_:=Aside0.mk (Kd.N_mono (Kd.N_keep (Kd.N_mono (ok:=fun k_=>(((w.heap.size≤k_))∧k_≠g)) (zN HO302.out) (fun k_ hk_=>(⟨hk_,hk_.2⟩:_∧k_≠g))) hk (fun _ h=>h.2)) (fun _ h=>h.1));have n1_:=Aside0.mk (KeepBut.trans zhk hk (.inl rfl));have n2_:=Aside0.mk (hb);have n3_:=Aside0.mk (hi);clear HO302;clear HK;clear HB;clear HI0;have HO302:=n0_;have HK:=n1_;have HB:=n2_;have HI0:=n3_;clear n0_ n1_ n2_ n3_;(try clear hb);(try clear hb2);(try clear hk);(try clear hi))|((with_reducible refine gate_callee (f:=83) rfl ?_);refine goesL_ (some 20) rfl rfl Try.func83 (by kernel_rfl) rfl #[.pointer (some ⟨g,0,none⟩),.int .i64 40] rfl zar ?_;(with_reducible refine (spec_l12Rd_pick.calls g s0_0 t305 40 t306 t307 w0 _ ?side1 ?side2 A9.out).mono ?_);(case side1=>exact zi131);(case side2=>exact zg131);rintro e w19 ⟨rfl,hi,hb,hk⟩;refine ⟨_,rfl,?_⟩;have n0_:=Aside0.mk (Kd.N_mono (Kd.N_keep (Kd.N_mono (ok:=fun k_=>(((w.heap.size≤k_))∧k_≠g)) (zN HO302.out) (fun k_ hk_=>(⟨hk_,hk_.2⟩:_∧k_≠g))) hk (fun _ h=>h.2)) (fun _ h=>h.1));have n1_:=Aside0.mk (KeepBut.trans zhk hk (.inl rfl));have n2_:=Aside0.mk (hb);have n3_:=Aside0.mk (hi);clear HO302;clear HK;clear HB;clear HI0;have HO302:=n0_;have HK:=n1_;have HB:=n2_;have HI0:=n3_;clear n0_ n1_ n2_ n3_;(try clear hb);(try clear hb2);(try clear hk);(try clear hi))|((with_reducible refine gate_dst (N:=26) rfl ?_);refine Kd.R_lit (Kd.int .i64) _ 3 ?hg (N:=26) ?hd (xs:=([0,10000,10001,(-10000)]:List Int)) (inner:=[.int .i64 0,.int .i64 10000,.int .i64 10001,.int .i64 (-10000)]) (ok:=fun _=>True) (okp:=fun _=>True) ?hr ?hp (fun _ hk=>hk) trivial (Below.refl _ _) (Nat.le_refl _) (by simp) ?_;(case hd=>rfl);(case hg=>rfl);(case hr=>first|(go_simp;done)|(go_simp;rfl));(case hp=>exact (Reps.one (show Kd.M (Kd.int .i64) _ _ _ 0 [.int .i64 0] from rfl) (Reps.one (show Kd.M (Kd.int .i64) _ _ _ 10000 [.int .i64 10000] from rfl) (Reps.one (show Kd.M (Kd.int .i64) _ _ _ 10001 [.int .i64 10001] from rfl) (Reps.one (show Kd.M (Kd.int .i64) _ _ _ (-10000) [.int .i64 (-10000)] from rfl) (Reps.none _ _))))));intro v309 w20 ho21 hb hg_ hnew_;clear hg_ hnew_;(first|rw [← Ny308.out] at ho21|(simp only [Int.reduceToNat] at ho21;rw [← Ny308.out] at ho21));have n0_:=Aside0.mk (Kd.N_elder' (zN HO302.out) (Kd.R_base ho21) hb);have n1_:=Aside0.mk (Kd.R_lower (Kd.R_newM (M:=fun k_=>(w.heap.size≤k_)) ho21 (keep_size (w:=w) (g:=g) (row:=none) zhk) (fun k_ h_=>h_)) (keep_size (w:=w) (g:=g) (row:=none) zhk));have n2_:=Aside0.mk (IsS131.below zi131 hb);have n3_:=Aside0.mk (KeepBut.trans zhk (KeepBut.of_below hb g none) (.inl rfl));have n4_:=Aside0.mk (below_step zg131 hb);clear HO302;clear HI0;clear HK;clear HB;have HO302:=n0_;have HO310:=n1_;have HI0:=n2_;have HK:=n3_;have HB:=n4_;clear n0_ n1_ n2_ n3_ n4_;clear hb ho21;obtain ⟨Ao22,co22,eo22⟩:=Kd.R_slice HO310.out;subst eo22)|((with_reducible refine gate_callee (f:=62) rfl ?_);refine goesL_ (some 27) rfl rfl Try.func62 (by kernel_rfl) rfl #[.pointer (some ⟨g,0,none⟩),.slice Ao22 y308.length co22] rfl zar ?_;(with_reducible refine (spec_l12Rd_num.calls g s0_0 t307 _ _ y308 t311 t312 w0 _ ?side1 ?side2 ?side3 ?side4 ?side5 A11.out).mono ?_);(case side1=>exact zi131);(case side2=>exact zg131);(case side3=>repeat (first|exact (Kd.R_reads' HO310.out).2.2|(with_reducible refine Kd.C_alloc ?_ _)|(with_reducible refine Kd.C_drewN ?_ _)|(with_reducible refine Kd.C_drew ?_)));(case side4=>exact (Kd.R_reads' HO310.out).2.1);(case side5=>exact far_slice (IsS131.own_ne HI0.out HO310.out (by decide)));rintro e w23 ⟨rfl,hi,hb,hk⟩;refine ⟨_,rfl,?_⟩;have n0_:=Aside0.mk (Kd.N_mono (Kd.N_keep (Kd.N_mono (ok:=fun k_=>((((w.heap.size≤k_))∧k_≠g)∧some k_≠(.slice Ao22 y308.length co22:Value).ownBlock)) (zN HO302.out) (fun k_ hk_=>(⟨hk_,hk_.1.2⟩:_∧k_≠g))) hk (fun _ h=>h.2)) (fun _ h=>h.1));have n1_:=Aside0.mk (Kd.R_mono (Kd.R_keep (IsS131.apart (show IsS131 w0 _ g s0_0 t307 from zi131) (by (with_reducible repeat (first|apply Kd.R_alloc|apply Kd.R_drewN|apply Kd.R_drew));exact HO310.out) (by decide)) hk (fun _ h=>h.2)) (fun _ h=>h.1));have n2_:=Aside0.mk (KeepBut.trans zhk hk (.inl rfl));have n3_:=Aside0.mk (hb);have n4_:=Aside0.mk (hi);clear HO302;clear HO310;clear HK;clear HB;clear HI0;have HO302:=n0_;have HO310:=n1_;have HK:=n2_;have HB:=n3_;have HI0:=n4_;clear n0_ n1_ n2_ n3_ n4_;(try clear hb);(try clear hb2);(try clear hk);(try clear hi);have p14:0≤(t304:Int):=zod;have q14:(t304:Int) < ((t300.length:Int):Int):=zod;obtain ⟨go14,co14,eo14,gb14,gl14,cl14,HG14⟩:=Kd.N_form HO302.out (by omega);(first|cases eo14|(injection eo14 with ea_ en_ ec_;(first|subst ea_|(injection ea_ with ea_;subst ea_));subst ec_;clear en_));have GB14:=Aside0.mk gb14;have GG14:=Aside0.mk HG14;clear gb14 gl14 HG14;obtain ⟨ce14,hcl14,hM14,hcc14,hfr14⟩:=Kd.N_elem HO302.out z54 (t304:Int) p14 q14;obtain ⟨ua14_0,uc14_0,rfl,ul14_0,ge14_0⟩:=k54_openF hM14;have hx14_0:w23.cell? ⟨go14,(t304:Int).toNat * 2,none⟩=some (.slice ua14_0 ((rd_T54 t300 t304).f0).length uc14_0):=hcc14 0 _ rfl;have hx14_1:w23.cell? ⟨go14,(t304:Int).toNat * 2 + 1,none⟩=some (.int .i64 ((rd_T54 t300 t304).f1)):=hcc14 1 _ rfl;have hf14_0:w23.frozen? ⟨go14,(t304:Int).toNat * 2,none⟩=false:=hfr14 0;have hf14_1:w23.frozen? ⟨go14,(t304:Int).toNat * 2 + 1,none⟩=false:=hfr14 1;clear hcl14 hcc14 hfr14 hM14;replace p14:=eq_true p14;replace q14:=eq_true q14;have n_:=Aside0.mk (Kd.N_mono (ok':=(fun k_=>(w.heap.size≤k_)∧some k_≠(.slice Ao22 y308.length co22:Value).ownBlock)) HO302.out (fun k_ hk=>⟨hk.1.1,hk.2⟩));clear HO302;have HO302:=n_;clear n_;have HX24:=Aside0.mk (show Kd.N k54 54 w23 w.heap.size (fun k_=>(w.heap.size≤k_)∧some k_≠(.slice Ao22 y308.length co22:Value).ownBlock) (.slice (some ⟨go14,0,none⟩) t300.length co17) t300 from (zN HO302.out));obtain ⟨ce24,hcl24,hM24,hcc24,hfr24⟩:=Kd.N_elem HX24.out z54 (t304:Int) (zod) (by have h_:(t304:Int) < ((t300.length:Int):Int):=zod;first|exact h_|(have e_:=(Kd.N_reads' HO302.out).1;omega)|simpa using h_);obtain ⟨ua24_0,uc24_0,rfl,ul24_0,ge24_0⟩:=k54_openF hM24;have HP24:=Kd.N_seg HX24.out (t304:Int) (zod) (by have h_:(t304:Int) < ((t300.length:Int):Int):=zod;first|exact h_|(have e_:=(Kd.N_reads' HO302.out).1;omega)|simpa using h_) (seg:=[.int .i64 t311]) (j:=1) hcl24 hcc24 (show 2≤2 from by decide) (x':=(⟨(rd_T54 t300 t304).f0,t311⟩:S54)) (k54_mkF _ _ (⟨(rd_T54 t300 t304).f0,t311⟩:S54) ul24_0 ge24_0) (fun _ hk=>hk);have hx24_1:=hcc24 1 _ rfl;(try simp only [show (k54).sz=2 from rfl,Nat.mul_one,Nat.add_zero] at hx24_1);have hf24_1:=hfr24 1;(try simp only [show (k54).sz=2 from rfl,Nat.mul_one,Nat.add_zero] at hf24_1);clear hcl24 hcc24 hfr24 hM24)|((with_reducible refine gate_store (t:=3) (p:=29) rfl ?_);refine store_event (t:=3) (p:=29) (v:=?vo_w25) (w1:=(w23.setCell ⟨go14,(t304:Int).toNat * 2 + 1,none⟩ (.int .i64 t311))) ?hg ?ho ?hn ?hr ?_;(case ho=>rfl);(case hg=>rfl);(case hn=>rfl);(case hr=>first|(go_simp;done)|(go_simp;rfl));intro w25 hw;have hg:w23.grownBy w25 (some go14):=(by rw [hw];exact HP24.2);have hp_:Kd.N k54 54 w25 w.heap.size (fun k_=>(w.heap.size≤k_)∧some k_≠(.slice Ao22 y308.length co22:Value).ownBlock) (.slice (some ⟨go14,0,none⟩) t300.length co17) y313:=(by rw [hw,Ny313.out];exact HP24.1);clear HP24;have n0_:=Aside0.mk (IsS131.grown zi131 hg (IsS131.own_neN HI0.out HO302.out (by decide)));have n1_:=Aside0.mk (hp_);have n2_:=Aside0.mk (Kd.R_over' (v:=(.slice (some ⟨go14,0,none⟩) t300.length co17)) (by (with_reducible repeat (first|apply Kd.R_alloc|apply Kd.R_drewN|apply Kd.R_drew));exact HO310.out) (Kd.N_typed HO302.out) (by decide) hg);have n3_:=Aside0.mk ((by rw [hw];exact below_set (HB.out) (Nat.le_trans HL.out GB14.out):Below w0.heap.size w0 w25));have n4_:=Aside0.mk (KeepBut.trans zhk (KeepBut.of_grown hg g) (Kd.N_base2 HO302.out));clear HI0;clear HO302;clear HO310;clear HB;clear HK;have HI0:=n0_;have HO302:=n1_;have HO310:=n2_;have HB:=n3_;have HK:=n4_;clear n0_ n1_ n2_ n3_ n4_;clear hg hw hp_))
     go_ret
     exact ⟨_,by first|rfl|(simp [errW_none,errW_some] <;> rfl)|(simp [*,errW_none,errW_some] <;> rfl),by (with_reducible repeat (first|apply Kd.N_alloc|apply Kd.N_drewN|apply Kd.N_drew));exact Kd.N_mono HO302.out (fun _ hk=>hk.1),zi131,zg131,zhk⟩
    ·rw [if_neg c13] at H
     exact absurd H (by simp)
   ·rw [if_neg c12] at H
    exact absurd H (by simp)
  ·rw [if_neg c10] at H
   have c10b0:(t306 == 0)=false:=beq_eq_false_iff_ne.mpr c10
   have c10b1:(t306 != 0)=true:=bne_iff_ne.mpr c10
   by_cases c26:t306=1
   ·rw [if_pos c26] at H
    have c26b0:(t306 == 1)=true:=beq_iff_eq.mpr c26
    have c26b1:(t306 != 1)=false:=bne_eq_false_iff_eq.mpr c26
    clear c26
    obtain ⟨y314,hy314⟩ : ∃ y_:List Int,y_=(([]:List Int)):=⟨_,rfl⟩
    replace H:(if 0≤t304 then (if t304 < (t300.length:Int) then (some ((t300.set (t304:Int).toNat (⟨y314,(rd_T54 t300 t304).f1⟩:S54)),t307)) else (none)) else (none))=some (r1,r2):=by first|(rw [hy314];with_reducible exact H)|(have H2_:=(Option.bind_some _ _).symm.trans H;rw [hy314];with_reducible exact H2_)|(have H2_:=(Option.bind_some _ _).symm.trans H;with_reducible exact H2_)|with_reducible exact H|(rw [hy314];exact H)|exact H
    have Ny314:=Aside0.mk hy314
    clear hy314
    by_cases c27:0≤t304
    ·rw [if_pos c27] at H
     have c27b0:decide (0≤t304)=true:=decide_eq_true c27
     clear c27
     by_cases c28:t304 < (t300.length:Int)
     ·rw [if_pos c28] at H
      have c28b0:decide (t304 < (t300.length:Int))=true:=decide_eq_true c28
      clear c28
      obtain ⟨y317,hy317⟩ : ∃ y_:List (S54),y_=(t300.set (t304:Int).toNat (⟨y314,(rd_T54 t300 t304).f1⟩:S54)):=⟨_,rfl⟩
      replace H:(some (y317,t307))=some (r1,r2):=by first|(rw [hy317];with_reducible exact H)|(have H2_:=(Option.bind_some _ _).symm.trans H;rw [hy317];with_reducible exact H2_)|(have H2_:=(Option.bind_some _ _).symm.trans H;with_reducible exact H2_)|with_reducible exact H|(rw [hy317];exact H)|exact H
      have Ny317:=Aside0.mk hy317
      clear hy317
      simp only [Option.some.injEq,Prod.mk.injEq] at H
      obtain ⟨rfl,rfl⟩:=H
      go_enter Try.func67,Try.ntmps67
      go_wp2_with (first|((with_reducible refine gate_callee (f:=83) rfl ?_);refine goesL_ (some 8) rfl rfl Try.func83 (by kernel_rfl) rfl #[.pointer (some ⟨g,0,none⟩),.int .i64 3] rfl zar ?_;(with_reducible refine (spec_l12Rd_pick.calls g s0_0 s0_1 3 t298 t299 w0 _ ?side1 ?side2 A2.out).mono ?_);(case side1=>exact zi131);(case side2=>exact zg131);rintro e w30 ⟨rfl,hi,hb,hk⟩;refine ⟨_,rfl,?_⟩;have n0_:=Aside0.mk (KeepBut.trans zhk hk (.inl rfl));have n1_:=Aside0.mk (hb);have n2_:=Aside0.mk (hi);clear HK;clear HB;clear HI0;have HK:=n0_;have HB:=n1_;have HI0:=n2_;clear n0_ n1_ n2_;(try clear hb);(try clear hb2);(try clear hk);(try clear hi))|((with_reducible refine gate_callee (f:=114) rfl ?_);refine goesL_ (some 10) rfl rfl Try.func114 (by kernel_rfl) rfl #[.pointer (some ⟨g,0,none⟩),.int .i64 (wrap64 (1 + t298)),.int .i64 6] rfl zar ?_;(with_reducible refine (spec_l2Z.calls k g s0_0 t299 (wrap64 (1 + t298)) 6 t300 t303 w0 _ ?side1 ?side2 A3.out).mono ?_);(case side1=>exact zi131);(case side2=>exact zg131);rintro e w31 ⟨v301,rfl,ho0,hi,hb,hk⟩;refine ⟨_,rfl,?_⟩;have n0_:=Aside0.mk (Kd.N_lower (Kd.N_mono (ok':=fun k_=>(w.heap.size≤k_)∧k_≠g) ho0 (fun k_ hk_=>⟨(Nat.le_trans (keep_size (w:=w) (g:=g) (row:=none) zhk) hk_),(IsS131.fresh zi131 k_ hk_)⟩)) (keep_size (w:=w) (g:=g) (row:=none) zhk));have n1_:=Aside0.mk (KeepBut.trans zhk hk (.inl rfl));have n2_:=Aside0.mk (hb);have n3_:=Aside0.mk (hi);clear HK;clear HB;clear HI0;have HO302:=n0_;have HK:=n1_;have HB:=n2_;have HI0:=n3_;clear n0_ n1_ n2_ n3_;(try clear hb);(try clear hb2);(try clear hk);(try clear hi);(try clear ho0);obtain ⟨Ao32,co32,eo32⟩:=Kd.N_slice HO302.out;subst eo32)|((with_reducible refine gate_callee (f:=83) rfl ?_);refine goesL_ (some 18) rfl rfl Try.func83 (by kernel_rfl) rfl #[.pointer (some ⟨g,0,none⟩),.int .i64 (t300.length:Int)] rfl zar ?_;(with_reducible refine (spec_l12Rd_pick.calls g s0_0 t303 (t300.length:Int) t304 t305 w0 _ ?side1 ?side2 A8.out).mono ?_);(case side1=>exact zi131);(case side2=>exact zg131);rintro e w33 ⟨rfl,hi,hb,hk⟩;refine ⟨_,rfl,?_⟩;have n0_:=Aside0.mk (Kd.N_mono (Kd.N_keep (Kd.N_mono (ok:=fun k_=>(((w.heap.size≤k_))∧k_≠g)) (zN HO302.out) (fun k_ hk_=>(⟨hk_,hk_.2⟩:_∧k_≠g))) hk (fun _ h=>h.2)) (fun _ h=>h.1));have n1_:=Aside0.mk (KeepBut.trans zhk hk (.inl rfl));have n2_:=Aside0.mk (hb);have n3_:=Aside0.mk (hi);clear HO302;clear HK;clear HB;clear HI0;have HO302:=n0_;have HK:=n1_;have HB:=n2_;have HI0:=n3_;clear n0_ n1_ n2_ n3_;(try clear hb);(try clear hb2);(try clear hk);(try clear hi))|((with_reducible refine gate_callee (f:=83) rfl ?_);refine goesL_ (some 20) rfl rfl Try.func83 (by kernel_rfl) rfl #[.pointer (some ⟨g,0,none⟩),.int .i64 40] rfl zar ?_;(with_reducible refine (spec_l12Rd_pick.calls g s0_0 t305 40 t306 t307 w0 _ ?side1 ?side2 A9.out).mono ?_);(case side1=>exact zi131);(case side2=>exact zg131);rintro e w34 ⟨rfl,hi,hb,hk⟩;refine ⟨_,rfl,?_⟩;have n0_:=Aside0.mk (Kd.N_mono (Kd.N_keep (Kd.N_mono (ok:=fun k_=>(((w.heap.size≤k_))∧k_≠g)) (zN HO302.out) (fun k_ hk_=>(⟨hk_,hk_.2⟩:_∧k_≠g))) hk (fun _ h=>h.2)) (fun _ h=>h.1));have n1_:=Aside0.mk (KeepBut.trans zhk hk (.inl rfl));have n2_:=Aside0.mk (hb);have n3_:=Aside0.mk (hi);clear HO302;clear HK;clear HB;clear HI0;have HO302:=n0_;have HK:=n1_;have HB:=n2_;have HI0:=n3_;clear n0_ n1_ n2_ n3_;(try clear hb);(try clear hb2);(try clear hk);(try clear hi))|((with_reducible refine gate_dst (N:=34) rfl ?_);refine Kd.R_lit (Kd.int .i64) _ 3 ?hg (N:=34) ?hd (xs:=([]:List Int)) (inner:=[]) (ok:=fun _=>True) (okp:=fun _=>True) ?hr ?hp (fun _ hk=>hk) trivial (Below.refl _ _) (Nat.le_refl _) (by simp) ?_;(case hd=>rfl);(case hg=>rfl);(case hr=>first|(go_simp;done)|(go_simp;rfl));(case hp=>exact (Reps.none _ _));intro v315 w35 ho36 hb hg_ hnew_;clear hg_ hnew_;(first|rw [← Ny314.out] at ho36|(simp only [Int.reduceToNat] at ho36;rw [← Ny314.out] at ho36));have n0_:=Aside0.mk (Kd.N_elder' (zN HO302.out) (Kd.R_base ho36) hb);have n1_:=Aside0.mk (Kd.R_lower (Kd.R_newM (M:=fun k_=>(w.heap.size≤k_)) ho36 (keep_size (w:=w) (g:=g) (row:=none) zhk) (fun k_ h_=>h_)) (keep_size (w:=w) (g:=g) (row:=none) zhk));have n2_:=Aside0.mk (IsS131.below zi131 hb);have n3_:=Aside0.mk (KeepBut.trans zhk (KeepBut.of_below hb g none) (.inl rfl));have n4_:=Aside0.mk (below_step zg131 hb);clear HO302;clear HI0;clear HK;clear HB;have HO302:=n0_;have HO316:=n1_;have HI0:=n2_;have HK:=n3_;have HB:=n4_;clear n0_ n1_ n2_ n3_ n4_;clear hb ho36;have p29:0≤(t304:Int):=zod;have q29:(t304:Int) < ((t300.length:Int):Int):=zod;obtain ⟨go29,co29,eo29,gb29,gl29,cl29,HG29⟩:=Kd.N_form HO302.out (by omega);(first|cases eo29|(injection eo29 with ea_ en_ ec_;(first|subst ea_|(injection ea_ with ea_;subst ea_));subst ec_;clear en_));have GB29:=Aside0.mk gb29;have GG29:=Aside0.mk HG29;clear gb29 gl29 HG29;obtain ⟨ce29,hcl29,hM29,hcc29,hfr29⟩:=Kd.N_elem HO302.out z54 (t304:Int) p29 q29;obtain ⟨ua29_0,uc29_0,rfl,ul29_0,ge29_0⟩:=k54_openF hM29;have hx29_0:w35.cell? ⟨go29,(t304:Int).toNat * 2,none⟩=some (.slice ua29_0 ((rd_T54 t300 t304).f0).length uc29_0):=hcc29 0 _ rfl;have hx29_1:w35.cell? ⟨go29,(t304:Int).toNat * 2 + 1,none⟩=some (.int .i64 ((rd_T54 t300 t304).f1)):=hcc29 1 _ rfl;have hf29_0:w35.frozen? ⟨go29,(t304:Int).toNat * 2,none⟩=false:=hfr29 0;have hf29_1:w35.frozen? ⟨go29,(t304:Int).toNat * 2 + 1,none⟩=false:=hfr29 1;clear hcl29 hcc29 hfr29 hM29;replace p29:=eq_true p29;replace q29:=eq_true q29;obtain ⟨Ao39,co39,eo39⟩:=Kd.R_slice HO316.out;subst eo39;have n_:=Aside0.mk (Kd.N_mono (ok':=(fun k_=>(w.heap.size≤k_)∧some k_≠(.slice Ao39 y314.length co39:Value).ownBlock)) HO302.out (fun k_ hk=>⟨hk.1.1,hk.2⟩));clear HO302;have HO302:=n_;clear n_;have HX37:=Aside0.mk (show Kd.N k54 54 w35 w.heap.size (fun k_=>(w.heap.size≤k_)) (.slice (some ⟨go29,0,none⟩) t300.length co32) t300 from (by (with_reducible repeat (first|apply Kd.N_alloc|apply Kd.N_drewN|apply Kd.N_drew));exact Kd.N_mono HO302.out (fun _ hk=>hk.1)));obtain ⟨ce37,hcl37,hM37,hcc37,hfr37⟩:=Kd.N_elem HX37.out z54 (t304:Int) (zod) (by have h_:(t304:Int) < ((t300.length:Int):Int):=zod;first|exact h_|(have e_:=(Kd.N_reads' HO302.out).1;omega)|simpa using h_);obtain ⟨ua37_0,uc37_0,rfl,ul37_0,ge37_0⟩:=k54_openF hM37;have HP37:=Kd.N_seg HX37.out (t304:Int) (zod) (by have h_:(t304:Int) < ((t300.length:Int):Int):=zod;first|exact h_|(have e_:=(Kd.N_reads' HO302.out).1;omega)|simpa using h_) (seg:=[.slice Ao39 y314.length co39]) (j:=0) hcl37 hcc37 (show 1≤2 from by decide) (x':=(⟨y314,(rd_T54 t300 t304).f1⟩:S54)) (k54_mkF _ _ (⟨y314,(rd_T54 t300 t304).f1⟩:S54) (Kd.R_reads' (Kd.R_mono (ok':=(fun k_=>((fun k_=>(w.heap.size≤k_))) k_∧k_≠go29)) (Kd.R_apart' (HO316.out) (Kd.N_typed HO302.out) (by decide)) (fun k_ hk=>⟨hk.1.1,fun e_=>(hk.2) (by rw [e_];rfl)⟩))).2.1 (Kd.R_F (Kd.R_mono (ok':=(fun k_=>((fun k_=>(w.heap.size≤k_))) k_∧k_≠go29)) (Kd.R_apart' (HO316.out) (Kd.N_typed HO302.out) (by decide)) (fun k_ hk=>⟨hk.1.1,fun e_=>(hk.2) (by rw [e_];rfl)⟩)))) (fun _ hk=>hk);have hx37_0:=hcc37 0 _ rfl;(try simp only [show (k54).sz=2 from rfl,Nat.mul_one,Nat.add_zero] at hx37_0);have hf37_0:=hfr37 0;(try simp only [show (k54).sz=2 from rfl,Nat.mul_one,Nat.add_zero] at hf37_0);clear hcl37 hcc37 hfr37 hM37)|((with_reducible refine gate_store (t:=52) (p:=36) rfl ?_);refine store_event (t:=52) (p:=36) (v:=?vo_w38) (w1:=(w35.setCell ⟨go29,(t304:Int).toNat * 2,none⟩ (.slice Ao39 y314.length co39))) ?hg ?ho ?hn ?hr ?_;(case ho=>rfl);(case hg=>rfl);(case hn=>rfl);(case hr=>first|(go_simp;done)|(go_simp;rfl)|(obtain ⟨A0_,c0_,e0_⟩:=Kd.R_slice HO316.out;subst e0_;(first|(go_simp;done)|(go_simp;rfl))));intro w38 hw;have hg:w35.grownBy w38 (some go29):=(by rw [hw];exact HP37.2);have hp_:Kd.N k54 54 w38 w.heap.size (fun k_=>(w.heap.size≤k_)) (.slice (some ⟨go29,0,none⟩) t300.length co32) y317:=(by rw [hw,Ny317.out];exact HP37.1);clear HP37;have n0_:=Aside0.mk (IsS131.grown zi131 hg (IsS131.own_neN HI0.out HO302.out (by decide)));have n1_:=Aside0.mk (hp_);have n2_:=Aside0.mk ((by rw [hw];exact below_set (HB.out) (Nat.le_trans HL.out GB29.out):Below w0.heap.size w0 w38));have n3_:=Aside0.mk (KeepBut.trans zhk (KeepBut.of_grown hg g) (Kd.N_base2 HO302.out));clear HI0;clear HO302;clear HB;clear HK;clear HO316;have HI0:=n0_;have HO302:=n1_;have HB:=n2_;have HK:=n3_;clear n0_ n1_ n2_ n3_;clear hg hw hp_))
      go_ret
      exact ⟨_,by first|rfl|(simp [errW_none,errW_some] <;> rfl)|(simp [*,errW_none,errW_some] <;> rfl),by (with_reducible repeat (first|apply Kd.N_alloc|apply Kd.N_drewN|apply Kd.N_drew));exact HO302.out,zi131,zg131,zhk⟩
     ·rw [if_neg c28] at H
      exact absurd H (by simp)
    ·rw [if_neg c27] at H
     exact absurd H (by simp)
   ·rw [if_neg c26] at H
    have c26b0:(t306 == 1)=false:=beq_eq_false_iff_ne.mpr c26
    have c26b1:(t306 != 1)=true:=bne_iff_ne.mpr c26
    by_cases c40:t306=2
    ·rw [if_pos c40] at H
     have c40b0:(t306 == 2)=true:=beq_iff_eq.mpr c40
     have c40b1:(t306 != 2)=false:=bne_eq_false_iff_eq.mpr c40
     clear c40
     by_cases c41:0 < (t300.length:Int)
     ·rw [if_pos c41] at H
      have c41b0:decide (0 < (t300.length:Int))=true:=decide_eq_true c41
      have c41b1:decide (0 < t300.length)=true:=decide_eq_true (by omega)
      clear c41
      by_cases c42:t300.length < 4398046511104
      ·rw [if_pos c42] at H
       have LMc42:=Aside0.mk c42
       clear c42
       obtain ⟨y319,hy319⟩ : ∃ y_:List (S54),y_=(t300 ++ [(⟨(rd_T54 t300 0).f0,(rd_T54 t300 0).f1⟩:S54)]):=⟨_,rfl⟩
       replace H:(some (y319,t307))=some (r1,r2):=by first|(rw [hy319];with_reducible exact H)|(have H2_:=(Option.bind_some _ _).symm.trans H;rw [hy319];with_reducible exact H2_)|(have H2_:=(Option.bind_some _ _).symm.trans H;with_reducible exact H2_)|with_reducible exact H|(rw [hy319];exact H)|exact H
       have Ny319:=Aside0.mk hy319
       clear hy319
       simp only [Option.some.injEq,Prod.mk.injEq] at H
       obtain ⟨rfl,rfl⟩:=H
       go_enter Try.func67,Try.ntmps67
       go_wp2_with (first|((with_reducible refine gate_callee (f:=83) rfl ?_);refine goesL_ (some 8) rfl rfl Try.func83 (by kernel_rfl) rfl #[.pointer (some ⟨g,0,none⟩),.int .i64 3] rfl zar ?_;(with_reducible refine (spec_l12Rd_pick.calls g s0_0 s0_1 3 t298 t299 w0 _ ?side1 ?side2 A2.out).mono ?_);(case side1=>exact zi131);(case side2=>exact zg131);rintro e w43 ⟨rfl,hi,hb,hk⟩;refine ⟨_,rfl,?_⟩;have n0_:=Aside0.mk (KeepBut.trans zhk hk (.inl rfl));have n1_:=Aside0.mk (hb);have n2_:=Aside0.mk (hi);clear HK;clear HB;clear HI0;have HK:=n0_;have HB:=n1_;have HI0:=n2_;clear n0_ n1_ n2_;(try clear hb);(try clear hb2);(try clear hk);(try clear hi))|((with_reducible refine gate_callee (f:=114) rfl ?_);refine goesL_ (some 10) rfl rfl Try.func114 (by kernel_rfl) rfl #[.pointer (some ⟨g,0,none⟩),.int .i64 (wrap64 (1 + t298)),.int .i64 6] rfl zar ?_;(with_reducible refine (spec_l2Z.calls k g s0_0 t299 (wrap64 (1 + t298)) 6 t300 t303 w0 _ ?side1 ?side2 A3.out).mono ?_);(case side1=>exact zi131);(case side2=>exact zg131);rintro e w44 ⟨v301,rfl,ho0,hi,hb,hk⟩;refine ⟨_,rfl,?_⟩;have n0_:=Aside0.mk (Kd.N_lower (Kd.N_mono (ok':=fun k_=>(w.heap.size≤k_)∧k_≠g) ho0 (fun k_ hk_=>⟨(Nat.le_trans (keep_size (w:=w) (g:=g) (row:=none) zhk) hk_),(IsS131.fresh zi131 k_ hk_)⟩)) (keep_size (w:=w) (g:=g) (row:=none) zhk));have n1_:=Aside0.mk (KeepBut.trans zhk hk (.inl rfl));have n2_:=Aside0.mk (hb);have n3_:=Aside0.mk (hi);clear HK;clear HB;clear HI0;have HO302:=n0_;have HK:=n1_;have HB:=n2_;have HI0:=n3_;clear n0_ n1_ n2_ n3_;(try clear hb);(try clear hb2);(try clear hk);(try clear hi);(try clear ho0);obtain ⟨Ao45,co45,eo45⟩:=Kd.N_slice HO302.out;subst eo45)|((with_reducible refine gate_callee (f:=83) rfl ?_);refine goesL_ (some 18) rfl rfl Try.func83 (by kernel_rfl) rfl #[.pointer (some ⟨g,0,none⟩),.int .i64 (t300.length:Int)] rfl zar ?_;(with_reducible refine (spec_l12Rd_pick.calls g s0_0 t303 (t300.length:Int) t304 t305 w0 _ ?side1 ?side2 A8.out).mono ?_);(case side1=>exact zi131);(case side2=>exact zg131);rintro e w46 ⟨rfl,hi,hb,hk⟩;refine ⟨_,rfl,?_⟩;have n0_:=Aside0.mk (Kd.N_mono (Kd.N_keep (Kd.N_mono (ok:=fun k_=>(((w.heap.size≤k_))∧k_≠g)) (zN HO302.out) (fun k_ hk_=>(⟨hk_,hk_.2⟩:_∧k_≠g))) hk (fun _ h=>h.2)) (fun _ h=>h.1));have n1_:=Aside0.mk (KeepBut.trans zhk hk (.inl rfl));have n2_:=Aside0.mk (hb);have n3_:=Aside0.mk (hi);clear HO302;clear HK;clear HB;clear HI0;have HO302:=n0_;have HK:=n1_;have HB:=n2_;have HI0:=n3_;clear n0_ n1_ n2_ n3_;(try clear hb);(try clear hb2);(try clear hk);(try clear hi))|((with_reducible refine gate_callee (f:=83) rfl ?_);refine goesL_ (some 20) rfl rfl Try.func83 (by kernel_rfl) rfl #[.pointer (some ⟨g,0,none⟩),.int .i64 40] rfl zar ?_;(with_reducible refine (spec_l12Rd_pick.calls g s0_0 t305 40 t306 t307 w0 _ ?side1 ?side2 A9.out).mono ?_);(case side1=>exact zi131);(case side2=>exact zg131);rintro e w47 ⟨rfl,hi,hb,hk⟩;refine ⟨_,rfl,?_⟩;have n0_:=Aside0.mk (Kd.N_mono (Kd.N_keep (Kd.N_mono (ok:=fun k_=>(((w.heap.size≤k_))∧k_≠g)) (zN HO302.out) (fun k_ hk_=>(⟨hk_,hk_.2⟩:_∧k_≠g))) hk (fun _ h=>h.2)) (fun _ h=>h.1));have n1_:=Aside0.mk (KeepBut.trans zhk hk (.inl rfl));have n2_:=Aside0.mk (hb);have n3_:=Aside0.mk (hi);clear HO302;clear HK;clear HB;clear HI0;have HO302:=n0_;have HK:=n1_;have HB:=n2_;have HI0:=n3_;clear n0_ n1_ n2_ n3_;(try clear hb);(try clear hb2);(try clear hk);(try clear hi);have p318:0≤(0:Int):=(by omega);have q318:0 < (t300.length:Int):=zod;obtain ⟨ad318,A318_0,c318_0,e318,hx318_0,hx318_1,hl318_0,hi318_0⟩:=at_T54 (Kd.N_reads' HO302.out).2.2 0 p318 q318;cases e318;obtain ⟨ce318,hce318,hMe318,hcc318⟩:=Kd.N_get HO302.out z54 0 p318 (by first|exact q318|exact zod|(have e_:=(Kd.N_reads' HO302.out).1;omega));obtain ⟨ua318_0,uc318_0,rfl,ul318_0,ge318_0⟩:=k54_openF hMe318;have hv318_0:=hcc318 0 _ rfl;rw [Nat.add_zero] at hv318_0;replace hv318_0:=Option.some.inj (hv318_0.symm.trans hx318_0);injection hv318_0 with hva_ hvn_ hvc_;rw [hva_] at ge318_0;rw [hvc_] at ul318_0;have HL318_0:=Aside0.mk (show Kd.V (Kd.int .i64) 3 _ w.heap.size _ _ ((rd_T54 t300 0).f0) from Kd.V_mk ul318_0 ge318_0);clear hva_ hvn_ hvc_ ge318_0 ul318_0;clear hcc318 hce318;have qi318:(0 < t300.length)=True:=eq_true (by omega);(try rw [show ((0:Int)).toNat=0 from rfl] at hx318_0);(try rw [show 0 * 2=0 from rfl] at hx318_0);(try rw [Addr.add_zero'] at hx318_0);(try rw [show ((0:Int)).toNat=0 from rfl] at hx318_1);(try rw [show 0 * 2=0 from rfl] at hx318_1);(try rw [Addr.add_zero'] at hx318_1);have HR318_0:=Aside0.mk hi318_0;have HC318_0:=Aside0.mk hl318_0;clear hi318_0 hl318_0;replace p318:=eq_true p318;replace q318:=eq_true q318)|((with_reducible refine gate_builtin (b:=.append) (xs:=#[.tmp 39,.tmp 43]) rfl ?_);at_builtin;refine Kd.N_append k54 w.heap.size rfl (.tmp 39) (.tmp 43) 24 54 (.agg #[(.slice none 0 0),(.int .i64 0)]) 32 rfl Try.underlying24 info54 rfl (by decide) (by omega) (.slice (some ad318) t300.length co45) t300 (⟨(rd_T54 t300 0).f0,(rd_T54 t300 0).f1⟩:S54) [.slice A318_0 ((rd_T54 t300 0).f0).length c318_0,.int .i64 ((rd_T54 t300 0).f1)] (fun k_=>(w.heap.size≤k_)∧k_≠g) (fun k_=>((fun k_=>(w.heap.size≤k_)∧k_≠g)) k_∧some k_≠(.slice (some ad318) t300.length co45:Value).ownBlock) rfl rfl ?aP (fun _ hk=>hk) ?aF ?aO (Below.refl _ _) ?aS ?aL ?_;(case aP=>exact (k54_mkF _ _ (⟨(rd_T54 t300 0).f0,(rd_T54 t300 0).f1⟩:S54) (Kd.V_reads' (Kd.V_mono (ok':=(fun k_=>((fun k_=>(w.heap.size≤k_)∧k_≠g)) k_∧some k_≠(.slice (some ad318) t300.length co45:Value).ownBlock)) (HL318_0.out) (fun k_ hk=>⟨⟨hk.1.1,hk.1.2⟩,hk.2⟩))).2.1 (Kd.V_F (Kd.V_mono (ok':=(fun k_=>((fun k_=>(w.heap.size≤k_)∧k_≠g)) k_∧some k_≠(.slice (some ad318) t300.length co45:Value).ownBlock)) (HL318_0.out) (fun k_ hk=>⟨⟨hk.1.1,hk.1.2⟩,hk.2⟩)))));(case aF=>exact (fun k_ hk=>⟨(Nat.le_trans (keep_size (w:=w) (g:=g) (row:=none) zhk) hk),IsS131.fresh zi131 k_ hk⟩));(case aO=>exact (zN HO302.out));(case aS=>exact (keep_size (w:=w) (g:=g) (row:=none) zhk));(case aL=>have:=LMc42.out;omega);intro v320 w48 ho hb hg hat;rw [← Ny319.out] at ho;have n0_:=Aside0.mk (IsS131.grown zi131 hg (IsS131.own_neN HI0.out HO302.out (by decide)));have n1_:=Aside0.mk (Kd.V_afterv (ok:=(fun k_=>(w.heap.size≤k_)∧k_≠g)) (zV HL318_0.out) hg hat);have n2_:=Aside0.mk (below_weaken zg131 HL.out hb);have n3_:=Aside0.mk (KeepBut.trans zhk (KeepBut.of_grown hg g) (Kd.N_base2 HO302.out));have n4_:=Aside0.mk (ho);clear HI0;clear HL318_0;clear HB;clear HK;clear HO302;have HI0:=n0_;have HL318_0:=n1_;have HB:=n2_;have HK:=n3_;have HO321:=n4_;clear n0_ n1_ n2_ n3_ n4_;clear ho hb hg hat))
       go_ret
       exact ⟨_,by first|rfl|(simp [errW_none,errW_some] <;> rfl)|(simp [*,errW_none,errW_some] <;> rfl),by (with_reducible repeat (first|apply Kd.N_alloc|apply Kd.N_drewN|apply Kd.N_drew));exact Kd.N_mono HO321.out (fun _ hk=>hk.1),zi131,zg131,zhk⟩
      ·rw [if_neg c42] at H
       exact absurd H (by simp)
     ·rw [if_neg c41] at H
      exact absurd H (by simp)
    ·rw [if_neg c40] at H
     have c40b0:(t306 == 2)=false:=beq_eq_false_iff_ne.mpr c40
     have c40b1:(t306 != 2)=true:=bne_iff_ne.mpr c40
     by_cases c49:t306=3
     ·rw [if_pos c49] at H
      have c49b0:(t306 == 3)=true:=beq_iff_eq.mpr c49
      have c49b1:(t306 != 3)=false:=bne_eq_false_iff_eq.mpr c49
      clear c49
      have H':=Aside0.mk H
      clear H
      go_enter Try.func67,Try.ntmps67
      go_wp2_with (first|((with_reducible refine gate_callee (f:=83) rfl ?_);refine goesL_ (some 8) rfl rfl Try.func83 (by kernel_rfl) rfl #[.pointer (some ⟨g,0,none⟩),.int .i64 3] rfl zar ?_;(with_reducible refine (spec_l12Rd_pick.calls g s0_0 s0_1 3 t298 t299 w0 _ ?side1 ?side2 A2.out).mono ?_);(case side1=>exact zi131);(case side2=>exact zg131);rintro e w50 ⟨rfl,hi,hb,hk⟩;refine ⟨_,rfl,?_⟩;have n0_:=Aside0.mk (KeepBut.trans zhk hk (.inl rfl));have n1_:=Aside0.mk (hb);have n2_:=Aside0.mk (hi);clear HK;clear HB;clear HI0;have HK:=n0_;have HB:=n1_;have HI0:=n2_;clear n0_ n1_ n2_;(try clear hb);(try clear hb2);(try clear hk);(try clear hi))|((with_reducible refine gate_callee (f:=114) rfl ?_);refine goesL_ (some 10) rfl rfl Try.func114 (by kernel_rfl) rfl #[.pointer (some ⟨g,0,none⟩),.int .i64 (wrap64 (1 + t298)),.int .i64 6] rfl zar ?_;(with_reducible refine (spec_l2Z.calls k g s0_0 t299 (wrap64 (1 + t298)) 6 t300 t303 w0 _ ?side1 ?side2 A3.out).mono ?_);(case side1=>exact zi131);(case side2=>exact zg131);rintro e w51 ⟨v301,rfl,ho0,hi,hb,hk⟩;refine ⟨_,rfl,?_⟩;have n0_:=Aside0.mk (Kd.N_lower (Kd.N_mono (ok':=fun k_=>(w.heap.size≤k_)∧k_≠g) ho0 (fun k_ hk_=>⟨(Nat.le_trans (keep_size (w:=w) (g:=g) (row:=none) zhk) hk_),(IsS131.fresh zi131 k_ hk_)⟩)) (keep_size (w:=w) (g:=g) (row:=none) zhk));have n1_:=Aside0.mk (KeepBut.trans zhk hk (.inl rfl));have n2_:=Aside0.mk (hb);have n3_:=Aside0.mk (hi);clear HK;clear HB;clear HI0;have HO302:=n0_;have HK:=n1_;have HB:=n2_;have HI0:=n3_;clear n0_ n1_ n2_ n3_;(try clear hb);(try clear hb2);(try clear hk);(try clear hi);(try clear ho0);obtain ⟨Ao52,co52,eo52⟩:=Kd.N_slice HO302.out;subst eo52)|((with_reducible refine gate_callee (f:=83) rfl ?_);refine goesL_ (some 18) rfl rfl Try.func83 (by kernel_rfl) rfl #[.pointer (some ⟨g,0,none⟩),.int .i64 (t300.length:Int)] rfl zar ?_;(with_reducible refine (spec_l12Rd_pick.calls g s0_0 t303 (t300.length:Int) t304 t305 w0 _ ?side1 ?side2 A8.out).mono ?_);(case side1=>exact zi131);(case side2=>exact zg131);rintro e w53 ⟨rfl,hi,hb,hk⟩;refine ⟨_,rfl,?_⟩;have n0_:=Aside0.mk (Kd.N_mono (Kd.N_keep (Kd.N_mono (ok:=fun k_=>(((w.heap.size≤k_))∧k_≠g)) (zN HO302.out) (fun k_ hk_=>(⟨hk_,hk_.2⟩:_∧k_≠g))) hk (fun _ h=>h.2)) (fun _ h=>h.1));have n1_:=Aside0.mk (KeepBut.trans zhk hk (.inl rfl));have n2_:=Aside0.mk (hb);have n3_:=Aside0.mk (hi);clear HO302;clear HK;clear HB;clear HI0;have HO302:=n0_;have HK:=n1_;have HB:=n2_;have HI0:=n3_;clear n0_ n1_ n2_ n3_;(try clear hb);(try clear hb2);(try clear hk);(try clear hi))|((with_reducible refine gate_callee (f:=83) rfl ?_);refine goesL_ (some 20) rfl rfl Try.func83 (by kernel_rfl) rfl #[.pointer (some ⟨g,0,none⟩),.int .i64 40] rfl zar ?_;(with_reducible refine (spec_l12Rd_pick.calls g s0_0 t305 40 t306 t307 w0 _ ?side1 ?side2 A9.out).mono ?_);(case side1=>exact zi131);(case side2=>exact zg131);rintro e w54 ⟨rfl,hi,hb,hk⟩;refine ⟨_,rfl,?_⟩;have n0_:=Aside0.mk (Kd.N_mono (Kd.N_keep (Kd.N_mono (ok:=fun k_=>(((w.heap.size≤k_))∧k_≠g)) (zN HO302.out) (fun k_ hk_=>(⟨hk_,hk_.2⟩:_∧k_≠g))) hk (fun _ h=>h.2)) (fun _ h=>h.1));have n1_:=Aside0.mk (KeepBut.trans zhk hk (.inl rfl));have n2_:=Aside0.mk (hb);have n3_:=Aside0.mk (hi);clear HO302;clear HK;clear HB;clear HI0;have HO302:=n0_;have HK:=n1_;have HB:=n2_;have HI0:=n3_;clear n0_ n1_ n2_ n3_;(try clear hb);(try clear hb2);(try clear hk);(try clear hi)))
      go_loopg [3,5] k (fun kq v3 v5 w'=>∃ (x3_1:List (S54)) (x5_1:Int),v5=.int .i64 x5_1∧Aside0 (spec_l2Bent.l0 kq x3_1 x5_1 s0_0 t307=some (r1,r2))∧Aside0 (kq≤k)∧Aside0 (Kd.N k54 54 w' w.heap.size (fun k_=>(w.heap.size≤k_)∧k_≠g) v3 x3_1)∧Aside0 (IsS131 w0 w' g s0_0 t307)∧Aside0 (KeepBut w w' g none)∧Aside0 (Below w0.heap.size w0 w'))
      case atStart=>exact ⟨(t300),(0),(by first|rfl|(simp;done)|(simp [*];done)),H',⟨Nat.le_refl _⟩,⟨by (with_reducible repeat (first|apply Kd.N_alloc|apply Kd.N_drewN|apply Kd.N_drew));exact HO302.out⟩,⟨zi131⟩,⟨zhk⟩,⟨zg131⟩⟩
      case round =>
       clear H'
       try clear c1
       try clear p1
       try clear q1
       try clear hx1
       try clear hf1
       try clear c2
       try clear p2
       try clear q2
       try clear hx2
       try clear hf2
       try clear c3
       try clear p3
       try clear q3
       try clear hx3
       try clear qi3
       try clear hf3
       try clear c4
       try clear c4b0
       try clear c4b1
       try clear c4b2
       try clear c6
       try clear p6
       try clear c8
       try clear c10
       try clear c10b0
       try clear c10b1
       try clear c11
       try clear c12
       try clear c12b0
       try clear c13
       try clear c13b0
       try clear c14
       try clear p14
       try clear q14
       try clear hx14
       try clear hf14
       try clear c24
       try clear hx24
       try clear hf24
       try clear c26
       try clear c26b0
       try clear c26b1
       try clear c27
       try clear c27b0
       try clear c28
       try clear c28b0
       try clear c29
       try clear p29
       try clear q29
       try clear hx29
       try clear hf29
       try clear c31
       try clear p31
       try clear q31
       try clear hx31
       try clear qi31
       try clear c37
       try clear hx37
       try clear hf37
       try clear c40
       try clear c40b0
       try clear c40b1
       try clear c41
       try clear c41b0
       try clear c41b1
       try clear c42
       try clear c49
       try clear c49b0
       try clear c49b1
       try clear hx14_0
       try clear hx14_1
       try clear hx24_1
       try clear hx29_0
       try clear hx29_1
       try clear hx318_0
       try clear hx318_1
       try clear hx37_0
       try clear p14
       try clear p29
       try clear p318
       try clear q14
       try clear q29
       try clear q318
       obtain ⟨x3_1,x5_1,rfl,HA,HK1,HO_3,HI0,HK,HB⟩:=hrel
       cases gk with
       | zero=>exact absurd HA.out (by simp [spec_l2Bent.l0])
       | succ k1 =>
        have H:=HA.out
        clear HA
        simp only [spec_l2Bent.l0] at H
        by_cases c55:x5_1 < 101
        ·rw [if_pos c55] at H
         have c55b0:decide (x5_1 < 101)=true:=decide_eq_true c55
         clear c55
         obtain ⟨y322,hy322⟩ : ∃ y_:List Int,y_=(([wrap64 (10 + x5_1)]:List Int)):=⟨_,rfl⟩
         replace H:((spec_l2Put.f k1 x3_1 y322 1).bind fun t325=>(spec_l2Bent.l0 k1 t325 (wrap64 (x5_1 + 1)) s0_0 t307))=some (r1,r2):=by first|(rw [hy322];with_reducible exact H)|(have H2_:=(Option.bind_some _ _).symm.trans H;rw [hy322];with_reducible exact H2_)|(have H2_:=(Option.bind_some _ _).symm.trans H;with_reducible exact H2_)|with_reducible exact H|(rw [hy322];exact H)|exact H
         have Ny322:=Aside0.mk hy322
         clear hy322
         replace H:=Option.bind_eq_some_iff.mp H
         obtain ⟨t325,A560,H⟩:=H
         (try dsimp only at H)
         have A56:=Aside0.mk A560
         clear A560
         have H':=Aside0.mk H
         clear H
         go_wp2_with (first|((with_reducible refine gate_dst (N:=54) rfl ?_);refine Kd.R_lit (Kd.int .i64) _ 3 ?hg (N:=54) ?hd (xs:=([wrap64 (10 + x5_1)]:List Int)) (inner:=[.int .i64 (wrap64 (10 + x5_1))]) (ok:=fun _=>True) (okp:=fun _=>True) ?hr ?hp (fun _ hk=>hk) trivial (Below.refl _ _) (Nat.le_refl _) (by simp) ?_;(case hd=>rfl);(case hg=>rfl);(case hr=>first|(go_simp;done)|(go_simp;rfl));(case hp=>exact (Reps.one (show Kd.M (Kd.int .i64) _ _ _ (wrap64 (10 + x5_1)) [.int .i64 (wrap64 (10 + x5_1))] from rfl) (Reps.none _ _)));intro v323 w57 ho58 hb hg_ hnew_;clear hg_ hnew_;(first|rw [← Ny322.out] at ho58|(simp only [Int.reduceToNat] at ho58;rw [← Ny322.out] at ho58));have n0_:=Aside0.mk (Kd.N_elder' (zN HO_3.out) (Kd.R_base ho58) hb);have n1_:=Aside0.mk (Kd.R_lower (Kd.R_newM (M:=fun k_=>(w.heap.size≤k_)) ho58 (keep_size (w:=w) (g:=g) (row:=none) zhk) (fun k_ h_=>h_)) (keep_size (w:=w) (g:=g) (row:=none) zhk));have n2_:=Aside0.mk (IsS131.below zi131 hb);have n3_:=Aside0.mk (KeepBut.trans zhk (KeepBut.of_below hb g none) (.inl rfl));have n4_:=Aside0.mk (below_step zg131 hb);clear HO_3;clear HI0;clear HK;clear HB;have HO_3:=n0_;have HO324:=n1_;have HI0:=n2_;have HK:=n3_;have HB:=n4_;clear n0_ n1_ n2_ n3_ n4_;clear hb ho58;obtain ⟨Ao59,co59,eo59⟩:=Kd.N_slice HO_3.out;subst eo59;obtain ⟨Ao60,co60,eo60⟩:=Kd.R_slice HO324.out;subst eo60)|((with_reducible refine gate_callee (f:=107) rfl ?_);refine goesL_ (some 55) rfl rfl Try.func107 (by kernel_rfl) rfl #[.slice Ao59 x3_1.length co59,.slice Ao60 y322.length co60,.int .i64 1] rfl zar ?_;(refine (spec_l2Put.calls k1 w.heap.size (fun k_=>(w.heap.size≤k_)∧some k_≠(.slice Ao60 y322.length co60:Value).ownBlock∧k_≠g) (.slice Ao59 x3_1.length co59) x3_1 _ _ y322 1 t325 ?w0_ _ ?side1 ?side2 ?side3 ?side4 ?side5 ?side6 A56.out).mono ?_);(case side1=>exact (keep_size (w:=w) (g:=g) (row:=none) zhk));(case side2=>exact (Below.refl _ _));(case side3=>exact (by (with_reducible repeat (first|apply Kd.N_alloc|apply Kd.N_drewN|apply Kd.N_drew));exact Kd.N_mono HO_3.out (fun _ hk=>⟨hk.1.1,⟨hk.2,hk.1.2⟩⟩)));(case side4=>exact (fun k_ hk=>⟨(Nat.le_trans (keep_size (w:=w) (g:=g) (row:=none) zhk) hk),Kd.fresh' (Kd.R_lt (by (with_reducible repeat (first|apply Kd.R_alloc|apply Kd.R_drewN|apply Kd.R_drew));exact HO324.out)) k_ hk,IsS131.fresh zi131 k_ hk⟩));(case side5=>repeat (first|exact (Kd.R_reads' HO324.out).2.2|(with_reducible refine Kd.C_alloc ?_ _)|(with_reducible refine Kd.C_drewN ?_ _)|(with_reducible refine Kd.C_drew ?_)));(case side6=>exact (Kd.R_reads' HO324.out).2.1);rintro e w61 ⟨v326,rfl,ho,hb,hg,hat⟩;refine ⟨_,rfl,?_⟩;have n0_:=Aside0.mk (IsS131.grown zi131 hg (IsS131.own_neN HI0.out HO_3.out (by decide)));have n1_:=Aside0.mk (Kd.R_over' (by (with_reducible repeat (first|apply Kd.R_alloc|apply Kd.R_drewN|apply Kd.R_drew));exact HO324.out) (Kd.N_typed (zN HO_3.out)) (by decide) hg);have n2_:=Aside0.mk (below_weaken zg131 HL.out hb);have n3_:=Aside0.mk (KeepBut.trans zhk (KeepBut.of_grown hg g) (Kd.N_base2 HO_3.out));have n4_:=Aside0.mk (ho);clear HI0;clear HO324;clear HB;clear HK;clear HO_3;have HI0:=n0_;have HO324:=n1_;have HB:=n2_;have HK:=n3_;have HO327:=n4_;clear n0_ n1_ n2_ n3_ n4_;clear ho hb hg hat))
         go_roundg k1
         case measure=>have:=HK1.out;omega
         case rel=>exact ⟨(t325),(wrap64 (x5_1 + 1)),(by first|rfl|(simp;done)|(simp [*];done)),H',⟨by have:=HK1.out;omega⟩,⟨by (with_reducible repeat (first|apply Kd.N_alloc|apply Kd.N_drewN|apply Kd.N_drew));exact Kd.N_mono HO327.out (fun _ hk=>⟨hk.1,hk.2.2⟩)⟩,⟨zi131⟩,⟨zhk⟩,⟨zg131⟩⟩
        ·rw [if_neg c55] at H
         have c55b0:decide (x5_1 < 101)=false:=decide_eq_false c55
         clear c55
         simp only [Option.some.injEq,Prod.mk.injEq] at H
         obtain ⟨rfl,rfl⟩:=H
         go_wp2
         go_ret
         exact ⟨_,by first|rfl|(simp [errW_none,errW_some] <;> rfl)|(simp [*,errW_none,errW_some] <;> rfl),by (with_reducible repeat (first|apply Kd.N_alloc|apply Kd.N_drewN|apply Kd.N_drew));exact Kd.N_mono HO_3.out (fun _ hk=>hk.1),zi131,zg131,zhk⟩
     ·rw [if_neg c49] at H
      have c49b0:(t306 == 3)=false:=beq_eq_false_iff_ne.mpr c49
      have c49b1:(t306 != 3)=true:=bne_iff_ne.mpr c49
      simp only [Option.some.injEq,Prod.mk.injEq] at H
      obtain ⟨rfl,rfl⟩:=H
      go_enter Try.func67,Try.ntmps67
      go_wp2_with (first|((with_reducible refine gate_callee (f:=83) rfl ?_);refine goesL_ (some 8) rfl rfl Try.func83 (by kernel_rfl) rfl #[.pointer (some ⟨g,0,none⟩),.int .i64 3] rfl zar ?_;(with_reducible refine (spec_l12Rd_pick.calls g s0_0 s0_1 3 t298 t299 w0 _ ?side1 ?side2 A2.out).mono ?_);(case side1=>exact zi131);(case side2=>exact zg131);rintro e w62 ⟨rfl,hi,hb,hk⟩;refine ⟨_,rfl,?_⟩;have n0_:=Aside0.mk (KeepBut.trans zhk hk (.inl rfl));have n1_:=Aside0.mk (hb);have n2_:=Aside0.mk (hi);clear HK;clear HB;clear HI0;have HK:=n0_;have HB:=n1_;have HI0:=n2_;clear n0_ n1_ n2_;(try clear hb);(try clear hb2);(try clear hk);(try clear hi))|((with_reducible refine gate_callee (f:=114) rfl ?_);refine goesL_ (some 10) rfl rfl Try.func114 (by kernel_rfl) rfl #[.pointer (some ⟨g,0,none⟩),.int .i64 (wrap64 (1 + t298)),.int .i64 6] rfl zar ?_;(with_reducible refine (spec_l2Z.calls k g s0_0 t299 (wrap64 (1 + t298)) 6 t300 t303 w0 _ ?side1 ?side2 A3.out).mono ?_);(case side1=>exact zi131);(case side2=>exact zg131);rintro e w63 ⟨v301,rfl,ho0,hi,hb,hk⟩;refine ⟨_,rfl,?_⟩;have n0_:=Aside0.mk (Kd.N_lower (Kd.N_mono (ok':=fun k_=>(w.heap.size≤k_)∧k_≠g) ho0 (fun k_ hk_=>⟨(Nat.le_trans (keep_size (w:=w) (g:=g) (row:=none) zhk) hk_),(IsS131.fresh zi131 k_ hk_)⟩)) (keep_size (w:=w) (g:=g) (row:=none) zhk));have n1_:=Aside0.mk (KeepBut.trans zhk hk (.inl rfl));have n2_:=Aside0.mk (hb);have n3_:=Aside0.mk (hi);clear HK;clear HB;clear HI0;have HO302:=n0_;have HK:=n1_;have HB:=n2_;have HI0:=n3_;clear n0_ n1_ n2_ n3_;(try clear hb);(try clear hb2);(try clear hk);(try clear hi);(try clear ho0);obtain ⟨Ao64,co64,eo64⟩:=Kd.N_slice HO302.out;subst eo64)|((with_reducible refine gate_callee (f:=83) rfl ?_);refine goesL_ (some 18) rfl rfl Try.func83 (by kernel_rfl) rfl #[.pointer (some ⟨g,0,none⟩),.int .i64 (t300.length:Int)] rfl zar ?_;(with_reducible refine (spec_l12Rd_pick.calls g s0_0 t303 (t300.length:Int) t304 t305 w0 _ ?side1 ?side2 A8.out).mono ?_);(case side1=>exact zi131);(case side2=>exact zg131);rintro e w65 ⟨rfl,hi,hb,hk⟩;refine ⟨_,rfl,?_⟩;have n0_:=Aside0.mk (Kd.N_mono (Kd.N_keep (Kd.N_mono (ok:=fun k_=>(((w.heap.size≤k_))∧k_≠g)) (zN HO302.out) (fun k_ hk_=>(⟨hk_,hk_.2⟩:_∧k_≠g))) hk (fun _ h=>h.2)) (fun _ h=>h.1));have n1_:=Aside0.mk (KeepBut.trans zhk hk (.inl rfl));have n2_:=Aside0.mk (hb);have n3_:=Aside0.mk (hi);clear HO302;clear HK;clear HB;clear HI0;have HO302:=n0_;have HK:=n1_;have HB:=n2_;have HI0:=n3_;clear n0_ n1_ n2_ n3_;(try clear hb);(try clear hb2);(try clear hk);(try clear hi))|((with_reducible refine gate_callee (f:=83) rfl ?_);refine goesL_ (some 20) rfl rfl Try.func83 (by kernel_rfl) rfl #[.pointer (some ⟨g,0,none⟩),.int .i64 40] rfl zar ?_;(with_reducible refine (spec_l12Rd_pick.calls g s0_0 t305 40 t306 t307 w0 _ ?side1 ?side2 A9.out).mono ?_);(case side1=>exact zi131);(case side2=>exact zg131);rintro e w66 ⟨rfl,hi,hb,hk⟩;refine ⟨_,rfl,?_⟩;have n0_:=Aside0.mk (Kd.N_mono (Kd.N_keep (Kd.N_mono (ok:=fun k_=>(((w.heap.size≤k_))∧k_≠g)) (zN HO302.out) (fun k_ hk_=>(⟨hk_,hk_.2⟩:_∧k_≠g))) hk (fun _ h=>h.2)) (fun _ h=>h.1));have n1_:=Aside0.mk (KeepBut.trans zhk hk (.inl rfl));have n2_:=Aside0.mk (hb);have n3_:=Aside0.mk (hi);clear HO302;clear HK;clear HB;clear HI0;have HO302:=n0_;have HK:=n1_;have HB:=n2_;have HI0:=n3_;clear n0_ n1_ n2_ n3_;(try clear hb);(try clear hb2);(try clear hk);(try clear hi)))
      go_ret
      exact ⟨_,by first|rfl|(simp [errW_none,errW_some] <;> rfl)|(simp [*,errW_none,errW_some] <;> rfl),by (with_reducible repeat (first|apply Kd.N_alloc|apply Kd.N_drewN|apply Kd.N_drew));exact Kd.N_mono HO302.out (fun _ hk=>hk.1),zi131,zg131,zhk⟩

/-! ### spec_DrawZNeg: function 28 -/
def spec_DrawZNeg.f (k:Nat) (l0:List Int):Option ((List (S54))):=(spec_l12Open.f l0).bind fun bt328=>((spec_l2Bent.f k bt328.1 bt328.2).bind fun bt331=>(some bt331.1))
theorem spec_DrawZNeg.mono : ∀ a0 k,LeO (spec_DrawZNeg.f k a0) (spec_DrawZNeg.f (k + 1) a0):=by
 intro a0 k
 unfold spec_DrawZNeg.f
 repeat' first
   | (with_reducible exact spec_l2Bent.mono _ _ _)
   | (with_reducible exact LeO.refl _)
   | (with_reducible exact LeO.none _)
   | (with_reducible refine LeO.ite ?_ ?_)
   | (with_reducible refine LeO.bind ?_ (fun _=>?_))
   | exact LeO.none _
   | refine LeO.ite ?_ ?_
   | refine LeO.bind ?_ (fun _=>?_)
set_option maxHeartbeats 8000000 in
set_option maxRecDepth 100000 in
theorem spec_DrawZNeg.calls (k:Nat) (A0:Option Addr) (c0:Nat) (l0:List Int) (r:List (S54)) (w:World) (hr0:Kd.C (Kd.int .u8) w A0 l0.length l0) (hc0:l0.length≤c0) (h:spec_DrawZNeg.f k l0=some r) :
  Calls Try.prog 28 #[.slice A0 l0.length c0] w fun e w'=>∃ v0_:Value,e=.returned (v0_)∧Kd.N k54 54 w' w.heap.size (fun k_=>(w.heap.size≤k_)) v0_ r∧Below w.heap.size w w':=by
 have HR0:=Aside0.mk hr0
 have HC0:=Aside0.mk hc0
 clear hr0 hc0
 have HB:=Aside0.mk (Below.refl w.heap.size w)
 have H:((spec_l12Open.f l0).bind fun bt328=>((spec_l2Bent.f k bt328.1 bt328.2).bind fun bt331=>(some bt331.1)))=some r:=h
 clear h
 replace H:=Option.bind_eq_some_iff.mp H
 obtain ⟨⟨t328,t329⟩,A20,H⟩:=H
 (try dsimp only at H)
 have A2:=Aside0.mk A20
 clear A20
 replace H:=Option.bind_eq_some_iff.mp H
 obtain ⟨⟨t331,t334⟩,A30,H⟩:=H
 (try dsimp only at H)
 have A3:=Aside0.mk A30
 clear A30
 obtain rfl:=Option.some.inj H
 go_enter Try.func28,Try.ntmps28
 go_wp2_with (first|((with_reducible refine gate_callee (f:=60) rfl ?_);refine goesL_ (some 4) rfl rfl Try.func60 (by kernel_rfl) rfl #[.slice A0 l0.length c0] rfl zar ?_;(with_reducible refine (spec_l12Open.calls _ _ l0 t328 t329 w _ ?side1 ?side2 ?side3 A2.out).mono ?_);(case side1=>exact zhb);(case side2=>exact HR0.out);(case side3=>exact HC0.out);rintro e w4 ⟨g330,rfl,hi,hb,hb2⟩;refine ⟨_,rfl,?_⟩;have n0_:=Aside0.mk (hb);have n1_:=Aside0.mk (hi);clear HB;have HB:=n0_;have HI330:=n1_;clear n0_ n1_;(try clear hb);(try clear hb2);(try clear hk);(try clear hi))|((with_reducible refine gate_callee (f:=67) rfl ?_);refine goesL_ (some 5) rfl rfl Try.func67 (by kernel_rfl) rfl #[.pointer (some ⟨g330,0,none⟩)] rfl zar ?_;(with_reducible refine (spec_l2Bent.calls k g330 t328 t329 t331 t334 w _ ?side1 ?side2 A3.out).mono ?_);(case side1=>repeat (first|(with_reducible first|exact HI330.out|apply IsS131.alloc|apply IsS131.drewN|apply IsS131.drew|apply IsS131.set_1)|exact HI330.out));(case side2=>repeat (first|(with_reducible first|exact HB.out|apply below_alloc|apply pw_below_drewN|apply below_drew1|refine below_set ?_ (IsS131.ge HI330.out))|exact HB.out));rintro e w5 ⟨v332,rfl,ho0,hi,hb,hk⟩;refine ⟨_,rfl,?_⟩;have n0_:=Aside0.mk (Kd.N_lower (Kd.N_mono (ok':=fun k_=>(w.heap.size≤k_)∧k_≠g330) ho0 (fun k_ hk_=>⟨(Nat.le_trans (below_size (by repeat (first|(with_reducible first|exact HB.out|apply below_alloc|apply pw_below_drewN|apply below_drew1|refine below_set ?_ (IsS131.ge HI330.out))|exact HB.out))) hk_),(IsS131.fresh (by repeat (first|(with_reducible first|exact HI330.out|apply IsS131.alloc|apply IsS131.drewN|apply IsS131.drew|apply IsS131.set_1)|exact HI330.out)) k_ hk_)⟩)) (below_size (by repeat (first|(with_reducible first|exact HB.out|apply below_alloc|apply pw_below_drewN|apply below_drew1|refine below_set ?_ (IsS131.ge HI330.out))|exact HB.out))));have n1_:=Aside0.mk (hb);have n2_:=Aside0.mk (hi);clear HB;clear HI330;have HO333:=n0_;have HB:=n1_;have HI330:=n2_;clear n0_ n1_ n2_;(try clear hb);(try clear hb2);(try clear hk);(try clear hi);(try clear ho0)))
 go_ret
 exact ⟨_,by first|rfl|(simp [errW_none,errW_some] <;> rfl)|(simp [*,errW_none,errW_some] <;> rfl),by (with_reducible repeat (first|apply Kd.N_alloc|apply Kd.N_drewN|apply Kd.N_drew));exact Kd.N_mono HO333.out (fun _ hk=>hk.1),by repeat (first|(with_reducible first|exact HB.out|apply below_alloc|apply pw_below_drewN|apply below_drew1|refine below_set ?_ (IsS131.ge HI330.out))|exact HB.out)⟩

-- NOT PRINTED: function 68 (slices_EqualFunc_impl_Item_impl_Item_impl_Item_impl_Item)

/-! ### slices_Equal_int_int: function 115 -/
def slices_Equal_int_int.l0:Nat→List Int→List Int→Int→Int→Option (Bool)
 | 0,_,_,_,_=>none
 | k + 1,x0,x1,x12,x13=>if x13 < x12 then (if 0≤x13 then (if x13 < (x0.length:Int) then (if x13 < (x1.length:Int) then (if (rd x0 x13)=(rd x1 x13) then (slices_Equal_int_int.l0 k x0 x1 x12 (wrap64 (x13 + 1))) else (some false)) else (none)) else (none)) else (none)) else (some true)
def slices_Equal_int_int.f (k:Nat) (l0:List Int) (l1:List Int):Option (Bool):=if (l0.length:Int)=(l1.length:Int) then (slices_Equal_int_int.l0 k l0 l1 (l0.length:Int) 0) else (some false)
theorem slices_Equal_int_int.mono_l : ∀ k,(∀ y0 y1 y2 y3,LeO (slices_Equal_int_int.l0 k y0 y1 y2 y3) (slices_Equal_int_int.l0 (k + 1) y0 y1 y2 y3))
 | 0=>fun _ _ _ _ r h=>by simp [slices_Equal_int_int.l0] at h
 | k + 1=>by
  have ih0:=slices_Equal_int_int.mono_l k
  ·intro y0 y1 y2 y3
   unfold slices_Equal_int_int.l0
   repeat' first
   | (with_reducible exact ih0 _ _ _ _)
   | (with_reducible exact LeO.refl _)
   | (with_reducible exact LeO.none _)
   | (with_reducible refine LeO.ite ?_ ?_)
   | (with_reducible refine LeO.bind ?_ (fun _=>?_))
   | exact LeO.none _
   | refine LeO.ite ?_ ?_
   | refine LeO.bind ?_ (fun _=>?_)
theorem slices_Equal_int_int.mono : ∀ a0 a1 k,LeO (slices_Equal_int_int.f k a0 a1) (slices_Equal_int_int.f (k + 1) a0 a1):=by
 intro a0 a1 k
 have ih0:=slices_Equal_int_int.mono_l k
 unfold slices_Equal_int_int.f
 repeat' first
   | (with_reducible exact ih0 _ _ _ _)
   | (with_reducible exact LeO.refl _)
   | (with_reducible exact LeO.none _)
   | (with_reducible refine LeO.ite ?_ ?_)
   | (with_reducible refine LeO.bind ?_ (fun _=>?_))
   | exact LeO.none _
   | refine LeO.ite ?_ ?_
   | refine LeO.bind ?_ (fun _=>?_)
set_option maxHeartbeats 8000000 in
set_option maxRecDepth 100000 in
theorem slices_Equal_int_int.calls (k:Nat) (A0:Option Addr) (c0:Nat) (l0:List Int) (A1:Option Addr) (c1:Nat) (l1:List Int) (r:Bool) (w:World) (hr0:Kd.C (Kd.int .i64) w A0 l0.length l0) (hc0:l0.length≤c0) (hr1:Kd.C (Kd.int .i64) w A1 l1.length l1) (hc1:l1.length≤c1) (h:slices_Equal_int_int.f k l0 l1=some r) :
  Calls Try.prog 115 #[.slice A0 l0.length c0,.slice A1 l1.length c1] w fun e w'=>e=.returned (.bool r)∧Drawn0 w w':=by
 have HR0:=Aside0.mk hr0
 have HC0:=Aside0.mk hc0
 clear hr0 hc0
 have HR1:=Aside0.mk hr1
 have HC1:=Aside0.mk hc1
 clear hr1 hc1
 have H:(if (l0.length:Int)=(l1.length:Int) then (slices_Equal_int_int.l0 k l0 l1 (l0.length:Int) 0) else (some false))=some r:=h
 clear h
 by_cases c3:(l0.length:Int)=(l1.length:Int)
 ·rw [if_pos c3] at H
  have c3b0:((l0.length:Int) == (l1.length:Int))=true:=beq_iff_eq.mpr c3
  have c3b1:((l0.length:Int) != (l1.length:Int))=false:=bne_eq_false_iff_eq.mpr c3
  have c3b2:(l0.length == l1.length)=true:=by first|simpa using c3|(simp at c3 ⊢;omega)
  clear c3
  have H':=Aside0.mk H
  clear H
  go_enter Try.func115,Try.ntmps115
  go_wp2
  repeat (go_quiet (fail);try go_wp2)
  go_loopg [13] k (fun kq v13 w'=>∃ (x13_1:Int),v13=.int .i64 x13_1∧Aside0 (slices_Equal_int_int.l0 kq l0 l1 (l0.length:Int) x13_1=some r)∧Aside0 (kq≤k)∧Drawn0 w w')
  case atStart=>exact ⟨(0),(by first|rfl|(simp;done)|(simp [*];done)),H',⟨Nat.le_refl _⟩,zdw⟩
  case round =>
   clear H'
   try clear c1
   try clear p2
   try clear c3
   try clear c3b0
   try clear c3b1
   try clear c3b2
   obtain ⟨x13_1,rfl,HA,HK1,⟨m1,rfl⟩⟩:=hrel
   cases gk with
   | zero=>exact absurd HA.out (by simp [slices_Equal_int_int.l0])
   | succ k1 =>
    have H:=HA.out
    clear HA
    simp only [slices_Equal_int_int.l0] at H
    by_cases c4:x13_1 < (l0.length:Int)
    ·rw [if_pos c4] at H
     have c4b0:decide (x13_1 < (l0.length:Int))=true:=decide_eq_true c4
     clear c4
     by_cases c5:0≤x13_1
     ·rw [if_pos c5] at H
      have c5b0:decide (0≤x13_1)=true:=decide_eq_true c5
      clear c5
      by_cases c6:x13_1 < (l0.length:Int)
      ·rw [if_pos c6] at H
       have c6b0:decide (x13_1 < (l0.length:Int))=true:=decide_eq_true c6
       clear c6
       by_cases c7:x13_1 < (l1.length:Int)
       ·rw [if_pos c7] at H
        have c7b0:decide (x13_1 < (l1.length:Int))=true:=decide_eq_true c7
        clear c7
        by_cases c8:(rd l0 x13_1)=(rd l1 x13_1)
        ·rw [if_pos c8] at H
         have c8b0:((rd l0 x13_1) == (rd l1 x13_1))=true:=beq_iff_eq.mpr c8
         have c8b1:((rd l0 x13_1) != (rd l1 x13_1))=false:=bne_eq_false_iff_eq.mpr c8
         clear c8
         have H':=Aside0.mk H
         clear H
         have p335:0≤(x13_1:Int):=zod
         have q335:x13_1 < (l0.length:Int):=zod
         obtain ⟨ad335,e335,hx335_0⟩:=Kd.at_int HR0.out x13_1 p335 q335
         cases e335
         replace p335:=eq_true p335
         replace q335:=eq_true q335
         have p336:0≤(x13_1:Int):=zod
         have q336:x13_1 < (l1.length:Int):=zod
         obtain ⟨ad336,e336,hx336_0⟩:=Kd.at_int HR1.out x13_1 p336 q336
         cases e336
         replace p336:=eq_true p336
         replace q336:=eq_true q336
         go_wp2
         repeat (go_quiet (fail);try go_wp2)
         go_roundg k1
         case measure=>have:=HK1.out;omega
         case rel=>exact ⟨(wrap64 (x13_1 + 1)),(by first|rfl|(simp;done)|(simp [*];done)),H',⟨by have:=HK1.out;omega⟩,zdw⟩
        ·rw [if_neg c8] at H
         have c8b0:((rd l0 x13_1) == (rd l1 x13_1))=false:=beq_eq_false_iff_ne.mpr c8
         have c8b1:((rd l0 x13_1) != (rd l1 x13_1))=true:=bne_iff_ne.mpr c8
         obtain rfl:=Option.some.inj H
         have p335:0≤(x13_1:Int):=zod
         have q335:x13_1 < (l0.length:Int):=zod
         obtain ⟨ad335,e335,hx335_0⟩:=Kd.at_int HR0.out x13_1 p335 q335
         cases e335
         replace p335:=eq_true p335
         replace q335:=eq_true q335
         have p336:0≤(x13_1:Int):=zod
         have q336:x13_1 < (l1.length:Int):=zod
         obtain ⟨ad336,e336,hx336_0⟩:=Kd.at_int HR1.out x13_1 p336 q336
         cases e336
         replace p336:=eq_true p336
         replace q336:=eq_true q336
         go_wp2
         repeat (go_quiet (fail);try go_wp2)
         go_ret
         exact ⟨by first|rfl|(simp;done)|(simp [*];done),zdw⟩
       ·rw [if_neg c7] at H
        exact absurd H (by simp)
      ·rw [if_neg c6] at H
       exact absurd H (by simp)
     ·rw [if_neg c5] at H
      exact absurd H (by simp)
    ·rw [if_neg c4] at H
     have c4b0:decide (x13_1 < (l0.length:Int))=false:=decide_eq_false c4
     clear c4
     obtain rfl:=Option.some.inj H
     go_wp2
     repeat (go_quiet (fail);try go_wp2)
     go_ret
     exact ⟨by first|rfl|(simp;done)|(simp [*];done),zdw⟩
 ·rw [if_neg c3] at H
  have c3b0:((l0.length:Int) == (l1.length:Int))=false:=beq_eq_false_iff_ne.mpr c3
  have c3b1:((l0.length:Int) != (l1.length:Int))=true:=bne_iff_ne.mpr c3
  have c3b2:(l0.length == l1.length)=false:=by first|simpa using c3|(simp at c3 ⊢;omega)
  obtain rfl:=Option.some.inj H
  go_enter Try.func115,Try.ntmps115
  go_wp2
  repeat (go_quiet (fail);try go_wp2)
  go_ret
  exact ⟨by first|rfl|(simp;done)|(simp [*];done),zdw⟩

/-! ### impl_RowSame: function 70 -/
def impl_RowSame.f (k:Nat) (l0:List Int) (l1:List Int):Option (Bool):=(slices_Equal_int_int.f k l0 l1).bind fun t337=>(some t337)
theorem impl_RowSame.mono : ∀ a0 a1 k,LeO (impl_RowSame.f k a0 a1) (impl_RowSame.f (k + 1) a0 a1):=by
 intro a0 a1 k
 unfold impl_RowSame.f
 repeat' first
   | (with_reducible exact slices_Equal_int_int.mono _ _ _)
   | (with_reducible exact LeO.refl _)
   | (with_reducible exact LeO.none _)
   | (with_reducible refine LeO.ite ?_ ?_)
   | (with_reducible refine LeO.bind ?_ (fun _=>?_))
   | exact LeO.none _
   | refine LeO.ite ?_ ?_
   | refine LeO.bind ?_ (fun _=>?_)
set_option maxHeartbeats 8000000 in
set_option maxRecDepth 100000 in
theorem impl_RowSame.calls (k:Nat) (A0:Option Addr) (c0:Nat) (l0:List Int) (A1:Option Addr) (c1:Nat) (l1:List Int) (r:Bool) (w:World) (hr0:Kd.C (Kd.int .i64) w A0 l0.length l0) (hc0:l0.length≤c0) (hr1:Kd.C (Kd.int .i64) w A1 l1.length l1) (hc1:l1.length≤c1) (h:impl_RowSame.f k l0 l1=some r) :
  Calls Try.prog 70 #[.slice A0 l0.length c0,.slice A1 l1.length c1] w fun e w'=>e=.returned (.bool r)∧Drawn0 w w':=by
 have HR0:=Aside0.mk hr0
 have HC0:=Aside0.mk hc0
 clear hr0 hc0
 have HR1:=Aside0.mk hr1
 have HC1:=Aside0.mk hc1
 clear hr1 hc1
 have H:((slices_Equal_int_int.f k l0 l1).bind fun t337=>(some t337))=some r:=h
 clear h
 replace H:=Option.bind_eq_some_iff.mp H
 obtain ⟨t337,A30,H⟩:=H
 (try dsimp only at H)
 have A3:=Aside0.mk A30
 clear A30
 obtain rfl:=Option.some.inj H
 go_enter Try.func70,Try.ntmps70
 go_wp2_with (first|((with_reducible refine gate_callee (f:=115) rfl ?_);refine goesL_ (some 7) rfl rfl Try.func115 (by kernel_rfl) rfl #[.slice A0 l0.length c0,.slice A1 l1.length c1] rfl zar ?_;(with_reducible refine (slices_Equal_int_int.calls k _ _ l0 _ _ l1 t337 _ ?side1 ?side2 ?side3 ?side4 A3.out).mono ?_);(case side1=>exact zC HR0.out);(case side2=>exact HC0.out);(case side3=>exact zC HR1.out);(case side4=>exact HC1.out);rintro e w' ⟨rfl,⟨nd,rfl⟩⟩;refine ⟨_,rfl,?_⟩))
 go_ret
 exact ⟨by first|rfl|(simp;done)|(simp [*];done),zdw⟩

/-! ### impl_ZSame_1: function 69 -/
def impl_ZSame_1.f (k:Nat) (l0_0:List Int) (a0_1:Int) (l1_0:List Int) (a1_1:Int):Option (Bool):=if a0_1=a1_1 then ((impl_RowSame.f k l0_0 l1_0).bind fun t340=>(some t340)) else (some false)
theorem impl_ZSame_1.mono : ∀ a0 a1 a2 a3 k,LeO (impl_ZSame_1.f k a0 a1 a2 a3) (impl_ZSame_1.f (k + 1) a0 a1 a2 a3):=by
 intro a0 a1 a2 a3 k
 unfold impl_ZSame_1.f
 repeat' first
   | (with_reducible exact impl_RowSame.mono _ _ _)
   | (with_reducible exact LeO.refl _)
   | (with_reducible exact LeO.none _)
   | (with_reducible refine LeO.ite ?_ ?_)
   | (with_reducible refine LeO.bind ?_ (fun _=>?_))
   | exact LeO.none _
   | refine LeO.ite ?_ ?_
   | refine LeO.bind ?_ (fun _=>?_)
set_option maxHeartbeats 8000000 in
set_option maxRecDepth 100000 in
theorem impl_ZSame_1.calls (k:Nat) (A0_0:Option Addr) (c0_0:Nat) (l0_0:List Int) (a0_1:Int) (A1_0:Option Addr) (c1_0:Nat) (l1_0:List Int) (a1_1:Int) (r:Bool) (w:World) (hr0_0:Kd.C (Kd.int .i64) w A0_0 l0_0.length l0_0) (hc0_0:l0_0.length≤c0_0) (hr1_0:Kd.C (Kd.int .i64) w A1_0 l1_0.length l1_0) (hc1_0:l1_0.length≤c1_0) (h:impl_ZSame_1.f k l0_0 a0_1 l1_0 a1_1=some r) :
  Calls Try.prog 69 #[.agg #[.slice A0_0 l0_0.length c0_0,.int .i64 a0_1],.agg #[.slice A1_0 l1_0.length c1_0,.int .i64 a1_1]] w fun e w'=>e=.returned (.bool r)∧Below w.heap.size w w':=by
 have hu54:=Try.underlying54
 have HR0_0:=Aside0.mk hr0_0
 have HC0_0:=Aside0.mk hc0_0
 clear hr0_0 hc0_0
 have HR1_0:=Aside0.mk hr1_0
 have HC1_0:=Aside0.mk hc1_0
 clear hr1_0 hc1_0
 have HB:=Aside0.mk (Below.refl w.heap.size w)
 have H:(if a0_1=a1_1 then ((impl_RowSame.f k l0_0 l1_0).bind fun t340=>(some t340)) else (some false))=some r:=h
 clear h
 by_cases c3:a0_1=a1_1
 ·rw [if_pos c3] at H
  have c3b0:(a0_1 == a1_1)=true:=beq_iff_eq.mpr c3
  have c3b1:(a0_1 != a1_1)=false:=bne_eq_false_iff_eq.mpr c3
  clear c3
  replace H:=Option.bind_eq_some_iff.mp H
  obtain ⟨t340,A40,H⟩:=H
  (try dsimp only at H)
  have A4:=Aside0.mk A40
  clear A40
  obtain rfl:=Option.some.inj H
  go_enter Try.func69,Try.ntmps69
  go_wp2_with (first|((with_reducible refine gate_dst (N:=2) rfl ?_);refine box_event ?hg (N:=2) ?hd (cs:=#[.slice A0_0 l0_0.length c0_0,.int .i64 a0_1]) (t:=54) ?hr ?_;(case hd=>rfl);(case hg=>rfl);(case hr=>first|(go_simp;done)|(go_simp;rfl));intro gb338 hg w5 hbox hb;have n0_:=Aside0.mk (below_step zhb hb);have n1_:=Aside0.mk (hbox);have n2_:=Aside0.mk ((by rw [hg];exact (below_size zhb):w.heap.size≤gb338));have n3_:=Aside0.mk ((by rw [hg];exact (below_size zhb):w.heap.size≤gb338));clear HB;have HB:=n0_;have BK338:=n1_;have GW338:=n2_;have GE338:=n3_;clear n0_ n1_ n2_ n3_;clear hb hbox hg)|((with_reducible refine gate_dst (N:=3) rfl ?_);refine box_event ?hg (N:=3) ?hd (cs:=#[.slice A1_0 l1_0.length c1_0,.int .i64 a1_1]) (t:=54) ?hr ?_;(case hd=>rfl);(case hg=>rfl);(case hr=>first|(go_simp;done)|(go_simp;rfl));intro gb339 hg w6 hbox hb;have n0_:=Aside0.mk (blk_below (g:=gb338) (o:=.cells #[.slice A0_0 l0_0.length c0_0,.int .i64 a0_1] 54 (0,0)) (by (with_reducible repeat (first|refine blk_drewN ?_ _|refine blk_drew ?_|refine blk_alloc ?_ _));exact BK338.out) hb);have n1_:=Aside0.mk (below_step (by repeat (first|(with_reducible first|exact HB.out|apply below_alloc|apply pw_below_drewN|apply below_drew1|refine below_set ?_ GE338.out)|exact HB.out)) hb);have n2_:=Aside0.mk (hbox);have n3_:=Aside0.mk ((by rw [hg];exact (below_size (by repeat (first|(with_reducible first|exact HB.out|apply below_alloc|apply pw_below_drewN|apply below_drew1|refine below_set ?_ GE338.out)|exact HB.out))):w.heap.size≤gb339));have n4_:=Aside0.mk ((by rw [hg];exact (below_size (by repeat (first|(with_reducible first|exact HB.out|apply below_alloc|apply pw_below_drewN|apply below_drew1|refine below_set ?_ GE338.out)|exact HB.out))):w.heap.size≤gb339));have n5_:=Aside0.mk ((by rw [hg];exact Nat.ne_of_lt (blk_lt (g:=gb338) (o:=.cells #[.slice A0_0 l0_0.length c0_0,.int .i64 a0_1] 54 (0,0)) (by (with_reducible repeat (first|refine blk_drewN ?_ _|refine blk_drew ?_|refine blk_alloc ?_ _));exact BK338.out)):gb338≠gb339));have n6_:=Aside0.mk ((by rw [hg];exact Nat.ne_of_gt (blk_lt (g:=gb338) (o:=.cells #[.slice A0_0 l0_0.length c0_0,.int .i64 a0_1] 54 (0,0)) (by (with_reducible repeat (first|refine blk_drewN ?_ _|refine blk_drew ?_|refine blk_alloc ?_ _));exact BK338.out)):gb339≠gb338));clear BK338;clear HB;have BK338:=n0_;have HB:=n1_;have BK339:=n2_;have GW339:=n3_;have GE339:=n4_;have NB338_339:=n5_;have NB339_338:=n6_;clear n0_ n1_ n2_ n3_ n4_ n5_ n6_;clear hb hbox hg;have hnb7:=NB338_339.out;have hnc7:=NB339_338.out;have hcz8_0:w6.cell? ⟨gb338,0,none⟩=some (.slice A0_0 l0_0.length c0_0):=(blk_cell BK338.out 0).trans rfl;have hcz8_1:w6.cell? ⟨gb338,1,none⟩=some (.int .i64 a0_1):=(blk_cell BK338.out 1).trans rfl;have hfz8_0:=blk_frozen BK338.out 0;have hfz8_1:=blk_frozen BK338.out 1;have hcz9_0:w6.cell? ⟨gb339,0,none⟩=some (.slice A1_0 l1_0.length c1_0):=(blk_cell BK339.out 0).trans rfl;have hcz9_1:w6.cell? ⟨gb339,1,none⟩=some (.int .i64 a1_1):=(blk_cell BK339.out 1).trans rfl;have hfz9_0:=blk_frozen BK339.out 0;have hfz9_1:=blk_frozen BK339.out 1)|(go_at_call 70;(with_reducible refine (impl_RowSame.calls k _ _ l0_0 _ _ l1_0 t340 _ ?side1 ?side2 ?side3 ?side4 A4.out).mono ?_);(case side1=>exact zC (Kd.C_below HR0_0.out HB.out));(case side2=>exact HC0_0.out);(case side3=>exact zC (Kd.C_below HR1_0.out HB.out));(case side4=>exact HC1_0.out);rintro e w' ⟨rfl,⟨nd,rfl⟩⟩))
  go_ret
  exact ⟨by first|rfl|(simp [errW_none,errW_some] <;> rfl)|(simp [*,errW_none,errW_some] <;> rfl),by repeat (first|(with_reducible first|exact HB.out|apply below_alloc|apply pw_below_drewN|apply below_drew1|refine below_set ?_ GE338.out|refine below_set ?_ GE339.out)|exact HB.out)⟩
 ·rw [if_neg c3] at H
  have c3b0:(a0_1 == a1_1)=false:=beq_eq_false_iff_ne.mpr c3
  have c3b1:(a0_1 != a1_1)=true:=bne_iff_ne.mpr c3
  obtain rfl:=Option.some.inj H
  go_enter Try.func69,Try.ntmps69
  go_wp2_with (first|((with_reducible refine gate_dst (N:=2) rfl ?_);refine box_event ?hg (N:=2) ?hd (cs:=#[.slice A0_0 l0_0.length c0_0,.int .i64 a0_1]) (t:=54) ?hr ?_;(case hd=>rfl);(case hg=>rfl);(case hr=>first|(go_simp;done)|(go_simp;rfl));intro gb338 hg w10 hbox hb;have n0_:=Aside0.mk (below_step zhb hb);have n1_:=Aside0.mk (hbox);have n2_:=Aside0.mk ((by rw [hg];exact (below_size zhb):w.heap.size≤gb338));have n3_:=Aside0.mk ((by rw [hg];exact (below_size zhb):w.heap.size≤gb338));clear HB;have HB:=n0_;have BK338:=n1_;have GW338:=n2_;have GE338:=n3_;clear n0_ n1_ n2_ n3_;clear hb hbox hg)|((with_reducible refine gate_dst (N:=3) rfl ?_);refine box_event ?hg (N:=3) ?hd (cs:=#[.slice A1_0 l1_0.length c1_0,.int .i64 a1_1]) (t:=54) ?hr ?_;(case hd=>rfl);(case hg=>rfl);(case hr=>first|(go_simp;done)|(go_simp;rfl));intro gb339 hg w11 hbox hb;have n0_:=Aside0.mk (blk_below (g:=gb338) (o:=.cells #[.slice A0_0 l0_0.length c0_0,.int .i64 a0_1] 54 (0,0)) (by (with_reducible repeat (first|refine blk_drewN ?_ _|refine blk_drew ?_|refine blk_alloc ?_ _));exact BK338.out) hb);have n1_:=Aside0.mk (below_step (by repeat (first|(with_reducible first|exact HB.out|apply below_alloc|apply pw_below_drewN|apply below_drew1|refine below_set ?_ GE338.out)|exact HB.out)) hb);have n2_:=Aside0.mk (hbox);have n3_:=Aside0.mk ((by rw [hg];exact (below_size (by repeat (first|(with_reducible first|exact HB.out|apply below_alloc|apply pw_below_drewN|apply below_drew1|refine below_set ?_ GE338.out)|exact HB.out))):w.heap.size≤gb339));have n4_:=Aside0.mk ((by rw [hg];exact (below_size (by repeat (first|(with_reducible first|exact HB.out|apply below_alloc|apply pw_below_drewN|apply below_drew1|refine below_set ?_ GE338.out)|exact HB.out))):w.heap.size≤gb339));have n5_:=Aside0.mk ((by rw [hg];exact Nat.ne_of_lt (blk_lt (g:=gb338) (o:=.cells #[.slice A0_0 l0_0.length c0_0,.int .i64 a0_1] 54 (0,0)) (by (with_reducible repeat (first|refine blk_drewN ?_ _|refine blk_drew ?_|refine blk_alloc ?_ _));exact BK338.out)):gb338≠gb339));have n6_:=Aside0.mk ((by rw [hg];exact Nat.ne_of_gt (blk_lt (g:=gb338) (o:=.cells #[.slice A0_0 l0_0.length c0_0,.int .i64 a0_1] 54 (0,0)) (by (with_reducible repeat (first|refine blk_drewN ?_ _|refine blk_drew ?_|refine blk_alloc ?_ _));exact BK338.out)):gb339≠gb338));clear BK338;clear HB;have BK338:=n0_;have HB:=n1_;have BK339:=n2_;have GW339:=n3_;have GE339:=n4_;have NB338_339:=n5_;have NB339_338:=n6_;clear n0_ n1_ n2_ n3_ n4_ n5_ n6_;clear hb hbox hg;have hnb12:=NB338_339.out;have hnc12:=NB339_338.out;have hcz13_0:w11.cell? ⟨gb338,0,none⟩=some (.slice A0_0 l0_0.length c0_0):=(blk_cell BK338.out 0).trans rfl;have hcz13_1:w11.cell? ⟨gb338,1,none⟩=some (.int .i64 a0_1):=(blk_cell BK338.out 1).trans rfl;have hfz13_0:=blk_frozen BK338.out 0;have hfz13_1:=blk_frozen BK338.out 1;have hcz14_0:w11.cell? ⟨gb339,0,none⟩=some (.slice A1_0 l1_0.length c1_0):=(blk_cell BK339.out 0).trans rfl;have hcz14_1:w11.cell? ⟨gb339,1,none⟩=some (.int .i64 a1_1):=(blk_cell BK339.out 1).trans rfl;have hfz14_0:=blk_frozen BK339.out 0;have hfz14_1:=blk_frozen BK339.out 1))
  go_ret
  exact ⟨by first|rfl|(simp [errW_none,errW_some] <;> rfl)|(simp [*,errW_none,errW_some] <;> rfl),by repeat (first|(with_reducible first|exact HB.out|apply below_alloc|apply pw_below_drewN|apply below_drew1|refine below_set ?_ GE338.out|refine below_set ?_ GE339.out)|exact HB.out)⟩

/-! ### slices_EqualFunc_impl_Item_impl_Item_impl_Item_impl_Item__impl_ZSame_1: function 68 -/
def slices_EqualFunc_impl_Item_impl_Item_impl_Item_impl_Item__impl_ZSame_1.l0:Nat→List (S54)→List (S54)→Int→Int→Option (Bool)
 | 0,_,_,_,_=>none
 | k + 1,x1,x15,x16,x17=>if x17 < x16 then (if 0≤x17 then (if x17 < (x15.length:Int) then (if x17 < (x1.length:Int) then ((impl_ZSame_1.f k ((rd_T54 x15 x17).f0) ((rd_T54 x15 x17).f1) ((rd_T54 x1 x17).f0) ((rd_T54 x1 x17).f1)).bind fun t345=>(if t345=true then (slices_EqualFunc_impl_Item_impl_Item_impl_Item_impl_Item__impl_ZSame_1.l0 k x1 x15 x16 (wrap64 (x17 + 1))) else (some false))) else (none)) else (none)) else (none)) else (some true)
def slices_EqualFunc_impl_Item_impl_Item_impl_Item_impl_Item__impl_ZSame_1.f (k:Nat) (l0:List (S54)) (l1:List (S54)) :Option (Bool):=if (l0.length:Int)=(l1.length:Int) then (slices_EqualFunc_impl_Item_impl_Item_impl_Item_impl_Item__impl_ZSame_1.l0 k l1 l0 (l0.length:Int) 0) else (some false)
theorem slices_EqualFunc_impl_Item_impl_Item_impl_Item_impl_Item__impl_ZSame_1.mono_l : ∀ k,(∀ y0 y1 y2 y3,LeO (slices_EqualFunc_impl_Item_impl_Item_impl_Item_impl_Item__impl_ZSame_1.l0 k y0 y1 y2 y3) (slices_EqualFunc_impl_Item_impl_Item_impl_Item_impl_Item__impl_ZSame_1.l0 (k + 1) y0 y1 y2 y3))
 | 0=>fun _ _ _ _ r h=>by simp [slices_EqualFunc_impl_Item_impl_Item_impl_Item_impl_Item__impl_ZSame_1.l0] at h
 | k + 1=>by
  have ih0:=slices_EqualFunc_impl_Item_impl_Item_impl_Item_impl_Item__impl_ZSame_1.mono_l k
  ·intro y0 y1 y2 y3
   unfold slices_EqualFunc_impl_Item_impl_Item_impl_Item_impl_Item__impl_ZSame_1.l0
   repeat' first
   | (with_reducible exact ih0 _ _ _ _)
   | (with_reducible exact impl_ZSame_1.mono _ _ _ _ _)
   | (with_reducible exact LeO.refl _)
   | (with_reducible exact LeO.none _)
   | (with_reducible refine LeO.ite ?_ ?_)
   | (with_reducible refine LeO.bind ?_ (fun _=>?_))
   | exact LeO.none _
   | refine LeO.ite ?_ ?_
   | refine LeO.bind ?_ (fun _=>?_)
theorem slices_EqualFunc_impl_Item_impl_Item_impl_Item_impl_Item__impl_ZSame_1.mono : ∀ a0 a1 k,LeO (slices_EqualFunc_impl_Item_impl_Item_impl_Item_impl_Item__impl_ZSame_1.f k a0 a1) (slices_EqualFunc_impl_Item_impl_Item_impl_Item_impl_Item__impl_ZSame_1.f (k + 1) a0 a1):=by
 intro a0 a1 k
 have ih0:=slices_EqualFunc_impl_Item_impl_Item_impl_Item_impl_Item__impl_ZSame_1.mono_l k
 unfold slices_EqualFunc_impl_Item_impl_Item_impl_Item_impl_Item__impl_ZSame_1.f
 repeat' first
   | (with_reducible exact ih0 _ _ _ _)
   | (with_reducible exact impl_ZSame_1.mono _ _ _ _ _)
   | (with_reducible exact LeO.refl _)
   | (with_reducible exact LeO.none _)
   | (with_reducible refine LeO.ite ?_ ?_)
   | (with_reducible refine LeO.bind ?_ (fun _=>?_))
   | exact LeO.none _
   | refine LeO.ite ?_ ?_
   | refine LeO.bind ?_ (fun _=>?_)
set_option maxHeartbeats 8000000 in
set_option maxRecDepth 100000 in
theorem slices_EqualFunc_impl_Item_impl_Item_impl_Item_impl_Item__impl_ZSame_1.calls (k:Nat) (A0:Option Addr) (c0:Nat) (l0:List (S54)) (A1:Option Addr) (c1:Nat) (l1:List (S54))  (r:Bool) (w:World) (hr0:Kd.C k54 w A0 l0.length l0) (hc0:l0.length≤c0) (hr1:Kd.C k54 w A1 l1.length l1) (hc1:l1.length≤c1) (h:slices_EqualFunc_impl_Item_impl_Item_impl_Item_impl_Item__impl_ZSame_1.f k l0 l1=some r) :
  Calls Try.prog 68 #[.slice A0 l0.length c0,.slice A1 l1.length c1,.func (.func 69) #[] #[]] w fun e w'=>e=.returned (.bool r)∧Below w.heap.size w w':=by
 have hu54:=Try.underlying54
 have HR0:=Aside0.mk hr0
 have HC0:=Aside0.mk hc0
 clear hr0 hc0
 have HR1:=Aside0.mk hr1
 have HC1:=Aside0.mk hc1
 clear hr1 hc1
 have HB:=Aside0.mk (Below.refl w.heap.size w)
 have H:(if (l0.length:Int)=(l1.length:Int) then (slices_EqualFunc_impl_Item_impl_Item_impl_Item_impl_Item__impl_ZSame_1.l0 k l1 l0 (l0.length:Int) 0) else (some false))=some r:=h
 clear h
 by_cases c4:(l0.length:Int)=(l1.length:Int)
 ·rw [if_pos c4] at H
  have c4b0:((l0.length:Int) == (l1.length:Int))=true:=beq_iff_eq.mpr c4
  have c4b1:((l0.length:Int) != (l1.length:Int))=false:=bne_eq_false_iff_eq.mpr c4
  have c4b2:(l0.length == l1.length)=true:=by first|simpa using c4|(simp at c4 ⊢;omega)
  clear c4
  have H':=Aside0.mk H
  clear H
  go_enter Try.func68,Try.ntmps68
  go_wp2
  go_loopg [17] k (fun kq v17 w'=>∃ (x17_1:Int),v17=.int .i64 x17_1∧Aside0 (slices_EqualFunc_impl_Item_impl_Item_impl_Item_impl_Item__impl_ZSame_1.l0 kq l1 l0 (l0.length:Int) x17_1=some r)∧Aside0 (kq≤k)∧Aside0 (Below w.heap.size w w'))
  case atStart=>exact ⟨(0),(by first|rfl|(simp;done)|(simp [*];done)),H',⟨Nat.le_refl _⟩,⟨zhb⟩⟩
  case round =>
   clear H'
   try clear c1
   try clear p2
   try clear c4
   try clear c4b0
   try clear c4b1
   try clear c4b2
   obtain ⟨x17_1,rfl,HA,HK1,HB⟩:=hrel
   cases gk with
   | zero=>exact absurd HA.out (by simp [slices_EqualFunc_impl_Item_impl_Item_impl_Item_impl_Item__impl_ZSame_1.l0])
   | succ k1 =>
    have H:=HA.out
    clear HA
    simp only [slices_EqualFunc_impl_Item_impl_Item_impl_Item_impl_Item__impl_ZSame_1.l0] at H
    by_cases c5:x17_1 < (l0.length:Int)
    ·rw [if_pos c5] at H
     have c5b0:decide (x17_1 < (l0.length:Int))=true:=decide_eq_true c5
     clear c5
     by_cases c6:0≤x17_1
     ·rw [if_pos c6] at H
      have c6b0:decide (0≤x17_1)=true:=decide_eq_true c6
      clear c6
      by_cases c7:x17_1 < (l0.length:Int)
      ·rw [if_pos c7] at H
       have c7b0:decide (x17_1 < (l0.length:Int))=true:=decide_eq_true c7
       clear c7
       by_cases c8:x17_1 < (l1.length:Int)
       ·rw [if_pos c8] at H
        have c8b0:decide (x17_1 < (l1.length:Int))=true:=decide_eq_true c8
        clear c8
        replace H:=Option.bind_eq_some_iff.mp H
        obtain ⟨t345,A90,H⟩:=H
        (try dsimp only at H)
        have A9:=Aside0.mk A90
        clear A90
        by_cases c10:t345=true
        ·subst c10
         have H1:(slices_EqualFunc_impl_Item_impl_Item_impl_Item_impl_Item__impl_ZSame_1.l0 k1 l1 l0 (l0.length:Int) (wrap64 (x17_1 + 1)))=some r:=by rw [if_pos rfl] at H;exact H
         clear H
         have H:=H1
         clear H1
         have H':=Aside0.mk H
         clear H
         have p341:0≤(x17_1:Int):=zod
         have q341:x17_1 < (l0.length:Int):=zod
         obtain ⟨ad341,A341_0,c341_0,e341,hx341_0,hx341_1,hl341_0,hi341_0⟩:=at_T54 HR0.out x17_1 p341 q341
         cases e341
         replace hx341_0:=(HB.out.cell (World.block_lt_of_cell? w _ hx341_0)).trans hx341_0
         replace hx341_1:=(HB.out.cell (World.block_lt_of_cell? w _ hx341_1)).trans hx341_1
         have HR341_0:=Aside0.mk hi341_0
         have HC341_0:=Aside0.mk hl341_0
         clear hi341_0 hl341_0
         replace p341:=eq_true p341
         replace q341:=eq_true q341
         go_wp2_with (first|((with_reducible refine gate_dst (N:=8) rfl ?_);refine box_event ?hg (N:=8) ?hd (cs:=#[.slice none 0 0,.int .i64 0]) (t:=54) ?hr ?_;(case hd=>rfl);(case hg=>rfl);(case hr=>first|(go_simp;done)|(go_simp;rfl));intro gb342 hg w11 hbox hb;have n0_:=Aside0.mk (below_step zhb hb);have n1_:=Aside0.mk (hbox);have n2_:=Aside0.mk ((by rw [hg];exact (below_size zhb):w.heap.size≤gb342));have n3_:=Aside0.mk ((by rw [hg];exact (below_size zhb):w.heap.size≤gb342));clear HB;have HB:=n0_;have BK342:=n1_;have GW342:=n2_;have GE342:=n3_;clear n0_ n1_ n2_ n3_;clear hb hbox hg;have hcz12_0:w11.cell? ⟨gb342,0,none⟩=some (.slice none 0 0):=(blk_cell BK342.out 0).trans rfl;have hcz12_1:w11.cell? ⟨gb342,1,none⟩=some (.int .i64 0):=(blk_cell BK342.out 1).trans rfl;have hfz12_0:=blk_frozen BK342.out 0;have hfz12_1:=blk_frozen BK342.out 1;have p343:0≤(x17_1:Int):=zod;have q343:x17_1 < (l1.length:Int):=zod;obtain ⟨ad343,A343_0,c343_0,e343,hx343_0,hx343_1,hl343_0,hi343_0⟩:=at_T54 HR1.out x17_1 p343 q343;cases e343;have hn343_0:ad343.block≠gb342:=Nat.ne_of_lt (Nat.lt_of_lt_of_le (by have:=World.block_lt_of_cell? _ _ hx343_0;first|rwa [add_block] at this|exact this) GW342.out);have hn343_1:ad343.block≠gb342:=Nat.ne_of_lt (Nat.lt_of_lt_of_le (by have:=World.block_lt_of_cell? _ _ hx343_0;first|rwa [add_block] at this|exact this) GW342.out);replace hx343_0:=(HB.out.cell (World.block_lt_of_cell? w _ hx343_0)).trans hx343_0;replace hx343_1:=(HB.out.cell (World.block_lt_of_cell? w _ hx343_1)).trans hx343_1;have HR343_0:=Aside0.mk hi343_0;have HC343_0:=Aside0.mk hl343_0;clear hi343_0 hl343_0;replace hx343_0:=(cell_far (p:=⟨gb342,0,none⟩) (by first|(rw [add_block];exact hn343_0)|(show (Addr.add _ _).block≠_;rw [add_block];exact hn343_0)|exact hn343_0) (.slice A341_0 ((rd_T54 l0 x17_1).f0).length c341_0)).trans hx343_0;replace hx343_1:=(cell_far (p:=⟨gb342,0,none⟩) (by first|(rw [add_block];exact hn343_0)|(show (Addr.add _ _).block≠_;rw [add_block];exact hn343_0)|exact hn343_0) (.slice A341_0 ((rd_T54 l0 x17_1).f0).length c341_0)).trans hx343_1;replace hx343_0:=(cell_far (p:=⟨gb342,1,none⟩) (by first|(rw [add_block];exact hn343_1)|(show (Addr.add _ _).block≠_;rw [add_block];exact hn343_1)|exact hn343_1) (.int .i64 ((rd_T54 l0 x17_1).f1))).trans hx343_0;replace hx343_1:=(cell_far (p:=⟨gb342,1,none⟩) (by first|(rw [add_block];exact hn343_1)|(show (Addr.add _ _).block≠_;rw [add_block];exact hn343_1)|exact hn343_1) (.int .i64 ((rd_T54 l0 x17_1).f1))).trans hx343_1;clear hn343_0;clear hn343_1;replace p343:=eq_true p343;replace q343:=eq_true q343)|((with_reducible refine gate_dst (N:=9) rfl ?_);refine box_event ?hg (N:=9) ?hd (cs:=#[.slice none 0 0,.int .i64 0]) (t:=54) ?hr ?_;(case hd=>rfl);(case hg=>rfl);(case hr=>first|(go_simp;done)|(go_simp;rfl));intro gb344 hg w13 hbox hb;have n0_:=Aside0.mk (blk_below (g:=gb342) (o:=.cells #[.slice A341_0 ((rd_T54 l0 x17_1).f0).length c341_0,.int .i64 ((rd_T54 l0 x17_1).f1)] 54 (0,0)) (by (with_reducible repeat (first|refine blk_drewN ?_ _|refine blk_drew ?_|refine blk_alloc ?_ _));refine blk_put (cs:=#[.slice A341_0 ((rd_T54 l0 x17_1).f0).length c341_0,.int .i64 0]) ?_ 1 _ rfl;(with_reducible repeat (first|refine blk_drewN ?_ _|refine blk_drew ?_|refine blk_alloc ?_ _));refine blk_put (cs:=#[.slice none 0 0,.int .i64 0]) ?_ 0 _ rfl;(with_reducible repeat (first|refine blk_drewN ?_ _|refine blk_drew ?_|refine blk_alloc ?_ _));exact BK342.out) hb);have n1_:=Aside0.mk (below_step (by repeat (first|(with_reducible first|exact HB.out|apply below_alloc|apply pw_below_drewN|apply below_drew1|refine below_set ?_ GE342.out)|exact HB.out)) hb);have n2_:=Aside0.mk (hbox);have n3_:=Aside0.mk ((by rw [hg];exact (below_size (by repeat (first|(with_reducible first|exact HB.out|apply below_alloc|apply pw_below_drewN|apply below_drew1|refine below_set ?_ GE342.out)|exact HB.out))):w.heap.size≤gb344));have n4_:=Aside0.mk ((by rw [hg];exact (below_size (by repeat (first|(with_reducible first|exact HB.out|apply below_alloc|apply pw_below_drewN|apply below_drew1|refine below_set ?_ GE342.out)|exact HB.out))):w.heap.size≤gb344));have n5_:=Aside0.mk ((by rw [hg];exact Nat.ne_of_lt (blk_lt (g:=gb342) (o:=.cells #[.slice A341_0 ((rd_T54 l0 x17_1).f0).length c341_0,.int .i64 ((rd_T54 l0 x17_1).f1)] 54 (0,0)) (by (with_reducible repeat (first|refine blk_drewN ?_ _|refine blk_drew ?_|refine blk_alloc ?_ _));refine blk_put (cs:=#[.slice A341_0 ((rd_T54 l0 x17_1).f0).length c341_0,.int .i64 0]) ?_ 1 _ rfl;(with_reducible repeat (first|refine blk_drewN ?_ _|refine blk_drew ?_|refine blk_alloc ?_ _));refine blk_put (cs:=#[.slice none 0 0,.int .i64 0]) ?_ 0 _ rfl;(with_reducible repeat (first|refine blk_drewN ?_ _|refine blk_drew ?_|refine blk_alloc ?_ _));exact BK342.out)):gb342≠gb344));have n6_:=Aside0.mk ((by rw [hg];exact Nat.ne_of_gt (blk_lt (g:=gb342) (o:=.cells #[.slice A341_0 ((rd_T54 l0 x17_1).f0).length c341_0,.int .i64 ((rd_T54 l0 x17_1).f1)] 54 (0,0)) (by (with_reducible repeat (first|refine blk_drewN ?_ _|refine blk_drew ?_|refine blk_alloc ?_ _));refine blk_put (cs:=#[.slice A341_0 ((rd_T54 l0 x17_1).f0).length c341_0,.int .i64 0]) ?_ 1 _ rfl;(with_reducible repeat (first|refine blk_drewN ?_ _|refine blk_drew ?_|refine blk_alloc ?_ _));refine blk_put (cs:=#[.slice none 0 0,.int .i64 0]) ?_ 0 _ rfl;(with_reducible repeat (first|refine blk_drewN ?_ _|refine blk_drew ?_|refine blk_alloc ?_ _));exact BK342.out)):gb344≠gb342));clear BK342;clear HB;have BK342:=n0_;have HB:=n1_;have BK344:=n2_;have GW344:=n3_;have GE344:=n4_;have NB342_344:=n5_;have NB344_342:=n6_;clear n0_ n1_ n2_ n3_ n4_ n5_ n6_;clear hb hbox hg;have hnb14:=NB344_342.out;have hnc14:=NB342_344.out;have hcz15_0:w13.cell? ⟨gb344,0,none⟩=some (.slice none 0 0):=(blk_cell BK344.out 0).trans rfl;have hcz15_1:w13.cell? ⟨gb344,1,none⟩=some (.int .i64 0):=(blk_cell BK344.out 1).trans rfl;have hfz15_0:=blk_frozen BK344.out 0;have hfz15_1:=blk_frozen BK344.out 1;have hcz16_0:w13.cell? ⟨gb342,0,none⟩=some (.slice A341_0 ((rd_T54 l0 x17_1).f0).length c341_0):=(blk_cell BK342.out 0).trans rfl;have hcz16_1:w13.cell? ⟨gb342,1,none⟩=some (.int .i64 ((rd_T54 l0 x17_1).f1)):=(blk_cell BK342.out 1).trans rfl;have hfz16_0:=blk_frozen BK342.out 0;have hfz16_1:=blk_frozen BK342.out 1)|(go_at_call 69;(with_reducible refine (impl_ZSame_1.calls k1 _ _ ((rd_T54 l0 x17_1).f0) ((rd_T54 l0 x17_1).f1) _ _ ((rd_T54 l1 x17_1).f0) ((rd_T54 l1 x17_1).f1) true _ ?side1 ?side2 ?side3 ?side4 A9.out).mono ?_);(case side1=>exact Kd.C_below HR341_0.out (by repeat (first|(with_reducible first|exact HB.out|apply below_alloc|apply pw_below_drewN|apply below_drew1|refine below_set ?_ GE342.out|refine below_set ?_ GE344.out)|exact HB.out)));(case side2=>exact HC341_0.out);(case side3=>exact Kd.C_below HR343_0.out (by repeat (first|(with_reducible first|exact HB.out|apply below_alloc|apply pw_below_drewN|apply below_drew1|refine below_set ?_ GE342.out|refine below_set ?_ GE344.out)|exact HB.out)));(case side4=>exact HC343_0.out);rintro e w17 ⟨rfl,hb⟩;have n0_:=Aside0.mk (blk_below (g:=gb342) (o:=.cells #[.slice A341_0 ((rd_T54 l0 x17_1).f0).length c341_0,.int .i64 ((rd_T54 l0 x17_1).f1)] 54 (0,0)) (by (with_reducible repeat (first|refine blk_drewN ?_ _|refine blk_drew ?_|refine blk_alloc ?_ _));refine blk_far ?_ NB342_344.out _;(with_reducible repeat (first|refine blk_drewN ?_ _|refine blk_drew ?_|refine blk_alloc ?_ _));refine blk_far ?_ NB342_344.out _;(with_reducible repeat (first|refine blk_drewN ?_ _|refine blk_drew ?_|refine blk_alloc ?_ _));exact BK342.out) hb);have n1_:=Aside0.mk (blk_below (g:=gb344) (o:=.cells #[.slice A343_0 ((rd_T54 l1 x17_1).f0).length c343_0,.int .i64 ((rd_T54 l1 x17_1).f1)] 54 (0,0)) (by (with_reducible repeat (first|refine blk_drewN ?_ _|refine blk_drew ?_|refine blk_alloc ?_ _));refine blk_put (cs:=#[.slice A343_0 ((rd_T54 l1 x17_1).f0).length c343_0,.int .i64 0]) ?_ 1 _ rfl;(with_reducible repeat (first|refine blk_drewN ?_ _|refine blk_drew ?_|refine blk_alloc ?_ _));refine blk_put (cs:=#[.slice none 0 0,.int .i64 0]) ?_ 0 _ rfl;(with_reducible repeat (first|refine blk_drewN ?_ _|refine blk_drew ?_|refine blk_alloc ?_ _));exact BK344.out) hb);have n2_:=Aside0.mk (below_step (by repeat (first|(with_reducible first|exact HB.out|apply below_alloc|apply pw_below_drewN|apply below_drew1|refine below_set ?_ GE342.out|refine below_set ?_ GE344.out)|exact HB.out)) hb);clear BK342;clear BK344;clear HB;have BK342:=n0_;have BK344:=n1_;have HB:=n2_;clear n0_ n1_ n2_;(try clear hb);(try clear hb2);(try clear hk);(try clear hi)))
         go_roundg k1
         case measure=>have:=HK1.out;omega
         case rel=>exact ⟨(wrap64 (x17_1 + 1)),(by first|rfl|(simp;done)|(simp [*];done)),H',⟨by have:=HK1.out;omega⟩,⟨by repeat (first|(with_reducible first|exact HB.out|apply below_alloc|apply pw_below_drewN|apply below_drew1|refine below_set ?_ GE342.out|refine below_set ?_ GE344.out)|exact HB.out)⟩⟩
        ·replace c10:=Bool.eq_false_iff.mpr c10
         subst c10
         have H1:(some false)=some r:=by rw [if_neg (show ¬ (false=true) by decide)] at H;exact H
         clear H
         have H:=H1
         clear H1
         obtain rfl:=Option.some.inj H
         have p341:0≤(x17_1:Int):=zod
         have q341:x17_1 < (l0.length:Int):=zod
         obtain ⟨ad341,A341_0,c341_0,e341,hx341_0,hx341_1,hl341_0,hi341_0⟩:=at_T54 HR0.out x17_1 p341 q341
         cases e341
         replace hx341_0:=(HB.out.cell (World.block_lt_of_cell? w _ hx341_0)).trans hx341_0
         replace hx341_1:=(HB.out.cell (World.block_lt_of_cell? w _ hx341_1)).trans hx341_1
         have HR341_0:=Aside0.mk hi341_0
         have HC341_0:=Aside0.mk hl341_0
         clear hi341_0 hl341_0
         replace p341:=eq_true p341
         replace q341:=eq_true q341
         go_wp2_with (first|((with_reducible refine gate_dst (N:=8) rfl ?_);refine box_event ?hg (N:=8) ?hd (cs:=#[.slice none 0 0,.int .i64 0]) (t:=54) ?hr ?_;(case hd=>rfl);(case hg=>rfl);(case hr=>first|(go_simp;done)|(go_simp;rfl));intro gb342 hg w18 hbox hb;have n0_:=Aside0.mk (below_step zhb hb);have n1_:=Aside0.mk (hbox);have n2_:=Aside0.mk ((by rw [hg];exact (below_size zhb):w.heap.size≤gb342));have n3_:=Aside0.mk ((by rw [hg];exact (below_size zhb):w.heap.size≤gb342));clear HB;have HB:=n0_;have BK342:=n1_;have GW342:=n2_;have GE342:=n3_;clear n0_ n1_ n2_ n3_;clear hb hbox hg;have hcz19_0:w18.cell? ⟨gb342,0,none⟩=some (.slice none 0 0):=(blk_cell BK342.out 0).trans rfl;have hcz19_1:w18.cell? ⟨gb342,1,none⟩=some (.int .i64 0):=(blk_cell BK342.out 1).trans rfl;have hfz19_0:=blk_frozen BK342.out 0;have hfz19_1:=blk_frozen BK342.out 1;have p343:0≤(x17_1:Int):=zod;have q343:x17_1 < (l1.length:Int):=zod;obtain ⟨ad343,A343_0,c343_0,e343,hx343_0,hx343_1,hl343_0,hi343_0⟩:=at_T54 HR1.out x17_1 p343 q343;cases e343;have hn343_0:ad343.block≠gb342:=Nat.ne_of_lt (Nat.lt_of_lt_of_le (by have:=World.block_lt_of_cell? _ _ hx343_0;first|rwa [add_block] at this|exact this) GW342.out);have hn343_1:ad343.block≠gb342:=Nat.ne_of_lt (Nat.lt_of_lt_of_le (by have:=World.block_lt_of_cell? _ _ hx343_0;first|rwa [add_block] at this|exact this) GW342.out);replace hx343_0:=(HB.out.cell (World.block_lt_of_cell? w _ hx343_0)).trans hx343_0;replace hx343_1:=(HB.out.cell (World.block_lt_of_cell? w _ hx343_1)).trans hx343_1;have HR343_0:=Aside0.mk hi343_0;have HC343_0:=Aside0.mk hl343_0;clear hi343_0 hl343_0;replace hx343_0:=(cell_far (p:=⟨gb342,0,none⟩) (by first|(rw [add_block];exact hn343_0)|(show (Addr.add _ _).block≠_;rw [add_block];exact hn343_0)|exact hn343_0) (.slice A341_0 ((rd_T54 l0 x17_1).f0).length c341_0)).trans hx343_0;replace hx343_1:=(cell_far (p:=⟨gb342,0,none⟩) (by first|(rw [add_block];exact hn343_0)|(show (Addr.add _ _).block≠_;rw [add_block];exact hn343_0)|exact hn343_0) (.slice A341_0 ((rd_T54 l0 x17_1).f0).length c341_0)).trans hx343_1;replace hx343_0:=(cell_far (p:=⟨gb342,1,none⟩) (by first|(rw [add_block];exact hn343_1)|(show (Addr.add _ _).block≠_;rw [add_block];exact hn343_1)|exact hn343_1) (.int .i64 ((rd_T54 l0 x17_1).f1))).trans hx343_0;replace hx343_1:=(cell_far (p:=⟨gb342,1,none⟩) (by first|(rw [add_block];exact hn343_1)|(show (Addr.add _ _).block≠_;rw [add_block];exact hn343_1)|exact hn343_1) (.int .i64 ((rd_T54 l0 x17_1).f1))).trans hx343_1;clear hn343_0;clear hn343_1;replace p343:=eq_true p343;replace q343:=eq_true q343)|((with_reducible refine gate_dst (N:=9) rfl ?_);refine box_event ?hg (N:=9) ?hd (cs:=#[.slice none 0 0,.int .i64 0]) (t:=54) ?hr ?_;(case hd=>rfl);(case hg=>rfl);(case hr=>first|(go_simp;done)|(go_simp;rfl));intro gb344 hg w20 hbox hb;have n0_:=Aside0.mk (blk_below (g:=gb342) (o:=.cells #[.slice A341_0 ((rd_T54 l0 x17_1).f0).length c341_0,.int .i64 ((rd_T54 l0 x17_1).f1)] 54 (0,0)) (by (with_reducible repeat (first|refine blk_drewN ?_ _|refine blk_drew ?_|refine blk_alloc ?_ _));refine blk_put (cs:=#[.slice A341_0 ((rd_T54 l0 x17_1).f0).length c341_0,.int .i64 0]) ?_ 1 _ rfl;(with_reducible repeat (first|refine blk_drewN ?_ _|refine blk_drew ?_|refine blk_alloc ?_ _));refine blk_put (cs:=#[.slice none 0 0,.int .i64 0]) ?_ 0 _ rfl;(with_reducible repeat (first|refine blk_drewN ?_ _|refine blk_drew ?_|refine blk_alloc ?_ _));exact BK342.out) hb);have n1_:=Aside0.mk (below_step (by repeat (first|(with_reducible first|exact HB.out|apply below_alloc|apply pw_below_drewN|apply below_drew1|refine below_set ?_ GE342.out)|exact HB.out)) hb);have n2_:=Aside0.mk (hbox);have n3_:=Aside0.mk ((by rw [hg];exact (below_size (by repeat (first|(with_reducible first|exact HB.out|apply below_alloc|apply pw_below_drewN|apply below_drew1|refine below_set ?_ GE342.out)|exact HB.out))):w.heap.size≤gb344));have n4_:=Aside0.mk ((by rw [hg];exact (below_size (by repeat (first|(with_reducible first|exact HB.out|apply below_alloc|apply pw_below_drewN|apply below_drew1|refine below_set ?_ GE342.out)|exact HB.out))):w.heap.size≤gb344));have n5_:=Aside0.mk ((by rw [hg];exact Nat.ne_of_lt (blk_lt (g:=gb342) (o:=.cells #[.slice A341_0 ((rd_T54 l0 x17_1).f0).length c341_0,.int .i64 ((rd_T54 l0 x17_1).f1)] 54 (0,0)) (by (with_reducible repeat (first|refine blk_drewN ?_ _|refine blk_drew ?_|refine blk_alloc ?_ _));refine blk_put (cs:=#[.slice A341_0 ((rd_T54 l0 x17_1).f0).length c341_0,.int .i64 0]) ?_ 1 _ rfl;(with_reducible repeat (first|refine blk_drewN ?_ _|refine blk_drew ?_|refine blk_alloc ?_ _));refine blk_put (cs:=#[.slice none 0 0,.int .i64 0]) ?_ 0 _ rfl;(with_reducible repeat (first|refine blk_drewN ?_ _|refine blk_drew ?_|refine blk_alloc ?_ _));exact BK342.out)):gb342≠gb344));have n6_:=Aside0.mk ((by rw [hg];exact Nat.ne_of_gt (blk_lt (g:=gb342) (o:=.cells #[.slice A341_0 ((rd_T54 l0 x17_1).f0).length c341_0,.int .i64 ((rd_T54 l0 x17_1).f1)] 54 (0,0)) (by (with_reducible repeat (first|refine blk_drewN ?_ _|refine blk_drew ?_|refine blk_alloc ?_ _));refine blk_put (cs:=#[.slice A341_0 ((rd_T54 l0 x17_1).f0).length c341_0,.int .i64 0]) ?_ 1 _ rfl;(with_reducible repeat (first|refine blk_drewN ?_ _|refine blk_drew ?_|refine blk_alloc ?_ _));refine blk_put (cs:=#[.slice none 0 0,.int .i64 0]) ?_ 0 _ rfl;(with_reducible repeat (first|refine blk_drewN ?_ _|refine blk_drew ?_|refine blk_alloc ?_ _));exact BK342.out)):gb344≠gb342));clear BK342;clear HB;have BK342:=n0_;have HB:=n1_;have BK344:=n2_;have GW344:=n3_;have GE344:=n4_;have NB342_344:=n5_;have NB344_342:=n6_;clear n0_ n1_ n2_ n3_ n4_ n5_ n6_;clear hb hbox hg;have hnb21:=NB344_342.out;have hnc21:=NB342_344.out;have hcz22_0:w20.cell? ⟨gb344,0,none⟩=some (.slice none 0 0):=(blk_cell BK344.out 0).trans rfl;have hcz22_1:w20.cell? ⟨gb344,1,none⟩=some (.int .i64 0):=(blk_cell BK344.out 1).trans rfl;have hfz22_0:=blk_frozen BK344.out 0;have hfz22_1:=blk_frozen BK344.out 1;have hcz23_0:w20.cell? ⟨gb342,0,none⟩=some (.slice A341_0 ((rd_T54 l0 x17_1).f0).length c341_0):=(blk_cell BK342.out 0).trans rfl;have hcz23_1:w20.cell? ⟨gb342,1,none⟩=some (.int .i64 ((rd_T54 l0 x17_1).f1)):=(blk_cell BK342.out 1).trans rfl;have hfz23_0:=blk_frozen BK342.out 0;have hfz23_1:=blk_frozen BK342.out 1)|(go_at_call 69;(with_reducible refine (impl_ZSame_1.calls k1 _ _ ((rd_T54 l0 x17_1).f0) ((rd_T54 l0 x17_1).f1) _ _ ((rd_T54 l1 x17_1).f0) ((rd_T54 l1 x17_1).f1) false _ ?side1 ?side2 ?side3 ?side4 A9.out).mono ?_);(case side1=>exact Kd.C_below HR341_0.out (by repeat (first|(with_reducible first|exact HB.out|apply below_alloc|apply pw_below_drewN|apply below_drew1|refine below_set ?_ GE342.out|refine below_set ?_ GE344.out)|exact HB.out)));(case side2=>exact HC341_0.out);(case side3=>exact Kd.C_below HR343_0.out (by repeat (first|(with_reducible first|exact HB.out|apply below_alloc|apply pw_below_drewN|apply below_drew1|refine below_set ?_ GE342.out|refine below_set ?_ GE344.out)|exact HB.out)));(case side4=>exact HC343_0.out);rintro e w24 ⟨rfl,hb⟩;have n0_:=Aside0.mk (blk_below (g:=gb342) (o:=.cells #[.slice A341_0 ((rd_T54 l0 x17_1).f0).length c341_0,.int .i64 ((rd_T54 l0 x17_1).f1)] 54 (0,0)) (by (with_reducible repeat (first|refine blk_drewN ?_ _|refine blk_drew ?_|refine blk_alloc ?_ _));refine blk_far ?_ NB342_344.out _;(with_reducible repeat (first|refine blk_drewN ?_ _|refine blk_drew ?_|refine blk_alloc ?_ _));refine blk_far ?_ NB342_344.out _;(with_reducible repeat (first|refine blk_drewN ?_ _|refine blk_drew ?_|refine blk_alloc ?_ _));exact BK342.out) hb);have n1_:=Aside0.mk (blk_below (g:=gb344) (o:=.cells #[.slice A343_0 ((rd_T54 l1 x17_1).f0).length c343_0,.int .i64 ((rd_T54 l1 x17_1).f1)] 54 (0,0)) (by (with_reducible repeat (first|refine blk_drewN ?_ _|refine blk_drew ?_|refine blk_alloc ?_ _));refine blk_put (cs:=#[.slice A343_0 ((rd_T54 l1 x17_1).f0).length c343_0,.int .i64 0]) ?_ 1 _ rfl;(with_reducible repeat (first|refine blk_drewN ?_ _|refine blk_drew ?_|refine blk_alloc ?_ _));refine blk_put (cs:=#[.slice none 0 0,.int .i64 0]) ?_ 0 _ rfl;(with_reducible repeat (first|refine blk_drewN ?_ _|refine blk_drew ?_|refine blk_alloc ?_ _));exact BK344.out) hb);have n2_:=Aside0.mk (below_step (by repeat (first|(with_reducible first|exact HB.out|apply below_alloc|apply pw_below_drewN|apply below_drew1|refine below_set ?_ GE342.out|refine below_set ?_ GE344.out)|exact HB.out)) hb);clear BK342;clear BK344;clear HB;have BK342:=n0_;have BK344:=n1_;have HB:=n2_;clear n0_ n1_ n2_;(try clear hb);(try clear hb2);(try clear hk);(try clear hi)))
         go_ret
         exact ⟨by first|rfl|(simp [errW_none,errW_some] <;> rfl)|(simp [*,errW_none,errW_some] <;> rfl),by repeat (first|(with_reducible first|exact HB.out|apply below_alloc|apply pw_below_drewN|apply below_drew1|refine below_set ?_ GE342.out|refine below_set ?_ GE344.out)|exact HB.out)⟩
       ·rw [if_neg c8] at H
        exact absurd H (by simp)
      ·rw [if_neg c7] at H
       exact absurd H (by simp)
     ·rw [if_neg c6] at H
      exact absurd H (by simp)
    ·rw [if_neg c5] at H
     have c5b0:decide (x17_1 < (l0.length:Int))=false:=decide_eq_false c5
     clear c5
     obtain rfl:=Option.some.inj H
     go_wp2
     go_ret
     exact ⟨by first|rfl|(simp [errW_none,errW_some] <;> rfl)|(simp [*,errW_none,errW_some] <;> rfl),zhb⟩
 ·rw [if_neg c4] at H
  have c4b0:((l0.length:Int) == (l1.length:Int))=false:=beq_eq_false_iff_ne.mpr c4
  have c4b1:((l0.length:Int) != (l1.length:Int))=true:=bne_iff_ne.mpr c4
  have c4b2:(l0.length == l1.length)=false:=by first|simpa using c4|(simp at c4 ⊢;omega)
  obtain rfl:=Option.some.inj H
  go_enter Try.func68,Try.ntmps68
  go_wp2
  go_ret
  exact ⟨by first|rfl|(simp [errW_none,errW_some] <;> rfl)|(simp [*,errW_none,errW_some] <;> rfl),zhb⟩

/-! ### impl_ZSame: function 29 -/
def impl_ZSame.f (k:Nat) (l0:List (S54)) (l1:List (S54)):Option (Bool):=(slices_EqualFunc_impl_Item_impl_Item_impl_Item_impl_Item__impl_ZSame_1.f k l0 l1).bind fun t346=>(some t346)
theorem impl_ZSame.mono : ∀ a0 a1 k,LeO (impl_ZSame.f k a0 a1) (impl_ZSame.f (k + 1) a0 a1):=by
 intro a0 a1 k
 unfold impl_ZSame.f
 repeat' first
   | (with_reducible exact slices_EqualFunc_impl_Item_impl_Item_impl_Item_impl_Item__impl_ZSame_1.mono _ _ _)
   | (with_reducible exact LeO.refl _)
   | (with_reducible exact LeO.none _)
   | (with_reducible refine LeO.ite ?_ ?_)
   | (with_reducible refine LeO.bind ?_ (fun _=>?_))
   | exact LeO.none _
   | refine LeO.ite ?_ ?_
   | refine LeO.bind ?_ (fun _=>?_)
set_option maxHeartbeats 8000000 in
set_option maxRecDepth 100000 in
theorem impl_ZSame.calls (k:Nat) (A0:Option Addr) (c0:Nat) (l0:List (S54)) (A1:Option Addr) (c1:Nat) (l1:List (S54)) (r:Bool) (w:World) (hr0:Kd.C k54 w A0 l0.length l0) (hc0:l0.length≤c0) (hr1:Kd.C k54 w A1 l1.length l1) (hc1:l1.length≤c1) (h:impl_ZSame.f k l0 l1=some r) :
  Calls Try.prog 29 #[.slice A0 l0.length c0,.slice A1 l1.length c1] w fun e w'=>e=.returned (.bool r)∧Below w.heap.size w w':=by
 have HR0:=Aside0.mk hr0
 have HC0:=Aside0.mk hc0
 clear hr0 hc0
 have HR1:=Aside0.mk hr1
 have HC1:=Aside0.mk hc1
 clear hr1 hc1
 have HB:=Aside0.mk (Below.refl w.heap.size w)
 have H:((slices_EqualFunc_impl_Item_impl_Item_impl_Item_impl_Item__impl_ZSame_1.f k l0 l1).bind fun t346=>(some t346))=some r:=h
 clear h
 replace H:=Option.bind_eq_some_iff.mp H
 obtain ⟨t346,A30,H⟩:=H
 (try dsimp only at H)
 have A3:=Aside0.mk A30
 clear A30
 obtain rfl:=Option.some.inj H
 go_enter Try.func29,Try.ntmps29
 go_wp2_with (first|(go_at_call 68;(with_reducible refine (slices_EqualFunc_impl_Item_impl_Item_impl_Item_impl_Item__impl_ZSame_1.calls k _ _ l0 _ _ l1  t346 _ ?side1 ?side2 ?side3 ?side4 A3.out).mono ?_);(case side1=>exact zC HR0.out);(case side2=>exact HC0.out);(case side3=>exact zC HR1.out);(case side4=>exact HC1.out);rintro e w4 ⟨rfl,hb⟩;have n0_:=Aside0.mk (below_step zhb hb);clear HB;have HB:=n0_;clear n0_;(try clear hb);(try clear hb2);(try clear hk);(try clear hi)))
 go_ret
 exact ⟨by first|rfl|(simp [errW_none,errW_some] <;> rfl)|(simp [*,errW_none,errW_some] <;> rfl),zhb⟩

-- NOT PRINTED: function 71 (slices_BinarySearchFunc_impl_Item_impl_Item_int)

/-! ### impl_ZGet_1: function 72 -/
def impl_ZGet_1.f (k:Nat) (l0_0:List Int) (a0_1:Int) (l1:List Int):Option (Int):=(slices_Compare_int_int.f k l0_0 l1).bind fun t348=>(some t348)
theorem impl_ZGet_1.mono : ∀ a0 a1 a2 k,LeO (impl_ZGet_1.f k a0 a1 a2) (impl_ZGet_1.f (k + 1) a0 a1 a2):=by
 intro a0 a1 a2 k
 unfold impl_ZGet_1.f
 repeat' first
   | (with_reducible exact slices_Compare_int_int.mono _ _ _)
   | (with_reducible exact LeO.refl _)
   | (with_reducible exact LeO.none _)
   | (with_reducible refine LeO.ite ?_ ?_)
   | (with_reducible refine LeO.bind ?_ (fun _=>?_))
   | exact LeO.none _
   | refine LeO.ite ?_ ?_
   | refine LeO.bind ?_ (fun _=>?_)
set_option maxHeartbeats 8000000 in
set_option maxRecDepth 100000 in
theorem impl_ZGet_1.calls (k:Nat) (A0_0:Option Addr) (c0_0:Nat) (l0_0:List Int) (a0_1:Int) (A1:Option Addr) (c1:Nat) (l1:List Int) (r:Int) (w:World) (hr0_0:Kd.C (Kd.int .i64) w A0_0 l0_0.length l0_0) (hc0_0:l0_0.length≤c0_0) (hr1:Kd.C (Kd.int .i64) w A1 l1.length l1) (hc1:l1.length≤c1) (h:impl_ZGet_1.f k l0_0 a0_1 l1=some r) :
  Calls Try.prog 72 #[.agg #[.slice A0_0 l0_0.length c0_0,.int .i64 a0_1],.slice A1 l1.length c1] w fun e w'=>e=.returned (.int .i64 r)∧Below w.heap.size w w':=by
 have hu54:=Try.underlying54
 have HR0_0:=Aside0.mk hr0_0
 have HC0_0:=Aside0.mk hc0_0
 clear hr0_0 hc0_0
 have HR1:=Aside0.mk hr1
 have HC1:=Aside0.mk hc1
 clear hr1 hc1
 have HB:=Aside0.mk (Below.refl w.heap.size w)
 have H:((slices_Compare_int_int.f k l0_0 l1).bind fun t348=>(some t348))=some r:=h
 clear h
 replace H:=Option.bind_eq_some_iff.mp H
 obtain ⟨t348,A30,H⟩:=H
 (try dsimp only at H)
 have A3:=Aside0.mk A30
 clear A30
 obtain rfl:=Option.some.inj H
 go_enter Try.func72,Try.ntmps72
 go_wp2_with (first|((with_reducible refine gate_dst (N:=2) rfl ?_);refine box_event ?hg (N:=2) ?hd (cs:=#[.slice A0_0 l0_0.length c0_0,.int .i64 a0_1]) (t:=54) ?hr ?_;(case hd=>rfl);(case hg=>rfl);(case hr=>first|(go_simp;done)|(go_simp;rfl));intro gb347 hg w4 hbox hb;have n0_:=Aside0.mk (below_step zhb hb);have n1_:=Aside0.mk (hbox);have n2_:=Aside0.mk ((by rw [hg];exact (below_size zhb):w.heap.size≤gb347));have n3_:=Aside0.mk ((by rw [hg];exact (below_size zhb):w.heap.size≤gb347));clear HB;have HB:=n0_;have BK347:=n1_;have GW347:=n2_;have GE347:=n3_;clear n0_ n1_ n2_ n3_;clear hb hbox hg;have hcz5_0:w4.cell? ⟨gb347,0,none⟩=some (.slice A0_0 l0_0.length c0_0):=(blk_cell BK347.out 0).trans rfl;have hcz5_1:w4.cell? ⟨gb347,1,none⟩=some (.int .i64 a0_1):=(blk_cell BK347.out 1).trans rfl;have hfz5_0:=blk_frozen BK347.out 0;have hfz5_1:=blk_frozen BK347.out 1)|((with_reducible refine gate_callee (f:=73) rfl ?_);refine goesL_ (some 8) rfl rfl Try.func73 (by kernel_rfl) rfl #[.slice A0_0 l0_0.length c0_0,.slice A1 l1.length c1] rfl zar ?_;(with_reducible refine (slices_Compare_int_int.calls k _ _ l0_0 _ _ l1 t348 _ ?side1 ?side2 ?side3 ?side4 A3.out).mono ?_);(case side1=>exact zC (Kd.C_below HR0_0.out HB.out));(case side2=>exact HC0_0.out);(case side3=>exact zC (Kd.C_below HR1.out HB.out));(case side4=>exact HC1.out);rintro e w' ⟨rfl,⟨nd,rfl⟩⟩;refine ⟨_,rfl,?_⟩))
 go_ret
 exact ⟨by first|rfl|(simp [errW_none,errW_some] <;> rfl)|(simp [*,errW_none,errW_some] <;> rfl),by repeat (first|(with_reducible first|exact HB.out|apply below_alloc|apply pw_below_drewN|apply below_drew1|refine below_set ?_ GE347.out)|exact HB.out)⟩

end Go.Proofs.Ytaifnkapbffmaaa.PFnZTwice
