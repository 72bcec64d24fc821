-- Written by wip/tools/pp.py, a program of this session over the kit's printer: not the kit's own print
import Derived.Test.YtaifnkapbffmaaaPFnZx0
import Derived.Test.YtaifnkapbffmaaaPFnZx3
import Derived.Test.YtaifnkapbffmaaaPFnZx4
import Derived.Test.YtaifnkapbffmaaaPFnZx11
namespace Go.Proofs.Ytaifnkapbffmaaa.PFnZ
open Go.RowKit Go.Proofs.YtaifnkapbffmaaaW.PrintWords Go.Proofs.YtaifnkapbffmaaaW.PrintLast Go.Proofs.YtaifnkapbffmaaaW.PrintMore
attribute [local go_sem] max2_int min2_int max_two min_two max_three min_three max_four min_four   -- for this text's walks alone
set_option linter.unusedVariables false
set_option linter.unusedSimpArgs false

/-! ### spec_l2Bent: function 67 -/
def spec_l2Bent.l0:Nat→List (S54)→Int→List Int→Int→Option ((List (S54)) × Int)
 | 0,_,_,_,_=>none
 | k + 1,x3,x5,x1000,x1001=>if x5 < 101 then ((spec_l2Put.f k x3 (([wrap64 (10 + x5)]:List Int)) 1).bind fun t353=>(spec_l2Bent.l0 k t353 (wrap64 (x5 + 1)) x1000 x1001)) else (some (x3,x1001))
def spec_l2Bent.f (k:Nat) (s0_0:List Int) (s0_1:Int):Option ((List (S54)) × Int):=(spec_l12Rd_pick.f s0_0 s0_1 3).bind fun bt326=>((spec_l2Z.f k s0_0 bt326.2 (wrap64 (1 + bt326.1)) 6).bind fun bt328=>(if (bt328.1.length:Int)=0 then (some (bt328.1,bt328.2)) else ((spec_l12Rd_pick.f s0_0 bt328.2 (bt328.1.length:Int)).bind fun bt332=>((spec_l12Rd_pick.f s0_0 bt332.2 40).bind fun bt334=>(if bt334.1=0 then ((spec_l12Rd_num.f s0_0 bt334.2 (([0,10000,10001,(-10000)]:List Int))).bind fun bt339=>(if 0≤bt332.1 then (if bt332.1 < (bt328.1.length:Int) then (some ((bt328.1.set (bt332.1:Int).toNat (⟨(rd_T54 bt328.1 bt332.1).f0,bt339.1⟩:S54)),bt339.2)) else (none)) else (none))) else (if bt334.1=1 then (if 0≤bt332.1 then (if bt332.1 < (bt328.1.length:Int) then (some ((bt328.1.set (bt332.1:Int).toNat (⟨(([]:List Int)),(rd_T54 bt328.1 bt332.1).f1⟩:S54)),bt334.2)) else (none)) else (none)) else (if bt334.1=2 then (if 0 < (bt328.1.length:Int) then (if bt328.1.length < 4398046511104 then (some ((bt328.1 ++ [(⟨(rd_T54 bt328.1 0).f0,(rd_T54 bt328.1 0).f1⟩:S54)]),bt334.2)) else (none)) else (none)) else (if bt334.1=3 then (spec_l2Bent.l0 k bt328.1 0 s0_0 bt334.2) else (some (bt328.1,bt334.2))))))))))
theorem spec_l2Bent.mono_l : ∀ k,(∀ y0 y1 y2 y3,LeO (spec_l2Bent.l0 k y0 y1 y2 y3) (spec_l2Bent.l0 (k + 1) y0 y1 y2 y3))
 | 0=>fun _ _ _ _ r h=>by simp [spec_l2Bent.l0] at h
 | k + 1=>by
  have ih0:=spec_l2Bent.mono_l k
  ·intro y0 y1 y2 y3
   unfold spec_l2Bent.l0
   repeat' first
   | (with_reducible exact ih0 _ _ _ _)
   | (with_reducible exact spec_l2Put.mono _ _ _ _)
   | (with_reducible exact spec_l2Z.mono _ _ _ _ _)
   | (with_reducible exact LeO.refl _)
   | (with_reducible exact LeO.none _)
   | (with_reducible refine LeO.ite ?_ ?_)
   | (with_reducible refine LeO.bind ?_ (fun _=>?_))
   | exact LeO.none _
   | refine LeO.ite ?_ ?_
   | refine LeO.bind ?_ (fun _=>?_)
theorem spec_l2Bent.mono : ∀ a0 a1 k,LeO (spec_l2Bent.f k a0 a1) (spec_l2Bent.f (k + 1) a0 a1):=by
 intro a0 a1 k
 have ih0:=spec_l2Bent.mono_l k
 unfold spec_l2Bent.f
 repeat' first
   | (with_reducible exact ih0 _ _ _ _)
   | (with_reducible exact spec_l2Put.mono _ _ _ _)
   | (with_reducible exact spec_l2Z.mono _ _ _ _ _)
   | (with_reducible exact LeO.refl _)
   | (with_reducible exact LeO.none _)
   | (with_reducible refine LeO.ite ?_ ?_)
   | (with_reducible refine LeO.bind ?_ (fun _=>?_))
   | exact LeO.none _
   | refine LeO.ite ?_ ?_
   | refine LeO.bind ?_ (fun _=>?_)
set_option maxHeartbeats 8000000 in
set_option maxRecDepth 100000 in
theorem spec_l2Bent.calls (k:Nat) (g:Nat) (s0_0:List Int) (s0_1:Int) (r1:List (S54)) (r2:Int) (w0 w:World) (hI:IsS131 w0 w g s0_0 s0_1) (hB:Below w0.heap.size w0 w) (h:spec_l2Bent.f k s0_0 s0_1=some (r1,r2)) :
  Calls Try.prog 67 #[.pointer (some ⟨g,0,none⟩)] w fun e w'=>∃ v0_:Value,e=.returned (v0_)∧Kd.N k54 54 w' w.heap.size (fun k_=>(w.heap.size≤k_)) v0_ r1∧IsS131 w0 w' g s0_0 r2∧Below w0.heap.size w0 w'∧KeepBut w w' g none:=by
 have hu54:=Try.underlying54
 have HI0:=Aside0.mk hI
 have HK:=Aside0.mk (KeepBut.refl w g none)
 have HL:=Aside0.mk hB.size
 clear hI
 have HW0:=Aside0.mk hB.size
 have HB:=Aside0.mk hB
 clear hB
 have H:((spec_l12Rd_pick.f s0_0 s0_1 3).bind fun bt326=>((spec_l2Z.f k s0_0 bt326.2 (wrap64 (1 + bt326.1)) 6).bind fun bt328=>(if (bt328.1.length:Int)=0 then (some (bt328.1,bt328.2)) else ((spec_l12Rd_pick.f s0_0 bt328.2 (bt328.1.length:Int)).bind fun bt332=>((spec_l12Rd_pick.f s0_0 bt332.2 40).bind fun bt334=>(if bt334.1=0 then ((spec_l12Rd_num.f s0_0 bt334.2 (([0,10000,10001,(-10000)]:List Int))).bind fun bt339=>(if 0≤bt332.1 then (if bt332.1 < (bt328.1.length:Int) then (some ((bt328.1.set (bt332.1:Int).toNat (⟨(rd_T54 bt328.1 bt332.1).f0,bt339.1⟩:S54)),bt339.2)) else (none)) else (none))) else (if bt334.1=1 then (if 0≤bt332.1 then (if bt332.1 < (bt328.1.length:Int) then (some ((bt328.1.set (bt332.1:Int).toNat (⟨(([]:List Int)),(rd_T54 bt328.1 bt332.1).f1⟩:S54)),bt334.2)) else (none)) else (none)) else (if bt334.1=2 then (if 0 < (bt328.1.length:Int) then (if bt328.1.length < 4398046511104 then (some ((bt328.1 ++ [(⟨(rd_T54 bt328.1 0).f0,(rd_T54 bt328.1 0).f1⟩:S54)]),bt334.2)) else (none)) else (none)) else (if bt334.1=3 then (spec_l2Bent.l0 k bt328.1 0 s0_0 bt334.2) else (some (bt328.1,bt334.2)))))))))))=some (r1,r2):=h
 clear h
 replace H:=Option.bind_eq_some_iff.mp H
 obtain ⟨⟨t326,t327⟩,A20,H⟩:=H
 (try dsimp only at H)
 have A2:=Aside0.mk A20
 clear A20
 replace H:=Option.bind_eq_some_iff.mp H
 obtain ⟨⟨t328,t331⟩,A30,H⟩:=H
 (try dsimp only at H)
 have A3:=Aside0.mk A30
 clear A30
 by_cases c4:(t328.length:Int)=0
 ·rw [if_pos c4] at H
  have c4b0:((t328.length:Int) == 0)=true:=beq_iff_eq.mpr c4
  have c4b1:((t328.length:Int) != 0)=false:=bne_eq_false_iff_eq.mpr c4
  clear c4
  simp only [Option.some.injEq,Prod.mk.injEq] at H
  obtain ⟨rfl,rfl⟩:=H
  go_enter Try.func67,Try.ntmps67
  go_wp2_with (first|((with_reducible refine gate_callee (f:=83) rfl ?_);refine goesL_ (some 8) rfl rfl Try.func83 (by kernel_rfl) rfl #[.pointer (some ⟨g,0,none⟩),.int .i64 3] rfl zar ?_;(with_reducible refine (spec_l12Rd_pick.calls g s0_0 s0_1 3 t326 t327 w0 _ ?side1 ?side2 A2.out).mono ?_);(case side1=>exact zi131);(case side2=>exact zg131);rintro e w5 ⟨rfl,hi,hb,hk⟩;refine ⟨_,rfl,?_⟩;have n0_:=Aside0.mk (KeepBut.trans zhk hk (.inl rfl));have n1_:=Aside0.mk (hb);have n2_:=Aside0.mk (hi);clear HK;clear HB;clear HI0;have HK:=n0_;have HB:=n1_;have HI0:=n2_;clear n0_ n1_ n2_;(try clear hb);(try clear hb2);(try clear hk);(try clear hi))|((with_reducible refine gate_callee (f:=114) rfl ?_);refine goesL_ (some 10) rfl rfl Try.func114 (by kernel_rfl) rfl #[.pointer (some ⟨g,0,none⟩),.int .i64 (wrap64 (1 + t326)),.int .i64 6] rfl zar ?_;(with_reducible refine (spec_l2Z.calls k g s0_0 t327 (wrap64 (1 + t326)) 6 t328 t331 w0 _ ?side1 ?side2 A3.out).mono ?_);(case side1=>exact zi131);(case side2=>exact zg131);rintro e w6 ⟨v329,rfl,ho0,hi,hb,hk⟩;refine ⟨_,rfl,?_⟩;have n0_:=Aside0.mk (Kd.N_lower (Kd.N_mono (ok':=fun k_=>(w.heap.size≤k_)∧k_≠g) ho0 (fun k_ hk_=>⟨(Nat.le_trans (keep_size (w:=w) (g:=g) (row:=none) zhk) hk_),(IsS131.fresh zi131 k_ hk_)⟩)) (keep_size (w:=w) (g:=g) (row:=none) zhk));have n1_:=Aside0.mk (KeepBut.trans zhk hk (.inl rfl));have n2_:=Aside0.mk (hb);have n3_:=Aside0.mk (hi);clear HK;clear HB;clear HI0;have HO330:=n0_;have HK:=n1_;have HB:=n2_;have HI0:=n3_;clear n0_ n1_ n2_ n3_;(try clear hb);(try clear hb2);(try clear hk);(try clear hi);(try clear ho0);obtain ⟨Ao7,co7,eo7⟩:=Kd.N_slice HO330.out;subst eo7))
  go_ret
  exact ⟨_,by first|rfl|(simp [errW_none,errW_some] <;> rfl)|(simp [*,errW_none,errW_some] <;> rfl),by (with_reducible repeat (first|apply Kd.N_alloc|apply Kd.N_drewN|apply Kd.N_drew));exact Kd.N_mono HO330.out (fun _ hk=>hk.1),zi131,zg131,zhk⟩
 ·rw [if_neg c4] at H
  have c4b0:((t328.length:Int) == 0)=false:=beq_eq_false_iff_ne.mpr c4
  have c4b1:((t328.length:Int) != 0)=true:=bne_iff_ne.mpr c4
  have c4b2 : ¬ (t328 = []):=fun h_=>c4 (by rw [h_];rfl)
  replace H:=Option.bind_eq_some_iff.mp H
  obtain ⟨⟨t332,t333⟩,A80,H⟩:=H
  (try dsimp only at H)
  have A8:=Aside0.mk A80
  clear A80
  replace H:=Option.bind_eq_some_iff.mp H
  obtain ⟨⟨t334,t335⟩,A90,H⟩:=H
  (try dsimp only at H)
  have A9:=Aside0.mk A90
  clear A90
  by_cases c10:t334=0
  ·rw [if_pos c10] at H
   have c10b0:(t334 == 0)=true:=beq_iff_eq.mpr c10
   have c10b1:(t334 != 0)=false:=bne_eq_false_iff_eq.mpr c10
   clear c10
   obtain ⟨y336,hy336⟩ : ∃ y_:List Int,y_=(([0,10000,10001,(-10000)]:List Int)):=⟨_,rfl⟩
   replace H:((spec_l12Rd_num.f s0_0 t335 y336).bind fun bt339=>(if 0≤t332 then (if t332 < (t328.length:Int) then (some ((t328.set (t332:Int).toNat (⟨(rd_T54 t328 t332).f0,bt339.1⟩:S54)),bt339.2)) else (none)) else (none)))=some (r1,r2):=by first|(rw [hy336];with_reducible exact H)|(have H2_:=(Option.bind_some _ _).symm.trans H;rw [hy336];with_reducible exact H2_)|(have H2_:=(Option.bind_some _ _).symm.trans H;with_reducible exact H2_)|with_reducible exact H|(rw [hy336];exact H)|exact H
   have Ny336:=Aside0.mk hy336
   clear hy336
   replace H:=Option.bind_eq_some_iff.mp H
   obtain ⟨⟨t339,t340⟩,A110,H⟩:=H
   (try dsimp only at H)
   have A11:=Aside0.mk A110
   clear A110
   by_cases c12:0≤t332
   ·rw [if_pos c12] at H
    have c12b0:decide (0≤t332)=true:=decide_eq_true c12
    clear c12
    by_cases c13:t332 < (t328.length:Int)
    ·rw [if_pos c13] at H
     have c13b0:decide (t332 < (t328.length:Int))=true:=decide_eq_true c13
     clear c13
     obtain ⟨y341,hy341⟩ : ∃ y_:List (S54),y_=(t328.set (t332:Int).toNat (⟨(rd_T54 t328 t332).f0,t339⟩:S54)):=⟨_,rfl⟩
     replace H:(some (y341,t340))=some (r1,r2):=by first|(rw [hy341];with_reducible exact H)|(have H2_:=(Option.bind_some _ _).symm.trans H;rw [hy341];with_reducible exact H2_)|(have H2_:=(Option.bind_some _ _).symm.trans H;with_reducible exact H2_)|with_reducible exact H|(rw [hy341];exact H)|exact H
     have Ny341:=Aside0.mk hy341
     clear hy341
     simp only [Option.some.injEq,Prod.mk.injEq] at H
     obtain ⟨rfl,rfl⟩:=H
     go_enter Try.func67,Try.ntmps67
     go_wp2_with (first|((with_reducible refine gate_callee (f:=83) rfl ?_);refine goesL_ (some 8) rfl rfl Try.func83 (by kernel_rfl) rfl #[.pointer (some ⟨g,0,none⟩),.int .i64 3] rfl zar ?_;(with_reducible refine (spec_l12Rd_pick.calls g s0_0 s0_1 3 t326 t327 w0 _ ?side1 ?side2 A2.out).mono ?_);(case side1=>exact zi131);(case side2=>exact zg131);rintro e w15 ⟨rfl,hi,hb,hk⟩;refine ⟨_,rfl,?_⟩;have n0_:=Aside0.mk (KeepBut.trans zhk hk (.inl rfl));have n1_:=Aside0.mk (hb);have n2_:=Aside0.mk (hi);clear HK;clear HB;clear HI0;have HK:=n0_;have HB:=n1_;have HI0:=n2_;clear n0_ n1_ n2_;(try clear hb);(try clear hb2);(try clear hk);(try clear hi))|((with_reducible refine gate_callee (f:=114) rfl ?_);refine goesL_ (some 10) rfl rfl Try.func114 (by kernel_rfl) rfl #[.pointer (some ⟨g,0,none⟩),.int .i64 (wrap64 (1 + t326)),.int .i64 6] rfl zar ?_;(with_reducible refine (spec_l2Z.calls k g s0_0 t327 (wrap64 (1 + t326)) 6 t328 t331 w0 _ ?side1 ?side2 A3.out).mono ?_);(case side1=>exact zi131);(case side2=>exact zg131);rintro e w16 ⟨v329,rfl,ho0,hi,hb,hk⟩;refine ⟨_,rfl,?_⟩;have n0_:=Aside0.mk (Kd.N_lower (Kd.N_mono (ok':=fun k_=>(w.heap.size≤k_)∧k_≠g) ho0 (fun k_ hk_=>⟨(Nat.le_trans (keep_size (w:=w) (g:=g) (row:=none) zhk) hk_),(IsS131.fresh zi131 k_ hk_)⟩)) (keep_size (w:=w) (g:=g) (row:=none) zhk));have n1_:=Aside0.mk (KeepBut.trans zhk hk (.inl rfl));have n2_:=Aside0.mk (hb);have n3_:=Aside0.mk (hi);clear HK;clear HB;clear HI0;have HO330:=n0_;have HK:=n1_;have HB:=n2_;have HI0:=n3_;clear n0_ n1_ n2_ n3_;(try clear hb);(try clear hb2);(try clear hk);(try clear hi);(try clear ho0);obtain ⟨Ao17,co17,eo17⟩:=Kd.N_slice HO330.out;subst eo17)|((with_reducible refine gate_callee (f:=83) rfl ?_);refine goesL_ (some 18) rfl rfl Try.func83 (by kernel_rfl) rfl #[.pointer (some ⟨g,0,none⟩),.int .i64 (t328.length:Int)] rfl zar ?_;(with_reducible refine (spec_l12Rd_pick.calls g s0_0 t331 (t328.length:Int) t332 t333 w0 _ ?side1 ?side2 A8.out).mono ?_);(case side1=>exact zi131);(case side2=>exact zg131);rintro e w18 ⟨rfl,hi,hb,hk⟩;refine ⟨_,rfl,?_⟩;have n0_:=Aside0.mk (Kd.N_mono (Kd.N_keep (Kd.N_mono (ok:=fun k_=>(((w.heap.size≤k_))∧k_≠g)) (zN HO330.out) (fun k_ hk_=>(⟨hk_,hk_.2⟩:_∧k_≠g))) hk (fun _ h=>h.2)) (fun _ h=>h.1));have n1_:=Aside0.mk (KeepBut.trans zhk hk (.inl rfl));have n2_:=Aside0.mk (hb);have n3_:=Aside0.mk (hi);clear HO330;clear HK;clear HB;clear HI0;have HO330:=n0_;have HK:=n1_;have HB:=n2_;have HI0:=n3_;clear n0_ n1_ n2_ n3_;(try clear hb);(try clear hb2);(try clear hk);(try clear hi))|((with_reducible refine gate_callee (f:=83) rfl ?_);refine goesL_ (some 20) rfl rfl Try.func83 (by kernel_rfl) rfl #[.pointer (some ⟨g,0,none⟩),.int .i64 40] rfl zar ?_;(with_reducible refine (spec_l12Rd_pick.calls g s0_0 t333 40 t334 t335 w0 _ ?side1 ?side2 A9.out).mono ?_);(case side1=>exact zi131);(case side2=>exact zg131);rintro e w19 ⟨rfl,hi,hb,hk⟩;refine ⟨_,rfl,?_⟩;have n0_:=Aside0.mk (Kd.N_mono (Kd.N_keep (Kd.N_mono (ok:=fun k_=>(((w.heap.size≤k_))∧k_≠g)) (zN HO330.out) (fun k_ hk_=>(⟨hk_,hk_.2⟩:_∧k_≠g))) hk (fun _ h=>h.2)) (fun _ h=>h.1));have n1_:=Aside0.mk (KeepBut.trans zhk hk (.inl rfl));have n2_:=Aside0.mk (hb);have n3_:=Aside0.mk (hi);clear HO330;clear HK;clear HB;clear HI0;have HO330:=n0_;have HK:=n1_;have HB:=n2_;have HI0:=n3_;clear n0_ n1_ n2_ n3_;(try clear hb);(try clear hb2);(try clear hk);(try clear hi))|((with_reducible refine gate_dst (N:=26) rfl ?_);refine Kd.R_lit (Kd.int .i64) _ 3 ?hg (N:=26) ?hd (xs:=([0,10000,10001,(-10000)]:List Int)) (inner:=[.int .i64 0,.int .i64 10000,.int .i64 10001,.int .i64 (-10000)]) (ok:=fun _=>True) (okp:=fun _=>True) ?hr ?hp (fun _ hk=>hk) trivial (Below.refl _ _) (Nat.le_refl _) (by simp) ?_;(case hd=>rfl);(case hg=>rfl);(case hr=>first|(go_simp;done)|(go_simp;rfl));(case hp=>exact (Reps.one (show Kd.M (Kd.int .i64) _ _ _ 0 [.int .i64 0] from rfl) (Reps.one (show Kd.M (Kd.int .i64) _ _ _ 10000 [.int .i64 10000] from rfl) (Reps.one (show Kd.M (Kd.int .i64) _ _ _ 10001 [.int .i64 10001] from rfl) (Reps.one (show Kd.M (Kd.int .i64) _ _ _ (-10000) [.int .i64 (-10000)] from rfl) (Reps.none _ _))))));intro v337 w20 ho21 hb hg_ hnew_;clear hg_ hnew_;(first|rw [← Ny336.out] at ho21|(simp only [Int.reduceToNat] at ho21;rw [← Ny336.out] at ho21));have n0_:=Aside0.mk (Kd.N_elder' (zN HO330.out) (Kd.R_base ho21) hb);have n1_:=Aside0.mk (Kd.R_lower (Kd.R_newM (M:=fun k_=>(w.heap.size≤k_)) ho21 (keep_size (w:=w) (g:=g) (row:=none) zhk) (fun k_ h_=>h_)) (keep_size (w:=w) (g:=g) (row:=none) zhk));have n2_:=Aside0.mk (IsS131.below zi131 hb);have n3_:=Aside0.mk (KeepBut.trans zhk (KeepBut.of_below hb g none) (.inl rfl));have n4_:=Aside0.mk (below_step zg131 hb);clear HO330;clear HI0;clear HK;clear HB;have HO330:=n0_;have HO338:=n1_;have HI0:=n2_;have HK:=n3_;have HB:=n4_;clear n0_ n1_ n2_ n3_ n4_;clear hb ho21;obtain ⟨Ao22,co22,eo22⟩:=Kd.R_slice HO338.out;subst eo22)|((with_reducible refine gate_callee (f:=62) rfl ?_);refine goesL_ (some 27) rfl rfl Try.func62 (by kernel_rfl) rfl #[.pointer (some ⟨g,0,none⟩),.slice Ao22 y336.length co22] rfl zar ?_;(with_reducible refine (spec_l12Rd_num.calls g s0_0 t335 _ _ y336 t339 t340 w0 _ ?side1 ?side2 ?side3 ?side4 ?side5 A11.out).mono ?_);(case side1=>exact zi131);(case side2=>exact zg131);(case side3=>repeat (first|exact (Kd.R_reads' HO338.out).2.2|(with_reducible refine Kd.C_alloc ?_ _)|(with_reducible refine Kd.C_drewN ?_ _)|(with_reducible refine Kd.C_drew ?_)));(case side4=>exact (Kd.R_reads' HO338.out).2.1);(case side5=>exact far_slice (IsS131.own_ne HI0.out HO338.out (by decide)));rintro e w23 ⟨rfl,hi,hb,hk⟩;refine ⟨_,rfl,?_⟩;have n0_:=Aside0.mk (Kd.N_mono (Kd.N_keep (Kd.N_mono (ok:=fun k_=>((((w.heap.size≤k_))∧k_≠g)∧some k_≠(.slice Ao22 y336.length co22:Value).ownBlock)) (zN HO330.out) (fun k_ hk_=>(⟨hk_,hk_.1.2⟩:_∧k_≠g))) hk (fun _ h=>h.2)) (fun _ h=>h.1));have n1_:=Aside0.mk (Kd.R_mono (Kd.R_keep (IsS131.apart (show IsS131 w0 _ g s0_0 t335 from zi131) (by (with_reducible repeat (first|apply Kd.R_alloc|apply Kd.R_drewN|apply Kd.R_drew));exact HO338.out) (by decide)) hk (fun _ h=>h.2)) (fun _ h=>h.1));have n2_:=Aside0.mk (KeepBut.trans zhk hk (.inl rfl));have n3_:=Aside0.mk (hb);have n4_:=Aside0.mk (hi);clear HO330;clear HO338;clear HK;clear HB;clear HI0;have HO330:=n0_;have HO338:=n1_;have HK:=n2_;have HB:=n3_;have HI0:=n4_;clear n0_ n1_ n2_ n3_ n4_;(try clear hb);(try clear hb2);(try clear hk);(try clear hi);have p14:0≤(t332:Int):=zod;have q14:(t332:Int) < ((t328.length:Int):Int):=zod;obtain ⟨go14,co14,eo14,gb14,gl14,cl14,HG14⟩:=Kd.N_form HO330.out (by omega);(first|cases eo14|(injection eo14 with ea_ en_ ec_;(first|subst ea_|(injection ea_ with ea_;subst ea_));subst ec_;clear en_));have GB14:=Aside0.mk gb14;have GG14:=Aside0.mk HG14;clear gb14 gl14 HG14;obtain ⟨ce14,hcl14,hM14,hcc14,hfr14⟩:=Kd.N_elem HO330.out z54 (t332:Int) p14 q14;obtain ⟨ua14_0,uc14_0,rfl,ul14_0,ge14_0⟩:=k54_openF hM14;have hx14_0:w23.cell? ⟨go14,(t332:Int).toNat * 2,none⟩=some (.slice ua14_0 ((rd_T54 t328 t332).f0).length uc14_0):=hcc14 0 _ rfl;have hx14_1:w23.cell? ⟨go14,(t332:Int).toNat * 2 + 1,none⟩=some (.int .i64 ((rd_T54 t328 t332).f1)):=hcc14 1 _ rfl;have hf14_0:w23.frozen? ⟨go14,(t332:Int).toNat * 2,none⟩=false:=hfr14 0;have hf14_1:w23.frozen? ⟨go14,(t332:Int).toNat * 2 + 1,none⟩=false:=hfr14 1;clear hcl14 hcc14 hfr14 hM14;replace p14:=eq_true p14;replace q14:=eq_true q14;have n_:=Aside0.mk (Kd.N_mono (ok':=(fun k_=>(w.heap.size≤k_)∧some k_≠(.slice Ao22 y336.length co22:Value).ownBlock)) HO330.out (fun k_ hk=>⟨hk.1.1,hk.2⟩));clear HO330;have HO330:=n_;clear n_;have HX24:=Aside0.mk (show Kd.N k54 54 w23 w.heap.size (fun k_=>(w.heap.size≤k_)∧some k_≠(.slice Ao22 y336.length co22:Value).ownBlock) (.slice (some ⟨go14,0,none⟩) t328.length co17) t328 from (zN HO330.out));obtain ⟨ce24,hcl24,hM24,hcc24,hfr24⟩:=Kd.N_elem HX24.out z54 (t332:Int) (zod) (by have h_:(t332:Int) < ((t328.length:Int):Int):=zod;first|exact h_|(have e_:=(Kd.N_reads' HO330.out).1;omega)|simpa using h_);obtain ⟨ua24_0,uc24_0,rfl,ul24_0,ge24_0⟩:=k54_openF hM24;have HP24:=Kd.N_seg HX24.out (t332:Int) (zod) (by have h_:(t332:Int) < ((t328.length:Int):Int):=zod;first|exact h_|(have e_:=(Kd.N_reads' HO330.out).1;omega)|simpa using h_) (seg:=[.int .i64 t339]) (j:=1) hcl24 hcc24 (show 2≤2 from by decide) (x':=(⟨(rd_T54 t328 t332).f0,t339⟩:S54)) (k54_mkF _ _ (⟨(rd_T54 t328 t332).f0,t339⟩:S54) ul24_0 ge24_0) (fun _ hk=>hk);have hx24_1:=hcc24 1 _ rfl;(try simp only [show (k54).sz=2 from rfl,Nat.mul_one,Nat.add_zero] at hx24_1);have hf24_1:=hfr24 1;(try simp only [show (k54).sz=2 from rfl,Nat.mul_one,Nat.add_zero] at hf24_1);clear hcl24 hcc24 hfr24 hM24)|((with_reducible refine gate_store (t:=3) (p:=29) rfl ?_);refine store_event (t:=3) (p:=29) (v:=?vo_w25) (w1:=(w23.setCell ⟨go14,(t332:Int).toNat * 2 + 1,none⟩ (.int .i64 t339))) ?hg ?ho ?hn ?hr ?_;(case ho=>rfl);(case hg=>rfl);(case hn=>rfl);(case hr=>first|(go_simp;done)|(go_simp;rfl));intro w25 hw;have hg:w23.grownBy w25 (some go14):=(by rw [hw];exact HP24.2);have hp_:Kd.N k54 54 w25 w.heap.size (fun k_=>(w.heap.size≤k_)∧some k_≠(.slice Ao22 y336.length co22:Value).ownBlock) (.slice (some ⟨go14,0,none⟩) t328.length co17) y341:=(by rw [hw,Ny341.out];exact HP24.1);clear HP24;have n0_:=Aside0.mk (IsS131.grown zi131 hg (IsS131.own_neN HI0.out HO330.out (by decide)));have n1_:=Aside0.mk (hp_);have n2_:=Aside0.mk (Kd.R_over' (v:=(.slice (some ⟨go14,0,none⟩) t328.length co17)) (by (with_reducible repeat (first|apply Kd.R_alloc|apply Kd.R_drewN|apply Kd.R_drew));exact HO338.out) (Kd.N_typed HO330.out) (by decide) hg);have n3_:=Aside0.mk ((by rw [hw];exact below_set (HB.out) (Nat.le_trans HL.out GB14.out):Below w0.heap.size w0 w25));have n4_:=Aside0.mk (KeepBut.trans zhk (KeepBut.of_grown hg g) (Kd.N_base2 HO330.out));clear HI0;clear HO330;clear HO338;clear HB;clear HK;have HI0:=n0_;have HO330:=n1_;have HO338:=n2_;have HB:=n3_;have HK:=n4_;clear n0_ n1_ n2_ n3_ n4_;clear hg hw hp_))
     go_ret
     exact ⟨_,by first|rfl|(simp [errW_none,errW_some] <;> rfl)|(simp [*,errW_none,errW_some] <;> rfl),by (with_reducible repeat (first|apply Kd.N_alloc|apply Kd.N_drewN|apply Kd.N_drew));exact Kd.N_mono HO330.out (fun _ hk=>hk.1),zi131,zg131,zhk⟩
    ·rw [if_neg c13] at H
     exact absurd H (by simp)
   ·rw [if_neg c12] at H
    exact absurd H (by simp)
  ·rw [if_neg c10] at H
   have c10b0:(t334 == 0)=false:=beq_eq_false_iff_ne.mpr c10
   have c10b1:(t334 != 0)=true:=bne_iff_ne.mpr c10
   by_cases c26:t334=1
   ·rw [if_pos c26] at H
    have c26b0:(t334 == 1)=true:=beq_iff_eq.mpr c26
    have c26b1:(t334 != 1)=false:=bne_eq_false_iff_eq.mpr c26
    clear c26
    obtain ⟨y342,hy342⟩ : ∃ y_:List Int,y_=(([]:List Int)):=⟨_,rfl⟩
    replace H:(if 0≤t332 then (if t332 < (t328.length:Int) then (some ((t328.set (t332:Int).toNat (⟨y342,(rd_T54 t328 t332).f1⟩:S54)),t335)) else (none)) else (none))=some (r1,r2):=by first|(rw [hy342];with_reducible exact H)|(have H2_:=(Option.bind_some _ _).symm.trans H;rw [hy342];with_reducible exact H2_)|(have H2_:=(Option.bind_some _ _).symm.trans H;with_reducible exact H2_)|with_reducible exact H|(rw [hy342];exact H)|exact H
    have Ny342:=Aside0.mk hy342
    clear hy342
    by_cases c27:0≤t332
    ·rw [if_pos c27] at H
     have c27b0:decide (0≤t332)=true:=decide_eq_true c27
     clear c27
     by_cases c28:t332 < (t328.length:Int)
     ·rw [if_pos c28] at H
      have c28b0:decide (t332 < (t328.length:Int))=true:=decide_eq_true c28
      clear c28
      obtain ⟨y345,hy345⟩ : ∃ y_:List (S54),y_=(t328.set (t332:Int).toNat (⟨y342,(rd_T54 t328 t332).f1⟩:S54)):=⟨_,rfl⟩
      replace H:(some (y345,t335))=some (r1,r2):=by first|(rw [hy345];with_reducible exact H)|(have H2_:=(Option.bind_some _ _).symm.trans H;rw [hy345];with_reducible exact H2_)|(have H2_:=(Option.bind_some _ _).symm.trans H;with_reducible exact H2_)|with_reducible exact H|(rw [hy345];exact H)|exact H
      have Ny345:=Aside0.mk hy345
      clear hy345
      simp only [Option.some.injEq,Prod.mk.injEq] at H
      obtain ⟨rfl,rfl⟩:=H
      go_enter Try.func67,Try.ntmps67
      go_wp2_with (first|((with_reducible refine gate_callee (f:=83) rfl ?_);refine goesL_ (some 8) rfl rfl Try.func83 (by kernel_rfl) rfl #[.pointer (some ⟨g,0,none⟩),.int .i64 3] rfl zar ?_;(with_reducible refine (spec_l12Rd_pick.calls g s0_0 s0_1 3 t326 t327 w0 _ ?side1 ?side2 A2.out).mono ?_);(case side1=>exact zi131);(case side2=>exact zg131);rintro e w30 ⟨rfl,hi,hb,hk⟩;refine ⟨_,rfl,?_⟩;have n0_:=Aside0.mk (KeepBut.trans zhk hk (.inl rfl));have n1_:=Aside0.mk (hb);have n2_:=Aside0.mk (hi);clear HK;clear HB;clear HI0;have HK:=n0_;have HB:=n1_;have HI0:=n2_;clear n0_ n1_ n2_;(try clear hb);(try clear hb2);(try clear hk);(try clear hi))|((with_reducible refine gate_callee (f:=114) rfl ?_);refine goesL_ (some 10) rfl rfl Try.func114 (by kernel_rfl) rfl #[.pointer (some ⟨g,0,none⟩),.int .i64 (wrap64 (1 + t326)),.int .i64 6] rfl zar ?_;(with_reducible refine (spec_l2Z.calls k g s0_0 t327 (wrap64 (1 + t326)) 6 t328 t331 w0 _ ?side1 ?side2 A3.out).mono ?_);(case side1=>exact zi131);(case side2=>exact zg131);rintro e w31 ⟨v329,rfl,ho0,hi,hb,hk⟩;refine ⟨_,rfl,?_⟩;have n0_:=Aside0.mk (Kd.N_lower (Kd.N_mono (ok':=fun k_=>(w.heap.size≤k_)∧k_≠g) ho0 (fun k_ hk_=>⟨(Nat.le_trans (keep_size (w:=w) (g:=g) (row:=none) zhk) hk_),(IsS131.fresh zi131 k_ hk_)⟩)) (keep_size (w:=w) (g:=g) (row:=none) zhk));have n1_:=Aside0.mk (KeepBut.trans zhk hk (.inl rfl));have n2_:=Aside0.mk (hb);have n3_:=Aside0.mk (hi);clear HK;clear HB;clear HI0;have HO330:=n0_;have HK:=n1_;have HB:=n2_;have HI0:=n3_;clear n0_ n1_ n2_ n3_;(try clear hb);(try clear hb2);(try clear hk);(try clear hi);(try clear ho0);obtain ⟨Ao32,co32,eo32⟩:=Kd.N_slice HO330.out;subst eo32)|((with_reducible refine gate_callee (f:=83) rfl ?_);refine goesL_ (some 18) rfl rfl Try.func83 (by kernel_rfl) rfl #[.pointer (some ⟨g,0,none⟩),.int .i64 (t328.length:Int)] rfl zar ?_;(with_reducible refine (spec_l12Rd_pick.calls g s0_0 t331 (t328.length:Int) t332 t333 w0 _ ?side1 ?side2 A8.out).mono ?_);(case side1=>exact zi131);(case side2=>exact zg131);rintro e w33 ⟨rfl,hi,hb,hk⟩;refine ⟨_,rfl,?_⟩;have n0_:=Aside0.mk (Kd.N_mono (Kd.N_keep (Kd.N_mono (ok:=fun k_=>(((w.heap.size≤k_))∧k_≠g)) (zN HO330.out) (fun k_ hk_=>(⟨hk_,hk_.2⟩:_∧k_≠g))) hk (fun _ h=>h.2)) (fun _ h=>h.1));have n1_:=Aside0.mk (KeepBut.trans zhk hk (.inl rfl));have n2_:=Aside0.mk (hb);have n3_:=Aside0.mk (hi);clear HO330;clear HK;clear HB;clear HI0;have HO330:=n0_;have HK:=n1_;have HB:=n2_;have HI0:=n3_;clear n0_ n1_ n2_ n3_;(try clear hb);(try clear hb2);(try clear hk);(try clear hi))|((with_reducible refine gate_callee (f:=83) rfl ?_);refine goesL_ (some 20) rfl rfl Try.func83 (by kernel_rfl) rfl #[.pointer (some ⟨g,0,none⟩),.int .i64 40] rfl zar ?_;(with_reducible refine (spec_l12Rd_pick.calls g s0_0 t333 40 t334 t335 w0 _ ?side1 ?side2 A9.out).mono ?_);(case side1=>exact zi131);(case side2=>exact zg131);rintro e w34 ⟨rfl,hi,hb,hk⟩;refine ⟨_,rfl,?_⟩;have n0_:=Aside0.mk (Kd.N_mono (Kd.N_keep (Kd.N_mono (ok:=fun k_=>(((w.heap.size≤k_))∧k_≠g)) (zN HO330.out) (fun k_ hk_=>(⟨hk_,hk_.2⟩:_∧k_≠g))) hk (fun _ h=>h.2)) (fun _ h=>h.1));have n1_:=Aside0.mk (KeepBut.trans zhk hk (.inl rfl));have n2_:=Aside0.mk (hb);have n3_:=Aside0.mk (hi);clear HO330;clear HK;clear HB;clear HI0;have HO330:=n0_;have HK:=n1_;have HB:=n2_;have HI0:=n3_;clear n0_ n1_ n2_ n3_;(try clear hb);(try clear hb2);(try clear hk);(try clear hi))|((with_reducible refine gate_dst (N:=34) rfl ?_);refine Kd.R_lit (Kd.int .i64) _ 3 ?hg (N:=34) ?hd (xs:=([]:List Int)) (inner:=[]) (ok:=fun _=>True) (okp:=fun _=>True) ?hr ?hp (fun _ hk=>hk) trivial (Below.refl _ _) (Nat.le_refl _) (by simp) ?_;(case hd=>rfl);(case hg=>rfl);(case hr=>first|(go_simp;done)|(go_simp;rfl));(case hp=>exact (Reps.none _ _));intro v343 w35 ho36 hb hg_ hnew_;clear hg_ hnew_;(first|rw [← Ny342.out] at ho36|(simp only [Int.reduceToNat] at ho36;rw [← Ny342.out] at ho36));have n0_:=Aside0.mk (Kd.N_elder' (zN HO330.out) (Kd.R_base ho36) hb);have n1_:=Aside0.mk (Kd.R_lower (Kd.R_newM (M:=fun k_=>(w.heap.size≤k_)) ho36 (keep_size (w:=w) (g:=g) (row:=none) zhk) (fun k_ h_=>h_)) (keep_size (w:=w) (g:=g) (row:=none) zhk));have n2_:=Aside0.mk (IsS131.below zi131 hb);have n3_:=Aside0.mk (KeepBut.trans zhk (KeepBut.of_below hb g none) (.inl rfl));have n4_:=Aside0.mk (below_step zg131 hb);clear HO330;clear HI0;clear HK;clear HB;have HO330:=n0_;have HO344:=n1_;have HI0:=n2_;have HK:=n3_;have HB:=n4_;clear n0_ n1_ n2_ n3_ n4_;clear hb ho36;have p29:0≤(t332:Int):=zod;have q29:(t332:Int) < ((t328.length:Int):Int):=zod;obtain ⟨go29,co29,eo29,gb29,gl29,cl29,HG29⟩:=Kd.N_form HO330.out (by omega);(first|cases eo29|(injection eo29 with ea_ en_ ec_;(first|subst ea_|(injection ea_ with ea_;subst ea_));subst ec_;clear en_));have GB29:=Aside0.mk gb29;have GG29:=Aside0.mk HG29;clear gb29 gl29 HG29;obtain ⟨ce29,hcl29,hM29,hcc29,hfr29⟩:=Kd.N_elem HO330.out z54 (t332:Int) p29 q29;obtain ⟨ua29_0,uc29_0,rfl,ul29_0,ge29_0⟩:=k54_openF hM29;have hx29_0:w35.cell? ⟨go29,(t332:Int).toNat * 2,none⟩=some (.slice ua29_0 ((rd_T54 t328 t332).f0).length uc29_0):=hcc29 0 _ rfl;have hx29_1:w35.cell? ⟨go29,(t332:Int).toNat * 2 + 1,none⟩=some (.int .i64 ((rd_T54 t328 t332).f1)):=hcc29 1 _ rfl;have hf29_0:w35.frozen? ⟨go29,(t332:Int).toNat * 2,none⟩=false:=hfr29 0;have hf29_1:w35.frozen? ⟨go29,(t332:Int).toNat * 2 + 1,none⟩=false:=hfr29 1;clear hcl29 hcc29 hfr29 hM29;replace p29:=eq_true p29;replace q29:=eq_true q29;obtain ⟨Ao39,co39,eo39⟩:=Kd.R_slice HO344.out;subst eo39;have n_:=Aside0.mk (Kd.N_mono (ok':=(fun k_=>(w.heap.size≤k_)∧some k_≠(.slice Ao39 y342.length co39:Value).ownBlock)) HO330.out (fun k_ hk=>⟨hk.1.1,hk.2⟩));clear HO330;have HO330:=n_;clear n_;have HX37:=Aside0.mk (show Kd.N k54 54 w35 w.heap.size (fun k_=>(w.heap.size≤k_)) (.slice (some ⟨go29,0,none⟩) t328.length co32) t328 from (by (with_reducible repeat (first|apply Kd.N_alloc|apply Kd.N_drewN|apply Kd.N_drew));exact Kd.N_mono HO330.out (fun _ hk=>hk.1)));obtain ⟨ce37,hcl37,hM37,hcc37,hfr37⟩:=Kd.N_elem HX37.out z54 (t332:Int) (zod) (by have h_:(t332:Int) < ((t328.length:Int):Int):=zod;first|exact h_|(have e_:=(Kd.N_reads' HO330.out).1;omega)|simpa using h_);obtain ⟨ua37_0,uc37_0,rfl,ul37_0,ge37_0⟩:=k54_openF hM37;have HP37:=Kd.N_seg HX37.out (t332:Int) (zod) (by have h_:(t332:Int) < ((t328.length:Int):Int):=zod;first|exact h_|(have e_:=(Kd.N_reads' HO330.out).1;omega)|simpa using h_) (seg:=[.slice Ao39 y342.length co39]) (j:=0) hcl37 hcc37 (show 1≤2 from by decide) (x':=(⟨y342,(rd_T54 t328 t332).f1⟩:S54)) (k54_mkF _ _ (⟨y342,(rd_T54 t328 t332).f1⟩:S54) (Kd.R_reads' (Kd.R_mono (ok':=(fun k_=>((fun k_=>(w.heap.size≤k_))) k_∧k_≠go29)) (Kd.R_apart' (HO344.out) (Kd.N_typed HO330.out) (by decide)) (fun k_ hk=>⟨hk.1.1,fun e_=>(hk.2) (by rw [e_];rfl)⟩))).2.1 (Kd.R_F (Kd.R_mono (ok':=(fun k_=>((fun k_=>(w.heap.size≤k_))) k_∧k_≠go29)) (Kd.R_apart' (HO344.out) (Kd.N_typed HO330.out) (by decide)) (fun k_ hk=>⟨hk.1.1,fun e_=>(hk.2) (by rw [e_];rfl)⟩)))) (fun _ hk=>hk);have hx37_0:=hcc37 0 _ rfl;(try simp only [show (k54).sz=2 from rfl,Nat.mul_one,Nat.add_zero] at hx37_0);have hf37_0:=hfr37 0;(try simp only [show (k54).sz=2 from rfl,Nat.mul_one,Nat.add_zero] at hf37_0);clear hcl37 hcc37 hfr37 hM37)|((with_reducible refine gate_store (t:=52) (p:=36) rfl ?_);refine store_event (t:=52) (p:=36) (v:=?vo_w38) (w1:=(w35.setCell ⟨go29,(t332:Int).toNat * 2,none⟩ (.slice Ao39 y342.length co39))) ?hg ?ho ?hn ?hr ?_;(case ho=>rfl);(case hg=>rfl);(case hn=>rfl);(case hr=>first|(go_simp;done)|(go_simp;rfl)|(obtain ⟨A0_,c0_,e0_⟩:=Kd.R_slice HO344.out;subst e0_;(first|(go_simp;done)|(go_simp;rfl))));intro w38 hw;have hg:w35.grownBy w38 (some go29):=(by rw [hw];exact HP37.2);have hp_:Kd.N k54 54 w38 w.heap.size (fun k_=>(w.heap.size≤k_)) (.slice (some ⟨go29,0,none⟩) t328.length co32) y345:=(by rw [hw,Ny345.out];exact HP37.1);clear HP37;have n0_:=Aside0.mk (IsS131.grown zi131 hg (IsS131.own_neN HI0.out HO330.out (by decide)));have n1_:=Aside0.mk (hp_);have n2_:=Aside0.mk ((by rw [hw];exact below_set (HB.out) (Nat.le_trans HL.out GB29.out):Below w0.heap.size w0 w38));have n3_:=Aside0.mk (KeepBut.trans zhk (KeepBut.of_grown hg g) (Kd.N_base2 HO330.out));clear HI0;clear HO330;clear HB;clear HK;clear HO344;have HI0:=n0_;have HO330:=n1_;have HB:=n2_;have HK:=n3_;clear n0_ n1_ n2_ n3_;clear hg hw hp_))
      go_ret
      exact ⟨_,by first|rfl|(simp [errW_none,errW_some] <;> rfl)|(simp [*,errW_none,errW_some] <;> rfl),by (with_reducible repeat (first|apply Kd.N_alloc|apply Kd.N_drewN|apply Kd.N_drew));exact HO330.out,zi131,zg131,zhk⟩
     ·rw [if_neg c28] at H
      exact absurd H (by simp)
    ·rw [if_neg c27] at H
     exact absurd H (by simp)
   ·rw [if_neg c26] at H
    have c26b0:(t334 == 1)=false:=beq_eq_false_iff_ne.mpr c26
    have c26b1:(t334 != 1)=true:=bne_iff_ne.mpr c26
    by_cases c40:t334=2
    ·rw [if_pos c40] at H
     have c40b0:(t334 == 2)=true:=beq_iff_eq.mpr c40
     have c40b1:(t334 != 2)=false:=bne_eq_false_iff_eq.mpr c40
     clear c40
     by_cases c41:0 < (t328.length:Int)
     ·rw [if_pos c41] at H
      have c41b0:decide (0 < (t328.length:Int))=true:=decide_eq_true c41
      have c41b1:decide (0 < t328.length)=true:=decide_eq_true (by omega)
      clear c41
      by_cases c42:t328.length < 4398046511104
      ·rw [if_pos c42] at H
       have LMc42:=Aside0.mk c42
       clear c42
       obtain ⟨y347,hy347⟩ : ∃ y_:List (S54),y_=(t328 ++ [(⟨(rd_T54 t328 0).f0,(rd_T54 t328 0).f1⟩:S54)]):=⟨_,rfl⟩
       replace H:(some (y347,t335))=some (r1,r2):=by first|(rw [hy347];with_reducible exact H)|(have H2_:=(Option.bind_some _ _).symm.trans H;rw [hy347];with_reducible exact H2_)|(have H2_:=(Option.bind_some _ _).symm.trans H;with_reducible exact H2_)|with_reducible exact H|(rw [hy347];exact H)|exact H
       have Ny347:=Aside0.mk hy347
       clear hy347
       simp only [Option.some.injEq,Prod.mk.injEq] at H
       obtain ⟨rfl,rfl⟩:=H
       go_enter Try.func67,Try.ntmps67
       go_wp2_with (first|((with_reducible refine gate_callee (f:=83) rfl ?_);refine goesL_ (some 8) rfl rfl Try.func83 (by kernel_rfl) rfl #[.pointer (some ⟨g,0,none⟩),.int .i64 3] rfl zar ?_;(with_reducible refine (spec_l12Rd_pick.calls g s0_0 s0_1 3 t326 t327 w0 _ ?side1 ?side2 A2.out).mono ?_);(case side1=>exact zi131);(case side2=>exact zg131);rintro e w43 ⟨rfl,hi,hb,hk⟩;refine ⟨_,rfl,?_⟩;have n0_:=Aside0.mk (KeepBut.trans zhk hk (.inl rfl));have n1_:=Aside0.mk (hb);have n2_:=Aside0.mk (hi);clear HK;clear HB;clear HI0;have HK:=n0_;have HB:=n1_;have HI0:=n2_;clear n0_ n1_ n2_;(try clear hb);(try clear hb2);(try clear hk);(try clear hi))|((with_reducible refine gate_callee (f:=114) rfl ?_);refine goesL_ (some 10) rfl rfl Try.func114 (by kernel_rfl) rfl #[.pointer (some ⟨g,0,none⟩),.int .i64 (wrap64 (1 + t326)),.int .i64 6] rfl zar ?_;(with_reducible refine (spec_l2Z.calls k g s0_0 t327 (wrap64 (1 + t326)) 6 t328 t331 w0 _ ?side1 ?side2 A3.out).mono ?_);(case side1=>exact zi131);(case side2=>exact zg131);rintro e w44 ⟨v329,rfl,ho0,hi,hb,hk⟩;refine ⟨_,rfl,?_⟩;have n0_:=Aside0.mk (Kd.N_lower (Kd.N_mono (ok':=fun k_=>(w.heap.size≤k_)∧k_≠g) ho0 (fun k_ hk_=>⟨(Nat.le_trans (keep_size (w:=w) (g:=g) (row:=none) zhk) hk_),(IsS131.fresh zi131 k_ hk_)⟩)) (keep_size (w:=w) (g:=g) (row:=none) zhk));have n1_:=Aside0.mk (KeepBut.trans zhk hk (.inl rfl));have n2_:=Aside0.mk (hb);have n3_:=Aside0.mk (hi);clear HK;clear HB;clear HI0;have HO330:=n0_;have HK:=n1_;have HB:=n2_;have HI0:=n3_;clear n0_ n1_ n2_ n3_;(try clear hb);(try clear hb2);(try clear hk);(try clear hi);(try clear ho0);obtain ⟨Ao45,co45,eo45⟩:=Kd.N_slice HO330.out;subst eo45)|((with_reducible refine gate_callee (f:=83) rfl ?_);refine goesL_ (some 18) rfl rfl Try.func83 (by kernel_rfl) rfl #[.pointer (some ⟨g,0,none⟩),.int .i64 (t328.length:Int)] rfl zar ?_;(with_reducible refine (spec_l12Rd_pick.calls g s0_0 t331 (t328.length:Int) t332 t333 w0 _ ?side1 ?side2 A8.out).mono ?_);(case side1=>exact zi131);(case side2=>exact zg131);rintro e w46 ⟨rfl,hi,hb,hk⟩;refine ⟨_,rfl,?_⟩;have n0_:=Aside0.mk (Kd.N_mono (Kd.N_keep (Kd.N_mono (ok:=fun k_=>(((w.heap.size≤k_))∧k_≠g)) (zN HO330.out) (fun k_ hk_=>(⟨hk_,hk_.2⟩:_∧k_≠g))) hk (fun _ h=>h.2)) (fun _ h=>h.1));have n1_:=Aside0.mk (KeepBut.trans zhk hk (.inl rfl));have n2_:=Aside0.mk (hb);have n3_:=Aside0.mk (hi);clear HO330;clear HK;clear HB;clear HI0;have HO330:=n0_;have HK:=n1_;have HB:=n2_;have HI0:=n3_;clear n0_ n1_ n2_ n3_;(try clear hb);(try clear hb2);(try clear hk);(try clear hi))|((with_reducible refine gate_callee (f:=83) rfl ?_);refine goesL_ (some 20) rfl rfl Try.func83 (by kernel_rfl) rfl #[.pointer (some ⟨g,0,none⟩),.int .i64 40] rfl zar ?_;(with_reducible refine (spec_l12Rd_pick.calls g s0_0 t333 40 t334 t335 w0 _ ?side1 ?side2 A9.out).mono ?_);(case side1=>exact zi131);(case side2=>exact zg131);rintro e w47 ⟨rfl,hi,hb,hk⟩;refine ⟨_,rfl,?_⟩;have n0_:=Aside0.mk (Kd.N_mono (Kd.N_keep (Kd.N_mono (ok:=fun k_=>(((w.heap.size≤k_))∧k_≠g)) (zN HO330.out) (fun k_ hk_=>(⟨hk_,hk_.2⟩:_∧k_≠g))) hk (fun _ h=>h.2)) (fun _ h=>h.1));have n1_:=Aside0.mk (KeepBut.trans zhk hk (.inl rfl));have n2_:=Aside0.mk (hb);have n3_:=Aside0.mk (hi);clear HO330;clear HK;clear HB;clear HI0;have HO330:=n0_;have HK:=n1_;have HB:=n2_;have HI0:=n3_;clear n0_ n1_ n2_ n3_;(try clear hb);(try clear hb2);(try clear hk);(try clear hi);have p346:0≤(0:Int):=(by omega);have q346:0 < (t328.length:Int):=zod;obtain ⟨ad346,A346_0,c346_0,e346,hx346_0,hx346_1,hl346_0,hi346_0⟩:=at_T54 (Kd.N_reads' HO330.out).2.2 0 p346 q346;cases e346;obtain ⟨ce346,hce346,hMe346,hcc346⟩:=Kd.N_get HO330.out z54 0 p346 (by first|exact q346|exact zod|(have e_:=(Kd.N_reads' HO330.out).1;omega));obtain ⟨ua346_0,uc346_0,rfl,ul346_0,ge346_0⟩:=k54_openF hMe346;have hv346_0:=hcc346 0 _ rfl;rw [Nat.add_zero] at hv346_0;replace hv346_0:=Option.some.inj (hv346_0.symm.trans hx346_0);injection hv346_0 with hva_ hvn_ hvc_;rw [hva_] at ge346_0;rw [hvc_] at ul346_0;have HL346_0:=Aside0.mk (show Kd.V (Kd.int .i64) 3 _ w.heap.size _ _ ((rd_T54 t328 0).f0) from Kd.V_mk ul346_0 ge346_0);clear hva_ hvn_ hvc_ ge346_0 ul346_0;clear hcc346 hce346;have qi346:(0 < t328.length)=True:=eq_true (by omega);(try rw [show ((0:Int)).toNat=0 from rfl] at hx346_0);(try rw [show 0 * 2=0 from rfl] at hx346_0);(try rw [Addr.add_zero'] at hx346_0);(try rw [show ((0:Int)).toNat=0 from rfl] at hx346_1);(try rw [show 0 * 2=0 from rfl] at hx346_1);(try rw [Addr.add_zero'] at hx346_1);have HR346_0:=Aside0.mk hi346_0;have HC346_0:=Aside0.mk hl346_0;clear hi346_0 hl346_0;replace p346:=eq_true p346;replace q346:=eq_true q346)|((with_reducible refine gate_builtin (b:=.append) (xs:=#[.tmp 39,.tmp 43]) rfl ?_);at_builtin;refine Kd.N_append k54 w.heap.size rfl (.tmp 39) (.tmp 43) 24 54 (.agg #[(.slice none 0 0),(.int .i64 0)]) 32 rfl Try.underlying24 info54 rfl (by decide) (by omega) (.slice (some ad346) t328.length co45) t328 (⟨(rd_T54 t328 0).f0,(rd_T54 t328 0).f1⟩:S54) [.slice A346_0 ((rd_T54 t328 0).f0).length c346_0,.int .i64 ((rd_T54 t328 0).f1)] (fun k_=>(w.heap.size≤k_)∧k_≠g) (fun k_=>((fun k_=>(w.heap.size≤k_)∧k_≠g)) k_∧some k_≠(.slice (some ad346) t328.length co45:Value).ownBlock) rfl rfl ?aP (fun _ hk=>hk) ?aF ?aO (Below.refl _ _) ?aS ?aL ?_;(case aP=>exact (k54_mkF _ _ (⟨(rd_T54 t328 0).f0,(rd_T54 t328 0).f1⟩:S54) (Kd.V_reads' (Kd.V_mono (ok':=(fun k_=>((fun k_=>(w.heap.size≤k_)∧k_≠g)) k_∧some k_≠(.slice (some ad346) t328.length co45:Value).ownBlock)) (HL346_0.out) (fun k_ hk=>⟨⟨hk.1.1,hk.1.2⟩,hk.2⟩))).2.1 (Kd.V_F (Kd.V_mono (ok':=(fun k_=>((fun k_=>(w.heap.size≤k_)∧k_≠g)) k_∧some k_≠(.slice (some ad346) t328.length co45:Value).ownBlock)) (HL346_0.out) (fun k_ hk=>⟨⟨hk.1.1,hk.1.2⟩,hk.2⟩)))));(case aF=>exact (fun k_ hk=>⟨(Nat.le_trans (keep_size (w:=w) (g:=g) (row:=none) zhk) hk),IsS131.fresh zi131 k_ hk⟩));(case aO=>exact (zN HO330.out));(case aS=>exact (keep_size (w:=w) (g:=g) (row:=none) zhk));(case aL=>have:=LMc42.out;omega);intro v348 w48 ho hb hg hat;rw [← Ny347.out] at ho;have n0_:=Aside0.mk (IsS131.grown zi131 hg (IsS131.own_neN HI0.out HO330.out (by decide)));have n1_:=Aside0.mk (Kd.V_afterv (ok:=(fun k_=>(w.heap.size≤k_)∧k_≠g)) (zV HL346_0.out) hg hat);have n2_:=Aside0.mk (below_weaken zg131 HL.out hb);have n3_:=Aside0.mk (KeepBut.trans zhk (KeepBut.of_grown hg g) (Kd.N_base2 HO330.out));have n4_:=Aside0.mk (ho);clear HI0;clear HL346_0;clear HB;clear HK;clear HO330;have HI0:=n0_;have HL346_0:=n1_;have HB:=n2_;have HK:=n3_;have HO349:=n4_;clear n0_ n1_ n2_ n3_ n4_;clear ho hb hg hat))
       go_ret
       exact ⟨_,by first|rfl|(simp [errW_none,errW_some] <;> rfl)|(simp [*,errW_none,errW_some] <;> rfl),by (with_reducible repeat (first|apply Kd.N_alloc|apply Kd.N_drewN|apply Kd.N_drew));exact Kd.N_mono HO349.out (fun _ hk=>hk.1),zi131,zg131,zhk⟩
      ·rw [if_neg c42] at H
       exact absurd H (by simp)
     ·rw [if_neg c41] at H
      exact absurd H (by simp)
    ·rw [if_neg c40] at H
     have c40b0:(t334 == 2)=false:=beq_eq_false_iff_ne.mpr c40
     have c40b1:(t334 != 2)=true:=bne_iff_ne.mpr c40
     by_cases c49:t334=3
     ·rw [if_pos c49] at H
      have c49b0:(t334 == 3)=true:=beq_iff_eq.mpr c49
      have c49b1:(t334 != 3)=false:=bne_eq_false_iff_eq.mpr c49
      clear c49
      have H':=Aside0.mk H
      clear H
      go_enter Try.func67,Try.ntmps67
      go_wp2_with (first|((with_reducible refine gate_callee (f:=83) rfl ?_);refine goesL_ (some 8) rfl rfl Try.func83 (by kernel_rfl) rfl #[.pointer (some ⟨g,0,none⟩),.int .i64 3] rfl zar ?_;(with_reducible refine (spec_l12Rd_pick.calls g s0_0 s0_1 3 t326 t327 w0 _ ?side1 ?side2 A2.out).mono ?_);(case side1=>exact zi131);(case side2=>exact zg131);rintro e w50 ⟨rfl,hi,hb,hk⟩;refine ⟨_,rfl,?_⟩;have n0_:=Aside0.mk (KeepBut.trans zhk hk (.inl rfl));have n1_:=Aside0.mk (hb);have n2_:=Aside0.mk (hi);clear HK;clear HB;clear HI0;have HK:=n0_;have HB:=n1_;have HI0:=n2_;clear n0_ n1_ n2_;(try clear hb);(try clear hb2);(try clear hk);(try clear hi))|((with_reducible refine gate_callee (f:=114) rfl ?_);refine goesL_ (some 10) rfl rfl Try.func114 (by kernel_rfl) rfl #[.pointer (some ⟨g,0,none⟩),.int .i64 (wrap64 (1 + t326)),.int .i64 6] rfl zar ?_;(with_reducible refine (spec_l2Z.calls k g s0_0 t327 (wrap64 (1 + t326)) 6 t328 t331 w0 _ ?side1 ?side2 A3.out).mono ?_);(case side1=>exact zi131);(case side2=>exact zg131);rintro e w51 ⟨v329,rfl,ho0,hi,hb,hk⟩;refine ⟨_,rfl,?_⟩;have n0_:=Aside0.mk (Kd.N_lower (Kd.N_mono (ok':=fun k_=>(w.heap.size≤k_)∧k_≠g) ho0 (fun k_ hk_=>⟨(Nat.le_trans (keep_size (w:=w) (g:=g) (row:=none) zhk) hk_),(IsS131.fresh zi131 k_ hk_)⟩)) (keep_size (w:=w) (g:=g) (row:=none) zhk));have n1_:=Aside0.mk (KeepBut.trans zhk hk (.inl rfl));have n2_:=Aside0.mk (hb);have n3_:=Aside0.mk (hi);clear HK;clear HB;clear HI0;have HO330:=n0_;have HK:=n1_;have HB:=n2_;have HI0:=n3_;clear n0_ n1_ n2_ n3_;(try clear hb);(try clear hb2);(try clear hk);(try clear hi);(try clear ho0);obtain ⟨Ao52,co52,eo52⟩:=Kd.N_slice HO330.out;subst eo52)|((with_reducible refine gate_callee (f:=83) rfl ?_);refine goesL_ (some 18) rfl rfl Try.func83 (by kernel_rfl) rfl #[.pointer (some ⟨g,0,none⟩),.int .i64 (t328.length:Int)] rfl zar ?_;(with_reducible refine (spec_l12Rd_pick.calls g s0_0 t331 (t328.length:Int) t332 t333 w0 _ ?side1 ?side2 A8.out).mono ?_);(case side1=>exact zi131);(case side2=>exact zg131);rintro e w53 ⟨rfl,hi,hb,hk⟩;refine ⟨_,rfl,?_⟩;have n0_:=Aside0.mk (Kd.N_mono (Kd.N_keep (Kd.N_mono (ok:=fun k_=>(((w.heap.size≤k_))∧k_≠g)) (zN HO330.out) (fun k_ hk_=>(⟨hk_,hk_.2⟩:_∧k_≠g))) hk (fun _ h=>h.2)) (fun _ h=>h.1));have n1_:=Aside0.mk (KeepBut.trans zhk hk (.inl rfl));have n2_:=Aside0.mk (hb);have n3_:=Aside0.mk (hi);clear HO330;clear HK;clear HB;clear HI0;have HO330:=n0_;have HK:=n1_;have HB:=n2_;have HI0:=n3_;clear n0_ n1_ n2_ n3_;(try clear hb);(try clear hb2);(try clear hk);(try clear hi))|((with_reducible refine gate_callee (f:=83) rfl ?_);refine goesL_ (some 20) rfl rfl Try.func83 (by kernel_rfl) rfl #[.pointer (some ⟨g,0,none⟩),.int .i64 40] rfl zar ?_;(with_reducible refine (spec_l12Rd_pick.calls g s0_0 t333 40 t334 t335 w0 _ ?side1 ?side2 A9.out).mono ?_);(case side1=>exact zi131);(case side2=>exact zg131);rintro e w54 ⟨rfl,hi,hb,hk⟩;refine ⟨_,rfl,?_⟩;have n0_:=Aside0.mk (Kd.N_mono (Kd.N_keep (Kd.N_mono (ok:=fun k_=>(((w.heap.size≤k_))∧k_≠g)) (zN HO330.out) (fun k_ hk_=>(⟨hk_,hk_.2⟩:_∧k_≠g))) hk (fun _ h=>h.2)) (fun _ h=>h.1));have n1_:=Aside0.mk (KeepBut.trans zhk hk (.inl rfl));have n2_:=Aside0.mk (hb);have n3_:=Aside0.mk (hi);clear HO330;clear HK;clear HB;clear HI0;have HO330:=n0_;have HK:=n1_;have HB:=n2_;have HI0:=n3_;clear n0_ n1_ n2_ n3_;(try clear hb);(try clear hb2);(try clear hk);(try clear hi)))
      go_loopg [3,5] k (fun kq v3 v5 w'=>∃ (x3_1:List (S54)) (x5_1:Int),v5=.int .i64 x5_1∧Aside0 (spec_l2Bent.l0 kq x3_1 x5_1 s0_0 t335=some (r1,r2))∧Aside0 (kq≤k)∧Aside0 (Kd.N k54 54 w' w.heap.size (fun k_=>(w.heap.size≤k_)∧k_≠g) v3 x3_1)∧Aside0 (IsS131 w0 w' g s0_0 t335)∧Aside0 (KeepBut w w' g none)∧Aside0 (Below w0.heap.size w0 w'))
      case atStart=>exact ⟨(t328),(0),(by first|rfl|(simp;done)|(simp [*];done)),H',⟨Nat.le_refl _⟩,⟨by (with_reducible repeat (first|apply Kd.N_alloc|apply Kd.N_drewN|apply Kd.N_drew));exact HO330.out⟩,⟨zi131⟩,⟨zhk⟩,⟨zg131⟩⟩
      case round =>
       clear H'
       try clear c1
       try clear p1
       try clear q1
       try clear hx1
       try clear hf1
       try clear c2
       try clear p2
       try clear q2
       try clear hx2
       try clear hf2
       try clear c3
       try clear p3
       try clear q3
       try clear hx3
       try clear qi3
       try clear hf3
       try clear c4
       try clear c4b0
       try clear c4b1
       try clear c4b2
       try clear c6
       try clear p6
       try clear c8
       try clear c10
       try clear c10b0
       try clear c10b1
       try clear c11
       try clear c12
       try clear c12b0
       try clear c13
       try clear c13b0
       try clear c14
       try clear p14
       try clear q14
       try clear hx14
       try clear hf14
       try clear c24
       try clear hx24
       try clear hf24
       try clear c26
       try clear c26b0
       try clear c26b1
       try clear c27
       try clear c27b0
       try clear c28
       try clear c28b0
       try clear c29
       try clear p29
       try clear q29
       try clear hx29
       try clear hf29
       try clear c34
       try clear p34
       try clear q34
       try clear hx34
       try clear qi34
       try clear c37
       try clear hx37
       try clear hf37
       try clear c40
       try clear c40b0
       try clear c40b1
       try clear c41
       try clear c41b0
       try clear c41b1
       try clear c42
       try clear c49
       try clear c49b0
       try clear c49b1
       try clear hx14_0
       try clear hx14_1
       try clear hx24_1
       try clear hx29_0
       try clear hx29_1
       try clear hx346_0
       try clear hx346_1
       try clear hx37_0
       try clear p14
       try clear p29
       try clear p346
       try clear q14
       try clear q29
       try clear q346
       obtain ⟨x3_1,x5_1,rfl,HA,HK1,HO_3,HI0,HK,HB⟩:=hrel
       cases gk with
       | zero=>exact absurd HA.out (by simp [spec_l2Bent.l0])
       | succ k1 =>
        have H:=HA.out
        clear HA
        simp only [spec_l2Bent.l0] at H
        by_cases c55:x5_1 < 101
        ·rw [if_pos c55] at H
         have c55b0:decide (x5_1 < 101)=true:=decide_eq_true c55
         clear c55
         obtain ⟨y350,hy350⟩ : ∃ y_:List Int,y_=(([wrap64 (10 + x5_1)]:List Int)):=⟨_,rfl⟩
         replace H:((spec_l2Put.f k1 x3_1 y350 1).bind fun t353=>(spec_l2Bent.l0 k1 t353 (wrap64 (x5_1 + 1)) s0_0 t335))=some (r1,r2):=by first|(rw [hy350];with_reducible exact H)|(have H2_:=(Option.bind_some _ _).symm.trans H;rw [hy350];with_reducible exact H2_)|(have H2_:=(Option.bind_some _ _).symm.trans H;with_reducible exact H2_)|with_reducible exact H|(rw [hy350];exact H)|exact H
         have Ny350:=Aside0.mk hy350
         clear hy350
         replace H:=Option.bind_eq_some_iff.mp H
         obtain ⟨t353,A560,H⟩:=H
         (try dsimp only at H)
         have A56:=Aside0.mk A560
         clear A560
         have H':=Aside0.mk H
         clear H
         go_wp2_with (first|((with_reducible refine gate_dst (N:=54) rfl ?_);refine Kd.R_lit (Kd.int .i64) _ 3 ?hg (N:=54) ?hd (xs:=([wrap64 (10 + x5_1)]:List Int)) (inner:=[.int .i64 (wrap64 (10 + x5_1))]) (ok:=fun _=>True) (okp:=fun _=>True) ?hr ?hp (fun _ hk=>hk) trivial (Below.refl _ _) (Nat.le_refl _) (by simp) ?_;(case hd=>rfl);(case hg=>rfl);(case hr=>first|(go_simp;done)|(go_simp;rfl));(case hp=>exact (Reps.one (show Kd.M (Kd.int .i64) _ _ _ (wrap64 (10 + x5_1)) [.int .i64 (wrap64 (10 + x5_1))] from rfl) (Reps.none _ _)));intro v351 w57 ho58 hb hg_ hnew_;clear hg_ hnew_;(first|rw [← Ny350.out] at ho58|(simp only [Int.reduceToNat] at ho58;rw [← Ny350.out] at ho58));have n0_:=Aside0.mk (Kd.N_elder' (zN HO_3.out) (Kd.R_base ho58) hb);have n1_:=Aside0.mk (Kd.R_lower (Kd.R_newM (M:=fun k_=>(w.heap.size≤k_)) ho58 (keep_size (w:=w) (g:=g) (row:=none) zhk) (fun k_ h_=>h_)) (keep_size (w:=w) (g:=g) (row:=none) zhk));have n2_:=Aside0.mk (IsS131.below zi131 hb);have n3_:=Aside0.mk (KeepBut.trans zhk (KeepBut.of_below hb g none) (.inl rfl));have n4_:=Aside0.mk (below_step zg131 hb);clear HO_3;clear HI0;clear HK;clear HB;have HO_3:=n0_;have HO352:=n1_;have HI0:=n2_;have HK:=n3_;have HB:=n4_;clear n0_ n1_ n2_ n3_ n4_;clear hb ho58;obtain ⟨Ao59,co59,eo59⟩:=Kd.N_slice HO_3.out;subst eo59;obtain ⟨Ao60,co60,eo60⟩:=Kd.R_slice HO352.out;subst eo60)|((with_reducible refine gate_callee (f:=107) rfl ?_);refine goesL_ (some 55) rfl rfl Try.func107 (by kernel_rfl) rfl #[.slice Ao59 x3_1.length co59,.slice Ao60 y350.length co60,.int .i64 1] rfl zar ?_;(refine (spec_l2Put.calls k1 w.heap.size (fun k_=>(w.heap.size≤k_)∧some k_≠(.slice Ao60 y350.length co60:Value).ownBlock∧k_≠g) (.slice Ao59 x3_1.length co59) x3_1 _ _ y350 1 t353 ?w0_ _ ?side1 ?side2 ?side3 ?side4 ?side5 ?side6 A56.out).mono ?_);(case side1=>exact (keep_size (w:=w) (g:=g) (row:=none) zhk));(case side2=>exact (Below.refl _ _));(case side3=>exact (by (with_reducible repeat (first|apply Kd.N_alloc|apply Kd.N_drewN|apply Kd.N_drew));exact Kd.N_mono HO_3.out (fun _ hk=>⟨hk.1.1,⟨hk.2,hk.1.2⟩⟩)));(case side4=>exact (fun k_ hk=>⟨(Nat.le_trans (keep_size (w:=w) (g:=g) (row:=none) zhk) hk),Kd.fresh' (Kd.R_lt (by (with_reducible repeat (first|apply Kd.R_alloc|apply Kd.R_drewN|apply Kd.R_drew));exact HO352.out)) k_ hk,IsS131.fresh zi131 k_ hk⟩));(case side5=>repeat (first|exact (Kd.R_reads' HO352.out).2.2|(with_reducible refine Kd.C_alloc ?_ _)|(with_reducible refine Kd.C_drewN ?_ _)|(with_reducible refine Kd.C_drew ?_)));(case side6=>exact (Kd.R_reads' HO352.out).2.1);rintro e w61 ⟨v354,rfl,ho,hb,hg,hat⟩;refine ⟨_,rfl,?_⟩;have n0_:=Aside0.mk (IsS131.grown zi131 hg (IsS131.own_neN HI0.out HO_3.out (by decide)));have n1_:=Aside0.mk (Kd.R_over' (by (with_reducible repeat (first|apply Kd.R_alloc|apply Kd.R_drewN|apply Kd.R_drew));exact HO352.out) (Kd.N_typed (zN HO_3.out)) (by decide) hg);have n2_:=Aside0.mk (below_weaken zg131 HL.out hb);have n3_:=Aside0.mk (KeepBut.trans zhk (KeepBut.of_grown hg g) (Kd.N_base2 HO_3.out));have n4_:=Aside0.mk (ho);clear HI0;clear HO352;clear HB;clear HK;clear HO_3;have HI0:=n0_;have HO352:=n1_;have HB:=n2_;have HK:=n3_;have HO355:=n4_;clear n0_ n1_ n2_ n3_ n4_;clear ho hb hg hat))
         go_roundg k1
         case measure=>have:=HK1.out;omega
         case rel=>exact ⟨(t353),(wrap64 (x5_1 + 1)),(by first|rfl|(simp;done)|(simp [*];done)),H',⟨by have:=HK1.out;omega⟩,⟨by (with_reducible repeat (first|apply Kd.N_alloc|apply Kd.N_drewN|apply Kd.N_drew));exact Kd.N_mono HO355.out (fun _ hk=>⟨hk.1,hk.2.2⟩)⟩,⟨zi131⟩,⟨zhk⟩,⟨zg131⟩⟩
        ·rw [if_neg c55] at H
         have c55b0:decide (x5_1 < 101)=false:=decide_eq_false c55
         clear c55
         simp only [Option.some.injEq,Prod.mk.injEq] at H
         obtain ⟨rfl,rfl⟩:=H
         go_wp2
         go_ret
         exact ⟨_,by first|rfl|(simp [errW_none,errW_some] <;> rfl)|(simp [*,errW_none,errW_some] <;> rfl),by (with_reducible repeat (first|apply Kd.N_alloc|apply Kd.N_drewN|apply Kd.N_drew));exact Kd.N_mono HO_3.out (fun _ hk=>hk.1),zi131,zg131,zhk⟩
     ·rw [if_neg c49] at H
      have c49b0:(t334 == 3)=false:=beq_eq_false_iff_ne.mpr c49
      have c49b1:(t334 != 3)=true:=bne_iff_ne.mpr c49
      simp only [Option.some.injEq,Prod.mk.injEq] at H
      obtain ⟨rfl,rfl⟩:=H
      go_enter Try.func67,Try.ntmps67
      go_wp2_with (first|((with_reducible refine gate_callee (f:=83) rfl ?_);refine goesL_ (some 8) rfl rfl Try.func83 (by kernel_rfl) rfl #[.pointer (some ⟨g,0,none⟩),.int .i64 3] rfl zar ?_;(with_reducible refine (spec_l12Rd_pick.calls g s0_0 s0_1 3 t326 t327 w0 _ ?side1 ?side2 A2.out).mono ?_);(case side1=>exact zi131);(case side2=>exact zg131);rintro e w62 ⟨rfl,hi,hb,hk⟩;refine ⟨_,rfl,?_⟩;have n0_:=Aside0.mk (KeepBut.trans zhk hk (.inl rfl));have n1_:=Aside0.mk (hb);have n2_:=Aside0.mk (hi);clear HK;clear HB;clear HI0;have HK:=n0_;have HB:=n1_;have HI0:=n2_;clear n0_ n1_ n2_;(try clear hb);(try clear hb2);(try clear hk);(try clear hi))|((with_reducible refine gate_callee (f:=114) rfl ?_);refine goesL_ (some 10) rfl rfl Try.func114 (by kernel_rfl) rfl #[.pointer (some ⟨g,0,none⟩),.int .i64 (wrap64 (1 + t326)),.int .i64 6] rfl zar ?_;(with_reducible refine (spec_l2Z.calls k g s0_0 t327 (wrap64 (1 + t326)) 6 t328 t331 w0 _ ?side1 ?side2 A3.out).mono ?_);(case side1=>exact zi131);(case side2=>exact zg131);rintro e w63 ⟨v329,rfl,ho0,hi,hb,hk⟩;refine ⟨_,rfl,?_⟩;have n0_:=Aside0.mk (Kd.N_lower (Kd.N_mono (ok':=fun k_=>(w.heap.size≤k_)∧k_≠g) ho0 (fun k_ hk_=>⟨(Nat.le_trans (keep_size (w:=w) (g:=g) (row:=none) zhk) hk_),(IsS131.fresh zi131 k_ hk_)⟩)) (keep_size (w:=w) (g:=g) (row:=none) zhk));have n1_:=Aside0.mk (KeepBut.trans zhk hk (.inl rfl));have n2_:=Aside0.mk (hb);have n3_:=Aside0.mk (hi);clear HK;clear HB;clear HI0;have HO330:=n0_;have HK:=n1_;have HB:=n2_;have HI0:=n3_;clear n0_ n1_ n2_ n3_;(try clear hb);(try clear hb2);(try clear hk);(try clear hi);(try clear ho0);obtain ⟨Ao64,co64,eo64⟩:=Kd.N_slice HO330.out;subst eo64)|((with_reducible refine gate_callee (f:=83) rfl ?_);refine goesL_ (some 18) rfl rfl Try.func83 (by kernel_rfl) rfl #[.pointer (some ⟨g,0,none⟩),.int .i64 (t328.length:Int)] rfl zar ?_;(with_reducible refine (spec_l12Rd_pick.calls g s0_0 t331 (t328.length:Int) t332 t333 w0 _ ?side1 ?side2 A8.out).mono ?_);(case side1=>exact zi131);(case side2=>exact zg131);rintro e w65 ⟨rfl,hi,hb,hk⟩;refine ⟨_,rfl,?_⟩;have n0_:=Aside0.mk (Kd.N_mono (Kd.N_keep (Kd.N_mono (ok:=fun k_=>(((w.heap.size≤k_))∧k_≠g)) (zN HO330.out) (fun k_ hk_=>(⟨hk_,hk_.2⟩:_∧k_≠g))) hk (fun _ h=>h.2)) (fun _ h=>h.1));have n1_:=Aside0.mk (KeepBut.trans zhk hk (.inl rfl));have n2_:=Aside0.mk (hb);have n3_:=Aside0.mk (hi);clear HO330;clear HK;clear HB;clear HI0;have HO330:=n0_;have HK:=n1_;have HB:=n2_;have HI0:=n3_;clear n0_ n1_ n2_ n3_;(try clear hb);(try clear hb2);(try clear hk);(try clear hi))|((with_reducible refine gate_callee (f:=83) rfl ?_);refine goesL_ (some 20) rfl rfl Try.func83 (by kernel_rfl) rfl #[.pointer (some ⟨g,0,none⟩),.int .i64 40] rfl zar ?_;(with_reducible refine (spec_l12Rd_pick.calls g s0_0 t333 40 t334 t335 w0 _ ?side1 ?side2 A9.out).mono ?_);(case side1=>exact zi131);(case side2=>exact zg131);rintro e w66 ⟨rfl,hi,hb,hk⟩;refine ⟨_,rfl,?_⟩;have n0_:=Aside0.mk (Kd.N_mono (Kd.N_keep (Kd.N_mono (ok:=fun k_=>(((w.heap.size≤k_))∧k_≠g)) (zN HO330.out) (fun k_ hk_=>(⟨hk_,hk_.2⟩:_∧k_≠g))) hk (fun _ h=>h.2)) (fun _ h=>h.1));have n1_:=Aside0.mk (KeepBut.trans zhk hk (.inl rfl));have n2_:=Aside0.mk (hb);have n3_:=Aside0.mk (hi);clear HO330;clear HK;clear HB;clear HI0;have HO330:=n0_;have HK:=n1_;have HB:=n2_;have HI0:=n3_;clear n0_ n1_ n2_ n3_;(try clear hb);(try clear hb2);(try clear hk);(try clear hi)))
      go_ret
      exact ⟨_,by first|rfl|(simp [errW_none,errW_some] <;> rfl)|(simp [*,errW_none,errW_some] <;> rfl),by (with_reducible repeat (first|apply Kd.N_alloc|apply Kd.N_drewN|apply Kd.N_drew));exact Kd.N_mono HO330.out (fun _ hk=>hk.1),zi131,zg131,zhk⟩

/-! ### spec_l2Two: function 77 -/
def spec_l2Two.f (k:Nat) (l0:List Int):Option ((List (S54)) × (List (S54))):=(spec_l12Open.f l0).bind fun bt356=>((spec_l2Bent.f k bt356.1 bt356.2).bind fun bt359=>((spec_l12Rd_pick.f bt356.1 bt359.2 5).bind fun bt363=>(if bt363.1=0 then ((spec_l2Copy.f k bt359.1).bind fun t365=>(some (bt359.1,t365))) else ((spec_l2Bent.f k bt356.1 bt363.2).bind fun bt368=>(some (bt359.1,bt368.1))))))
theorem spec_l2Two.mono : ∀ a0 k,LeO (spec_l2Two.f k a0) (spec_l2Two.f (k + 1) a0):=by
 intro a0 k
 unfold spec_l2Two.f
 repeat' first
   | (with_reducible exact spec_l2Bent.mono _ _ _)
   | (with_reducible exact spec_l2Copy.mono _ _)
   | (with_reducible exact LeO.refl _)
   | (with_reducible exact LeO.none _)
   | (with_reducible refine LeO.ite ?_ ?_)
   | (with_reducible refine LeO.bind ?_ (fun _=>?_))
   | exact LeO.none _
   | refine LeO.ite ?_ ?_
   | refine LeO.bind ?_ (fun _=>?_)
set_option maxHeartbeats 8000000 in
set_option maxRecDepth 100000 in
theorem spec_l2Two.calls (k:Nat) (A0:Option Addr) (c0:Nat) (l0:List Int) (r1:List (S54)) (r2:List (S54)) (w:World) (hr0:Kd.C (Kd.int .u8) w A0 l0.length l0) (hc0:l0.length≤c0) (h:spec_l2Two.f k l0=some (r1,r2)) :
  Calls Try.prog 77 #[.slice A0 l0.length c0] w fun e w'=>∃ v0_ v1_:Value,e=.returned (.tuple #[v0_,v1_])∧Kd.N k54 54 w' w.heap.size (fun k_=>(w.heap.size≤k_)∧some k_≠(v1_:Value).ownBlock) v0_ r1∧Kd.N k54 54 w' w.heap.size (fun k_=>(w.heap.size≤k_)∧some k_≠(v0_:Value).ownBlock) v1_ r2∧Below w.heap.size w w':=by
 have HR0:=Aside0.mk hr0
 have HC0:=Aside0.mk hc0
 clear hr0 hc0
 have HB:=Aside0.mk (Below.refl w.heap.size w)
 have H:((spec_l12Open.f l0).bind fun bt356=>((spec_l2Bent.f k bt356.1 bt356.2).bind fun bt359=>((spec_l12Rd_pick.f bt356.1 bt359.2 5).bind fun bt363=>(if bt363.1=0 then ((spec_l2Copy.f k bt359.1).bind fun t365=>(some (bt359.1,t365))) else ((spec_l2Bent.f k bt356.1 bt363.2).bind fun bt368=>(some (bt359.1,bt368.1)))))))=some (r1,r2):=h
 clear h
 replace H:=Option.bind_eq_some_iff.mp H
 obtain ⟨⟨t356,t357⟩,A20,H⟩:=H
 (try dsimp only at H)
 have A2:=Aside0.mk A20
 clear A20
 replace H:=Option.bind_eq_some_iff.mp H
 obtain ⟨⟨t359,t362⟩,A30,H⟩:=H
 (try dsimp only at H)
 have A3:=Aside0.mk A30
 clear A30
 replace H:=Option.bind_eq_some_iff.mp H
 obtain ⟨⟨t363,t364⟩,A40,H⟩:=H
 (try dsimp only at H)
 have A4:=Aside0.mk A40
 clear A40
 by_cases c5:t363=0
 ·rw [if_pos c5] at H
  have c5b0:(t363 == 0)=true:=beq_iff_eq.mpr c5
  have c5b1:(t363 != 0)=false:=bne_eq_false_iff_eq.mpr c5
  clear c5
  replace H:=Option.bind_eq_some_iff.mp H
  obtain ⟨t365,A60,H⟩:=H
  (try dsimp only at H)
  have A6:=Aside0.mk A60
  clear A60
  simp only [Option.some.injEq,Prod.mk.injEq] at H
  obtain ⟨rfl,rfl⟩:=H
  go_enter Try.func77,Try.ntmps77
  go_wp2_with (first|((with_reducible refine gate_callee (f:=60) rfl ?_);refine goesL_ (some 7) rfl rfl Try.func60 (by kernel_rfl) rfl #[.slice A0 l0.length c0] rfl zar ?_;(with_reducible refine (spec_l12Open.calls _ _ l0 t356 t357 w _ ?side1 ?side2 ?side3 A2.out).mono ?_);(case side1=>exact zhb);(case side2=>exact HR0.out);(case side3=>exact HC0.out);rintro e w7 ⟨g358,rfl,hi,hb,hb2⟩;refine ⟨_,rfl,?_⟩;have n0_:=Aside0.mk (hb);have n1_:=Aside0.mk (hi);clear HB;have HB:=n0_;have HI358:=n1_;clear n0_ n1_;(try clear hb);(try clear hb2);(try clear hk);(try clear hi))|((with_reducible refine gate_callee (f:=67) rfl ?_);refine goesL_ (some 9) rfl rfl Try.func67 (by kernel_rfl) rfl #[.pointer (some ⟨g358,0,none⟩)] rfl zar ?_;(with_reducible refine (spec_l2Bent.calls k g358 t356 t357 t359 t362 w _ ?side1 ?side2 A3.out).mono ?_);(case side1=>repeat (first|(with_reducible first|exact HI358.out|apply IsS131.alloc|apply IsS131.drewN|apply IsS131.drew|apply IsS131.set_1)|exact HI358.out));(case side2=>repeat (first|(with_reducible first|exact HB.out|apply below_alloc|apply pw_below_drewN|apply below_drew1|refine below_set ?_ (IsS131.ge HI358.out))|exact HB.out));rintro e w8 ⟨v360,rfl,ho0,hi,hb,hk⟩;refine ⟨_,rfl,?_⟩;have n0_:=Aside0.mk (Kd.N_lower (Kd.N_mono (ok':=fun k_=>(w.heap.size≤k_)∧k_≠g358) ho0 (fun k_ hk_=>⟨(Nat.le_trans (below_size (by repeat (first|(with_reducible first|exact HB.out|apply below_alloc|apply pw_below_drewN|apply below_drew1|refine below_set ?_ (IsS131.ge HI358.out))|exact HB.out))) hk_),(IsS131.fresh (by repeat (first|(with_reducible first|exact HI358.out|apply IsS131.alloc|apply IsS131.drewN|apply IsS131.drew|apply IsS131.set_1)|exact HI358.out)) k_ hk_)⟩)) (below_size (by repeat (first|(with_reducible first|exact HB.out|apply below_alloc|apply pw_below_drewN|apply below_drew1|refine below_set ?_ (IsS131.ge HI358.out))|exact HB.out))));have n1_:=Aside0.mk (hb);have n2_:=Aside0.mk (hi);clear HB;clear HI358;have HO361:=n0_;have HB:=n1_;have HI358:=n2_;clear n0_ n1_ n2_;(try clear hb);(try clear hb2);(try clear hk);(try clear hi);(try clear ho0))|((with_reducible refine gate_callee (f:=83) rfl ?_);refine goesL_ (some 11) rfl rfl Try.func83 (by kernel_rfl) rfl #[.pointer (some ⟨g358,0,none⟩),.int .i64 5] rfl zar ?_;(with_reducible refine (spec_l12Rd_pick.calls g358 t356 t362 5 t363 t364 w _ ?side1 ?side2 A4.out).mono ?_);(case side1=>repeat (first|(with_reducible first|exact HI358.out|apply IsS131.alloc|apply IsS131.drewN|apply IsS131.drew|apply IsS131.set_1)|exact HI358.out));(case side2=>repeat (first|(with_reducible first|exact HB.out|apply below_alloc|apply pw_below_drewN|apply below_drew1|refine below_set ?_ (IsS131.ge HI358.out))|exact HB.out));rintro e w9 ⟨rfl,hi,hb,hk⟩;refine ⟨_,rfl,?_⟩;have n0_:=Aside0.mk (Kd.N_mono (Kd.N_keep (Kd.N_mono (ok:=fun k_=>(((w.heap.size≤k_))∧k_≠g358)) (zN HO361.out) (fun k_ hk_=>(⟨hk_,hk_.2⟩:_∧k_≠g358))) hk (fun _ h=>h.2)) (fun _ h=>h.1));have n1_:=Aside0.mk (hb);have n2_:=Aside0.mk (hi);clear HO361;clear HB;clear HI358;have HO361:=n0_;have HB:=n1_;have HI358:=n2_;clear n0_ n1_ n2_;(try clear hb);(try clear hb2);(try clear hk);(try clear hi);obtain ⟨Ao10,co10,eo10⟩:=Kd.N_slice HO361.out;subst eo10)|((with_reducible refine gate_callee (f:=106) rfl ?_);refine goesL_ (some 15) rfl rfl Try.func106 (by kernel_rfl) rfl #[.slice Ao10 t359.length co10] rfl zar ?_;(with_reducible refine (spec_l2Copy.calls k _ _ t359 t365 _ ?side1 ?side2 A6.out).mono ?_);(case side1=>exact zC (Kd.N_reads' HO361.out).2.2);(case side2=>exact (Kd.N_reads' HO361.out).2.1);rintro e w11 ⟨v366,rfl,ho0,hb⟩;refine ⟨_,rfl,?_⟩;have n0_:=Aside0.mk (Kd.N_elder' (zN HO361.out) (Kd.S_base ho0) hb);have n1_:=Aside0.mk (Kd.N_lower (Kd.N_mono (ok':=fun k_=>(w.heap.size≤k_)∧some k_≠(.slice Ao10 t359.length co10:Value).ownBlock∧k_≠g358) (Kd.S_N (Kd.S_bound ho0)) (fun k_ hk_=>⟨(Nat.le_trans (below_size (by repeat (first|(with_reducible first|exact HB.out|apply below_alloc|apply pw_below_drewN|apply below_drew1|refine below_set ?_ (IsS131.ge HI358.out))|exact HB.out))) hk_.2.1),(Kd.fresh' (Kd.N_lt (zN HO361.out)) k_ hk_.2.1),(IsS131.fresh (by repeat (first|(with_reducible first|exact HI358.out|apply IsS131.alloc|apply IsS131.drewN|apply IsS131.drew|apply IsS131.set_1)|exact HI358.out)) k_ hk_.2.1)⟩)) (below_size (by repeat (first|(with_reducible first|exact HB.out|apply below_alloc|apply pw_below_drewN|apply below_drew1|refine below_set ?_ (IsS131.ge HI358.out))|exact HB.out))));have n2_:=Aside0.mk (IsS131.below (by repeat (first|(with_reducible first|exact HI358.out|apply IsS131.alloc|apply IsS131.drewN|apply IsS131.drew|apply IsS131.set_1)|exact HI358.out)) hb);have n3_:=Aside0.mk (below_step (by repeat (first|(with_reducible first|exact HB.out|apply below_alloc|apply pw_below_drewN|apply below_drew1|refine below_set ?_ (IsS131.ge HI358.out))|exact HB.out)) hb);clear HO361;clear HI358;clear HB;have HO361:=n0_;have HO367:=n1_;have HI358:=n2_;have HB:=n3_;clear n0_ n1_ n2_ n3_;(try clear hb);(try clear hb2);(try clear hk);(try clear hi);(try clear ho0)))
  go_ret2
  exact ⟨_,_,by first|rfl|(simp [errW_none,errW_some] <;> rfl)|(simp [*,errW_none,errW_some] <;> rfl),by (with_reducible repeat (first|apply Kd.N_alloc|apply Kd.N_drewN|apply Kd.N_drew));exact Kd.N_mono HO361.out (fun _ hk=>⟨hk.1.1,hk.2⟩),by (with_reducible repeat (first|apply Kd.N_alloc|apply Kd.N_drewN|apply Kd.N_drew));exact Kd.N_mono HO367.out (fun _ hk=>⟨hk.1,hk.2.1⟩),by repeat (first|(with_reducible first|exact HB.out|apply below_alloc|apply pw_below_drewN|apply below_drew1|refine below_set ?_ (IsS131.ge HI358.out))|exact HB.out)⟩
 ·rw [if_neg c5] at H
  have c5b0:(t363 == 0)=false:=beq_eq_false_iff_ne.mpr c5
  have c5b1:(t363 != 0)=true:=bne_iff_ne.mpr c5
  replace H:=Option.bind_eq_some_iff.mp H
  obtain ⟨⟨t368,t371⟩,A120,H⟩:=H
  (try dsimp only at H)
  have A12:=Aside0.mk A120
  clear A120
  simp only [Option.some.injEq,Prod.mk.injEq] at H
  obtain ⟨rfl,rfl⟩:=H
  go_enter Try.func77,Try.ntmps77
  go_wp2_with (first|((with_reducible refine gate_callee (f:=60) rfl ?_);refine goesL_ (some 7) rfl rfl Try.func60 (by kernel_rfl) rfl #[.slice A0 l0.length c0] rfl zar ?_;(with_reducible refine (spec_l12Open.calls _ _ l0 t356 t357 w _ ?side1 ?side2 ?side3 A2.out).mono ?_);(case side1=>exact zhb);(case side2=>exact HR0.out);(case side3=>exact HC0.out);rintro e w13 ⟨g358,rfl,hi,hb,hb2⟩;refine ⟨_,rfl,?_⟩;have n0_:=Aside0.mk (hb);have n1_:=Aside0.mk (hi);clear HB;have HB:=n0_;have HI358:=n1_;clear n0_ n1_;(try clear hb);(try clear hb2);(try clear hk);(try clear hi))|((with_reducible refine gate_callee (f:=67) rfl ?_);refine goesL_ (some 9) rfl rfl Try.func67 (by kernel_rfl) rfl #[.pointer (some ⟨g358,0,none⟩)] rfl zar ?_;(with_reducible refine (spec_l2Bent.calls k g358 t356 t357 t359 t362 w _ ?side1 ?side2 A3.out).mono ?_);(case side1=>repeat (first|(with_reducible first|exact HI358.out|apply IsS131.alloc|apply IsS131.drewN|apply IsS131.drew|apply IsS131.set_1)|exact HI358.out));(case side2=>repeat (first|(with_reducible first|exact HB.out|apply below_alloc|apply pw_below_drewN|apply below_drew1|refine below_set ?_ (IsS131.ge HI358.out))|exact HB.out));rintro e w14 ⟨v360,rfl,ho0,hi,hb,hk⟩;refine ⟨_,rfl,?_⟩;have n0_:=Aside0.mk (Kd.N_lower (Kd.N_mono (ok':=fun k_=>(w.heap.size≤k_)∧k_≠g358) ho0 (fun k_ hk_=>⟨(Nat.le_trans (below_size (by repeat (first|(with_reducible first|exact HB.out|apply below_alloc|apply pw_below_drewN|apply below_drew1|refine below_set ?_ (IsS131.ge HI358.out))|exact HB.out))) hk_),(IsS131.fresh (by repeat (first|(with_reducible first|exact HI358.out|apply IsS131.alloc|apply IsS131.drewN|apply IsS131.drew|apply IsS131.set_1)|exact HI358.out)) k_ hk_)⟩)) (below_size (by repeat (first|(with_reducible first|exact HB.out|apply below_alloc|apply pw_below_drewN|apply below_drew1|refine below_set ?_ (IsS131.ge HI358.out))|exact HB.out))));have n1_:=Aside0.mk (hb);have n2_:=Aside0.mk (hi);clear HB;clear HI358;have HO361:=n0_;have HB:=n1_;have HI358:=n2_;clear n0_ n1_ n2_;(try clear hb);(try clear hb2);(try clear hk);(try clear hi);(try clear ho0))|((with_reducible refine gate_callee (f:=83) rfl ?_);refine goesL_ (some 11) rfl rfl Try.func83 (by kernel_rfl) rfl #[.pointer (some ⟨g358,0,none⟩),.int .i64 5] rfl zar ?_;(with_reducible refine (spec_l12Rd_pick.calls g358 t356 t362 5 t363 t364 w _ ?side1 ?side2 A4.out).mono ?_);(case side1=>repeat (first|(with_reducible first|exact HI358.out|apply IsS131.alloc|apply IsS131.drewN|apply IsS131.drew|apply IsS131.set_1)|exact HI358.out));(case side2=>repeat (first|(with_reducible first|exact HB.out|apply below_alloc|apply pw_below_drewN|apply below_drew1|refine below_set ?_ (IsS131.ge HI358.out))|exact HB.out));rintro e w15 ⟨rfl,hi,hb,hk⟩;refine ⟨_,rfl,?_⟩;have n0_:=Aside0.mk (Kd.N_mono (Kd.N_keep (Kd.N_mono (ok:=fun k_=>(((w.heap.size≤k_))∧k_≠g358)) (zN HO361.out) (fun k_ hk_=>(⟨hk_,hk_.2⟩:_∧k_≠g358))) hk (fun _ h=>h.2)) (fun _ h=>h.1));have n1_:=Aside0.mk (hb);have n2_:=Aside0.mk (hi);clear HO361;clear HB;clear HI358;have HO361:=n0_;have HB:=n1_;have HI358:=n2_;clear n0_ n1_ n2_;(try clear hb);(try clear hb2);(try clear hk);(try clear hi))|((with_reducible refine gate_callee (f:=67) rfl ?_);refine goesL_ (some 18) rfl rfl Try.func67 (by kernel_rfl) rfl #[.pointer (some ⟨g358,0,none⟩)] rfl zar ?_;(with_reducible refine (spec_l2Bent.calls k g358 t356 t364 t368 t371 w _ ?side1 ?side2 A12.out).mono ?_);(case side1=>repeat (first|(with_reducible first|exact HI358.out|apply IsS131.alloc|apply IsS131.drewN|apply IsS131.drew|apply IsS131.set_1)|exact HI358.out));(case side2=>repeat (first|(with_reducible first|exact HB.out|apply below_alloc|apply pw_below_drewN|apply below_drew1|refine below_set ?_ (IsS131.ge HI358.out))|exact HB.out));rintro e w16 ⟨v369,rfl,ho0,hi,hb,hk⟩;refine ⟨_,rfl,?_⟩;have n0_:=Aside0.mk (Kd.N_mono (Kd.N_told (Kd.N_oldK (Kd.N_mono (ok:=fun k_=>(((w.heap.size≤k_))∧k_≠g358)) (zN HO361.out) (fun k_ hk_=>(⟨hk_,hk_.2⟩:_∧k_≠g358))) hk) (Kd.N_base ho0)) (fun _ h_=>h_.1));have n1_:=Aside0.mk (Kd.N_lower (Kd.N_mono (ok':=fun k_=>(w.heap.size≤k_)∧some k_≠(v360:Value).ownBlock∧k_≠g358) ho0 (fun k_ hk_=>⟨(Nat.le_trans (below_size (by repeat (first|(with_reducible first|exact HB.out|apply below_alloc|apply pw_below_drewN|apply below_drew1|refine below_set ?_ (IsS131.ge HI358.out))|exact HB.out))) hk_),(Kd.fresh' (Kd.N_lt (zN HO361.out)) k_ hk_),(IsS131.fresh (by repeat (first|(with_reducible first|exact HI358.out|apply IsS131.alloc|apply IsS131.drewN|apply IsS131.drew|apply IsS131.set_1)|exact HI358.out)) k_ hk_)⟩)) (below_size (by repeat (first|(with_reducible first|exact HB.out|apply below_alloc|apply pw_below_drewN|apply below_drew1|refine below_set ?_ (IsS131.ge HI358.out))|exact HB.out))));have n2_:=Aside0.mk (hb);have n3_:=Aside0.mk (hi);clear HO361;clear HB;clear HI358;have HO361:=n0_;have HO370:=n1_;have HB:=n2_;have HI358:=n3_;clear n0_ n1_ n2_ n3_;(try clear hb);(try clear hb2);(try clear hk);(try clear hi);(try clear ho0)))
  go_ret2
  exact ⟨_,_,by first|rfl|(simp [errW_none,errW_some] <;> rfl)|(simp [*,errW_none,errW_some] <;> rfl),by (with_reducible repeat (first|apply Kd.N_alloc|apply Kd.N_drewN|apply Kd.N_drew));exact Kd.N_mono HO361.out (fun _ hk=>⟨hk.1.1,hk.2⟩),by (with_reducible repeat (first|apply Kd.N_alloc|apply Kd.N_drewN|apply Kd.N_drew));exact Kd.N_mono HO370.out (fun _ hk=>⟨hk.1,hk.2.1⟩),by repeat (first|(with_reducible first|exact HB.out|apply below_alloc|apply pw_below_drewN|apply below_drew1|refine below_set ?_ (IsS131.ge HI358.out))|exact HB.out)⟩

/-! ### spec_DrawZAdd: function 33 -/
def spec_DrawZAdd.f (k:Nat) (l0:List Int):Option ((List (S54)) × (List (S54))):=(spec_l2Two.f k l0).bind fun bt372=>(some (bt372.1,bt372.2))
theorem spec_DrawZAdd.mono : ∀ a0 k,LeO (spec_DrawZAdd.f k a0) (spec_DrawZAdd.f (k + 1) a0):=by
 intro a0 k
 unfold spec_DrawZAdd.f
 repeat' first
   | (with_reducible exact spec_l2Two.mono _ _)
   | (with_reducible exact LeO.refl _)
   | (with_reducible exact LeO.none _)
   | (with_reducible refine LeO.ite ?_ ?_)
   | (with_reducible refine LeO.bind ?_ (fun _=>?_))
   | exact LeO.none _
   | refine LeO.ite ?_ ?_
   | refine LeO.bind ?_ (fun _=>?_)
set_option maxHeartbeats 8000000 in
set_option maxRecDepth 100000 in
theorem spec_DrawZAdd.calls (k:Nat) (A0:Option Addr) (c0:Nat) (l0:List Int) (r1:List (S54)) (r2:List (S54)) (w:World) (hr0:Kd.C (Kd.int .u8) w A0 l0.length l0) (hc0:l0.length≤c0) (h:spec_DrawZAdd.f k l0=some (r1,r2)) :
  Calls Try.prog 33 #[.slice A0 l0.length c0] w fun e w'=>∃ v0_ v1_:Value,e=.returned (.tuple #[v0_,v1_])∧Kd.N k54 54 w' w.heap.size (fun k_=>(w.heap.size≤k_)∧some k_≠(v1_:Value).ownBlock) v0_ r1∧Kd.N k54 54 w' w.heap.size (fun k_=>(w.heap.size≤k_)∧some k_≠(v0_:Value).ownBlock) v1_ r2∧Below w.heap.size w w':=by
 have HR0:=Aside0.mk hr0
 have HC0:=Aside0.mk hc0
 clear hr0 hc0
 have HB:=Aside0.mk (Below.refl w.heap.size w)
 have H:((spec_l2Two.f k l0).bind fun bt372=>(some (bt372.1,bt372.2)))=some (r1,r2):=h
 clear h
 replace H:=Option.bind_eq_some_iff.mp H
 obtain ⟨⟨t372,t375⟩,A20,H⟩:=H
 (try dsimp only at H)
 have A2:=Aside0.mk A20
 clear A20
 simp only [Option.some.injEq,Prod.mk.injEq] at H
 obtain ⟨rfl,rfl⟩:=H
 go_enter Try.func33,Try.ntmps33
 go_wp2_with (first|((with_reducible refine gate_callee (f:=77) rfl ?_);refine goesL_ (some 5) rfl rfl Try.func77 (by kernel_rfl) rfl #[.slice A0 l0.length c0] rfl zar ?_;(with_reducible refine (spec_l2Two.calls k _ _ l0 t372 t375 _ ?side1 ?side2 A2.out).mono ?_);(case side1=>exact zC HR0.out);(case side2=>exact HC0.out);rintro e w3 ⟨v373,v376,rfl,ho0,ho1,hb⟩;refine ⟨_,rfl,?_⟩;have n0_:=Aside0.mk (Kd.N_lower (Kd.N_mono (ok':=fun k_=>(w.heap.size≤k_)∧some k_≠(v376:Value).ownBlock) ho0 (fun k_ hk_=>⟨(Nat.le_trans (below_size zhb) hk_.1),hk_.2⟩)) (below_size zhb));have n1_:=Aside0.mk (Kd.N_lower (Kd.N_mono (ok':=fun k_=>(w.heap.size≤k_)∧some k_≠(v373:Value).ownBlock) ho1 (fun k_ hk_=>⟨(Nat.le_trans (below_size zhb) hk_.1),hk_.2⟩)) (below_size zhb));have n2_:=Aside0.mk (below_step zhb hb);clear HB;have HO374:=n0_;have HO377:=n1_;have HB:=n2_;clear n0_ n1_ n2_;(try clear hb);(try clear hb2);(try clear hk);(try clear hi);(try clear ho0);(try clear ho1)))
 go_ret2
 exact ⟨_,_,by first|rfl|(simp [errW_none,errW_some] <;> rfl)|(simp [*,errW_none,errW_some] <;> rfl),by (with_reducible repeat (first|apply Kd.N_alloc|apply Kd.N_drewN|apply Kd.N_drew));exact HO374.out,by (with_reducible repeat (first|apply Kd.N_alloc|apply Kd.N_drewN|apply Kd.N_drew));exact HO377.out,zhb⟩

/-! ### spec_l1Bent: function 85 -/
def spec_l1Bent.f (k:Nat) (s0_0:List Int) (s0_1:Int):Option (List Int × Int):=(spec_l12Rd_pick.f s0_0 s0_1 4).bind fun bt378=>((spec_l1Row.f k s0_0 bt378.2 (wrap64 (1 + bt378.1))).bind fun bt380=>((spec_l12Rd_pick.f s0_0 bt380.2 30).bind fun bt384=>(if bt384.1=0 then (some ((([]:List Int)),bt384.2)) else (if bt384.1=1 then ((spec_l12Rd_num.f s0_0 bt384.2 (([1000000000,1000000001,(-1000000000),(-1000000001)]:List Int))).bind fun bt392=>(if 0 < (bt380.1.length:Int) then (some ((bt380.1.set (0:Int).toNat bt392.1),bt392.2)) else (none))) else (if bt384.1=2 then ((spec_l12Rd_num.f s0_0 bt384.2 (([6,7]:List Int))).bind fun bt398=>((spec_l1Row.f k s0_0 bt398.2 bt398.1).bind fun bt400=>(some (bt400.1,bt400.2)))) else (some (bt380.1,bt384.2)))))))
theorem spec_l1Bent.mono : ∀ a0 a1 k,LeO (spec_l1Bent.f k a0 a1) (spec_l1Bent.f (k + 1) a0 a1):=by
 intro a0 a1 k
 unfold spec_l1Bent.f
 repeat' first
   | (with_reducible exact spec_l1Row.mono _ _ _ _)
   | (with_reducible exact LeO.refl _)
   | (with_reducible exact LeO.none _)
   | (with_reducible refine LeO.ite ?_ ?_)
   | (with_reducible refine LeO.bind ?_ (fun _=>?_))
   | exact LeO.none _
   | refine LeO.ite ?_ ?_
   | refine LeO.bind ?_ (fun _=>?_)
set_option maxHeartbeats 8000000 in
set_option maxRecDepth 100000 in
theorem spec_l1Bent.calls (k:Nat) (g:Nat) (s0_0:List Int) (s0_1:Int) (r1:List Int) (r2:Int) (w0 w:World) (hI:IsS131 w0 w g s0_0 s0_1) (hB:Below w0.heap.size w0 w) (h:spec_l1Bent.f k s0_0 s0_1=some (r1,r2)) :
  Calls Try.prog 85 #[.pointer (some ⟨g,0,none⟩)] w fun e w'=>∃ v0_:Value,e=.returned (v0_)∧Kd.R (Kd.int .i64) 3 w' w.heap.size (fun _=>True) v0_ r1∧IsS131 w0 w' g s0_0 r2∧Below w0.heap.size w0 w'∧KeepBut w w' g none:=by
 have HI0:=Aside0.mk hI
 have HK:=Aside0.mk (KeepBut.refl w g none)
 have HL:=Aside0.mk hB.size
 clear hI
 have HW0:=Aside0.mk hB.size
 have HB:=Aside0.mk hB
 clear hB
 have H:((spec_l12Rd_pick.f s0_0 s0_1 4).bind fun bt378=>((spec_l1Row.f k s0_0 bt378.2 (wrap64 (1 + bt378.1))).bind fun bt380=>((spec_l12Rd_pick.f s0_0 bt380.2 30).bind fun bt384=>(if bt384.1=0 then (some ((([]:List Int)),bt384.2)) else (if bt384.1=1 then ((spec_l12Rd_num.f s0_0 bt384.2 (([1000000000,1000000001,(-1000000000),(-1000000001)]:List Int))).bind fun bt392=>(if 0 < (bt380.1.length:Int) then (some ((bt380.1.set (0:Int).toNat bt392.1),bt392.2)) else (none))) else (if bt384.1=2 then ((spec_l12Rd_num.f s0_0 bt384.2 (([6,7]:List Int))).bind fun bt398=>((spec_l1Row.f k s0_0 bt398.2 bt398.1).bind fun bt400=>(some (bt400.1,bt400.2)))) else (some (bt380.1,bt384.2))))))))=some (r1,r2):=h
 clear h
 replace H:=Option.bind_eq_some_iff.mp H
 obtain ⟨⟨t378,t379⟩,A20,H⟩:=H
 (try dsimp only at H)
 have A2:=Aside0.mk A20
 clear A20
 replace H:=Option.bind_eq_some_iff.mp H
 obtain ⟨⟨t380,t383⟩,A30,H⟩:=H
 (try dsimp only at H)
 have A3:=Aside0.mk A30
 clear A30
 replace H:=Option.bind_eq_some_iff.mp H
 obtain ⟨⟨t384,t385⟩,A40,H⟩:=H
 (try dsimp only at H)
 have A4:=Aside0.mk A40
 clear A40
 by_cases c5:t384=0
 ·rw [if_pos c5] at H
  have c5b0:(t384 == 0)=true:=beq_iff_eq.mpr c5
  have c5b1:(t384 != 0)=false:=bne_eq_false_iff_eq.mpr c5
  clear c5
  obtain ⟨y386,hy386⟩ : ∃ y_:List Int,y_=(([]:List Int)):=⟨_,rfl⟩
  replace H:(some (y386,t385))=some (r1,r2):=by first|(rw [hy386];with_reducible exact H)|(have H2_:=(Option.bind_some _ _).symm.trans H;rw [hy386];with_reducible exact H2_)|(have H2_:=(Option.bind_some _ _).symm.trans H;with_reducible exact H2_)|with_reducible exact H|(rw [hy386];exact H)|exact H
  have Ny386:=Aside0.mk hy386
  clear hy386
  simp only [Option.some.injEq,Prod.mk.injEq] at H
  obtain ⟨rfl,rfl⟩:=H
  go_enter Try.func85,Try.ntmps85
  go_wp2_with (first|((with_reducible refine gate_callee (f:=83) rfl ?_);refine goesL_ (some 6) rfl rfl Try.func83 (by kernel_rfl) rfl #[.pointer (some ⟨g,0,none⟩),.int .i64 4] rfl zar ?_;(with_reducible refine (spec_l12Rd_pick.calls g s0_0 s0_1 4 t378 t379 w0 _ ?side1 ?side2 A2.out).mono ?_);(case side1=>exact zi131);(case side2=>exact zg131);rintro e w6 ⟨rfl,hi,hb,hk⟩;refine ⟨_,rfl,?_⟩;have n0_:=Aside0.mk (KeepBut.trans zhk hk (.inl rfl));have n1_:=Aside0.mk (hb);have n2_:=Aside0.mk (hi);clear HK;clear HB;clear HI0;have HK:=n0_;have HB:=n1_;have HI0:=n2_;clear n0_ n1_ n2_;(try clear hb);(try clear hb2);(try clear hk);(try clear hi))|((with_reducible refine gate_callee (f:=122) rfl ?_);refine goesL_ (some 8) rfl rfl Try.func122 (by kernel_rfl) rfl #[.pointer (some ⟨g,0,none⟩),.int .i64 (wrap64 (1 + t378))] rfl zar ?_;(with_reducible refine (spec_l1Row.calls k g s0_0 t379 (wrap64 (1 + t378)) t380 t383 w0 _ ?side1 ?side2 A3.out).mono ?_);(case side1=>exact zi131);(case side2=>exact zg131);rintro e w7 ⟨v381,rfl,ho0,hi,hb,hk⟩;refine ⟨_,rfl,?_⟩;have n0_:=Aside0.mk (Kd.R_lower ho0 (keep_size (w:=w) (g:=g) (row:=none) zhk));have n1_:=Aside0.mk (KeepBut.trans zhk hk (.inl rfl));have n2_:=Aside0.mk (hb);have n3_:=Aside0.mk (hi);clear HK;clear HB;clear HI0;have HO382:=n0_;have HK:=n1_;have HB:=n2_;have HI0:=n3_;clear n0_ n1_ n2_ n3_;(try clear hb);(try clear hb2);(try clear hk);(try clear hi);(try clear ho0))|((with_reducible refine gate_callee (f:=83) rfl ?_);refine goesL_ (some 10) rfl rfl Try.func83 (by kernel_rfl) rfl #[.pointer (some ⟨g,0,none⟩),.int .i64 30] rfl zar ?_;(with_reducible refine (spec_l12Rd_pick.calls g s0_0 t383 30 t384 t385 w0 _ ?side1 ?side2 A4.out).mono ?_);(case side1=>exact zi131);(case side2=>exact zg131);rintro e w8 ⟨rfl,hi,hb,hk⟩;refine ⟨_,rfl,?_⟩;have n0_:=Aside0.mk (Kd.R_mono (Kd.R_keep (IsS131.apart (show IsS131 w0 _ g s0_0 t383 from zi131) (by (with_reducible repeat (first|apply Kd.R_alloc|apply Kd.R_drewN|apply Kd.R_drew));exact HO382.out) (by decide)) hk (fun _ h=>h.2)) (fun _ h=>h.1));have n1_:=Aside0.mk (KeepBut.trans zhk hk (.inl rfl));have n2_:=Aside0.mk (hb);have n3_:=Aside0.mk (hi);clear HO382;clear HK;clear HB;clear HI0;have HO382:=n0_;have HK:=n1_;have HB:=n2_;have HI0:=n3_;clear n0_ n1_ n2_ n3_;(try clear hb);(try clear hb2);(try clear hk);(try clear hi))|((with_reducible refine gate_dst (N:=13) rfl ?_);refine Kd.R_lit (Kd.int .i64) _ 3 ?hg (N:=13) ?hd (xs:=([]:List Int)) (inner:=[]) (ok:=fun _=>True) (okp:=fun _=>True) ?hr ?hp (fun _ hk=>hk) trivial (Below.refl _ _) (Nat.le_refl _) (by simp) ?_;(case hd=>rfl);(case hg=>rfl);(case hr=>first|(go_simp;done)|(go_simp;rfl));(case hp=>exact (Reps.none _ _));intro v387 w9 ho10 hb hg_ hnew_;clear hg_ hnew_;(first|rw [← Ny386.out] at ho10|(simp only [Int.reduceToNat] at ho10;rw [← Ny386.out] at ho10));have n0_:=Aside0.mk (Kd.R_elder' (by (with_reducible repeat (first|apply Kd.R_alloc|apply Kd.R_drewN|apply Kd.R_drew));exact HO382.out) (Kd.R_base ho10) hb);have n1_:=Aside0.mk (Kd.R_lower (Kd.R_new' ho10 (Kd.R_lt (by (with_reducible repeat (first|apply Kd.R_alloc|apply Kd.R_drewN|apply Kd.R_drew));exact HO382.out))) (keep_size (w:=w) (g:=g) (row:=none) zhk));have n2_:=Aside0.mk (IsS131.below zi131 hb);have n3_:=Aside0.mk (KeepBut.trans zhk (KeepBut.of_below hb g none) (.inl rfl));have n4_:=Aside0.mk (below_step zg131 hb);clear HO382;clear HI0;clear HK;clear HB;have HO382:=n0_;have HO388:=n1_;have HI0:=n2_;have HK:=n3_;have HB:=n4_;clear n0_ n1_ n2_ n3_ n4_;clear hb ho10))
  go_ret
  exact ⟨_,by first|rfl|(simp [errW_none,errW_some] <;> rfl)|(simp [*,errW_none,errW_some] <;> rfl),by (with_reducible repeat (first|apply Kd.R_alloc|apply Kd.R_drewN|apply Kd.R_drew));exact Kd.R_mono HO388.out (fun _ hk=>trivial),zi131,zg131,zhk⟩
 ·rw [if_neg c5] at H
  have c5b0:(t384 == 0)=false:=beq_eq_false_iff_ne.mpr c5
  have c5b1:(t384 != 0)=true:=bne_iff_ne.mpr c5
  by_cases c11:t384=1
  ·rw [if_pos c11] at H
   have c11b0:(t384 == 1)=true:=beq_iff_eq.mpr c11
   have c11b1:(t384 != 1)=false:=bne_eq_false_iff_eq.mpr c11
   clear c11
   obtain ⟨y389,hy389⟩ : ∃ y_:List Int,y_=(([1000000000,1000000001,(-1000000000),(-1000000001)]:List Int)):=⟨_,rfl⟩
   replace H:((spec_l12Rd_num.f s0_0 t385 y389).bind fun bt392=>(if 0 < (t380.length:Int) then (some ((t380.set (0:Int).toNat bt392.1),bt392.2)) else (none)))=some (r1,r2):=by first|(rw [hy389];with_reducible exact H)|(have H2_:=(Option.bind_some _ _).symm.trans H;rw [hy389];with_reducible exact H2_)|(have H2_:=(Option.bind_some _ _).symm.trans H;with_reducible exact H2_)|with_reducible exact H|(rw [hy389];exact H)|exact H
   have Ny389:=Aside0.mk hy389
   clear hy389
   replace H:=Option.bind_eq_some_iff.mp H
   obtain ⟨⟨t392,t393⟩,A120,H⟩:=H
   (try dsimp only at H)
   have A12:=Aside0.mk A120
   clear A120
   by_cases c13:0 < (t380.length:Int)
   ·rw [if_pos c13] at H
    have c13b0:decide (0 < (t380.length:Int))=true:=decide_eq_true c13
    have c13b1:decide (0 < t380.length)=true:=decide_eq_true (by omega)
    clear c13
    obtain ⟨y394,hy394⟩ : ∃ y_:List Int,y_=(t380.set (0:Int).toNat t392):=⟨_,rfl⟩
    replace H:(some (y394,t393))=some (r1,r2):=by first|(rw [hy394];with_reducible exact H)|(have H2_:=(Option.bind_some _ _).symm.trans H;rw [hy394];with_reducible exact H2_)|(have H2_:=(Option.bind_some _ _).symm.trans H;with_reducible exact H2_)|with_reducible exact H|(rw [hy394];exact H)|exact H
    have Ny394:=Aside0.mk hy394
    clear hy394
    simp only [Option.some.injEq,Prod.mk.injEq] at H
    obtain ⟨rfl,rfl⟩:=H
    go_enter Try.func85,Try.ntmps85
    go_wp2_with (first|((with_reducible refine gate_callee (f:=83) rfl ?_);refine goesL_ (some 6) rfl rfl Try.func83 (by kernel_rfl) rfl #[.pointer (some ⟨g,0,none⟩),.int .i64 4] rfl zar ?_;(with_reducible refine (spec_l12Rd_pick.calls g s0_0 s0_1 4 t378 t379 w0 _ ?side1 ?side2 A2.out).mono ?_);(case side1=>exact zi131);(case side2=>exact zg131);rintro e w15 ⟨rfl,hi,hb,hk⟩;refine ⟨_,rfl,?_⟩;have n0_:=Aside0.mk (KeepBut.trans zhk hk (.inl rfl));have n1_:=Aside0.mk (hb);have n2_:=Aside0.mk (hi);clear HK;clear HB;clear HI0;have HK:=n0_;have HB:=n1_;have HI0:=n2_;clear n0_ n1_ n2_;(try clear hb);(try clear hb2);(try clear hk);(try clear hi))|((with_reducible refine gate_callee (f:=122) rfl ?_);refine goesL_ (some 8) rfl rfl Try.func122 (by kernel_rfl) rfl #[.pointer (some ⟨g,0,none⟩),.int .i64 (wrap64 (1 + t378))] rfl zar ?_;(with_reducible refine (spec_l1Row.calls k g s0_0 t379 (wrap64 (1 + t378)) t380 t383 w0 _ ?side1 ?side2 A3.out).mono ?_);(case side1=>exact zi131);(case side2=>exact zg131);rintro e w16 ⟨v381,rfl,ho0,hi,hb,hk⟩;refine ⟨_,rfl,?_⟩;have n0_:=Aside0.mk (Kd.R_lower ho0 (keep_size (w:=w) (g:=g) (row:=none) zhk));have n1_:=Aside0.mk (KeepBut.trans zhk hk (.inl rfl));have n2_:=Aside0.mk (hb);have n3_:=Aside0.mk (hi);clear HK;clear HB;clear HI0;have HO382:=n0_;have HK:=n1_;have HB:=n2_;have HI0:=n3_;clear n0_ n1_ n2_ n3_;(try clear hb);(try clear hb2);(try clear hk);(try clear hi);(try clear ho0))|((with_reducible refine gate_callee (f:=83) rfl ?_);refine goesL_ (some 10) rfl rfl Try.func83 (by kernel_rfl) rfl #[.pointer (some ⟨g,0,none⟩),.int .i64 30] rfl zar ?_;(with_reducible refine (spec_l12Rd_pick.calls g s0_0 t383 30 t384 t385 w0 _ ?side1 ?side2 A4.out).mono ?_);(case side1=>exact zi131);(case side2=>exact zg131);rintro e w17 ⟨rfl,hi,hb,hk⟩;refine ⟨_,rfl,?_⟩;have n0_:=Aside0.mk (Kd.R_mono (Kd.R_keep (IsS131.apart (show IsS131 w0 _ g s0_0 t383 from zi131) (by (with_reducible repeat (first|apply Kd.R_alloc|apply Kd.R_drewN|apply Kd.R_drew));exact HO382.out) (by decide)) hk (fun _ h=>h.2)) (fun _ h=>h.1));have n1_:=Aside0.mk (KeepBut.trans zhk hk (.inl rfl));have n2_:=Aside0.mk (hb);have n3_:=Aside0.mk (hi);clear HO382;clear HK;clear HB;clear HI0;have HO382:=n0_;have HK:=n1_;have HB:=n2_;have HI0:=n3_;clear n0_ n1_ n2_ n3_;(try clear hb);(try clear hb2);(try clear hk);(try clear hi))|((with_reducible refine gate_dst (N:=18) rfl ?_);refine Kd.R_lit (Kd.int .i64) _ 3 ?hg (N:=18) ?hd (xs:=([1000000000,1000000001,(-1000000000),(-1000000001)]:List Int)) (inner:=[.int .i64 1000000000,.int .i64 1000000001,.int .i64 (-1000000000),.int .i64 (-1000000001)]) (ok:=fun _=>True) (okp:=fun _=>True) ?hr ?hp (fun _ hk=>hk) trivial (Below.refl _ _) (Nat.le_refl _) (by simp) ?_;(case hd=>rfl);(case hg=>rfl);(case hr=>first|(go_simp;done)|(go_simp;rfl));(case hp=>exact (Reps.one (show Kd.M (Kd.int .i64) _ _ _ 1000000000 [.int .i64 1000000000] from rfl) (Reps.one (show Kd.M (Kd.int .i64) _ _ _ 1000000001 [.int .i64 1000000001] from rfl) (Reps.one (show Kd.M (Kd.int .i64) _ _ _ (-1000000000) [.int .i64 (-1000000000)] from rfl) (Reps.one (show Kd.M (Kd.int .i64) _ _ _ (-1000000001) [.int .i64 (-1000000001)] from rfl) (Reps.none _ _))))));intro v390 w18 ho19 hb hg_ hnew_;clear hg_ hnew_;(first|rw [← Ny389.out] at ho19|(simp only [Int.reduceToNat] at ho19;rw [← Ny389.out] at ho19));have n0_:=Aside0.mk (Kd.R_elder' (by (with_reducible repeat (first|apply Kd.R_alloc|apply Kd.R_drewN|apply Kd.R_drew));exact HO382.out) (Kd.R_base ho19) hb);have n1_:=Aside0.mk (Kd.R_lower (Kd.R_new' ho19 (Kd.R_lt (by (with_reducible repeat (first|apply Kd.R_alloc|apply Kd.R_drewN|apply Kd.R_drew));exact HO382.out))) (keep_size (w:=w) (g:=g) (row:=none) zhk));have n2_:=Aside0.mk (IsS131.below zi131 hb);have n3_:=Aside0.mk (KeepBut.trans zhk (KeepBut.of_below hb g none) (.inl rfl));have n4_:=Aside0.mk (below_step zg131 hb);clear HO382;clear HI0;clear HK;clear HB;have HO382:=n0_;have HO391:=n1_;have HI0:=n2_;have HK:=n3_;have HB:=n4_;clear n0_ n1_ n2_ n3_ n4_;clear hb ho19;obtain ⟨Ao20,co20,eo20⟩:=Kd.R_slice HO391.out;subst eo20)|((with_reducible refine gate_callee (f:=62) rfl ?_);refine goesL_ (some 19) rfl rfl Try.func62 (by kernel_rfl) rfl #[.pointer (some ⟨g,0,none⟩),.slice Ao20 y389.length co20] rfl zar ?_;(with_reducible refine (spec_l12Rd_num.calls g s0_0 t385 _ _ y389 t392 t393 w0 _ ?side1 ?side2 ?side3 ?side4 ?side5 A12.out).mono ?_);(case side1=>exact zi131);(case side2=>exact zg131);(case side3=>repeat (first|exact (Kd.R_reads' HO391.out).2.2|(with_reducible refine Kd.C_alloc ?_ _)|(with_reducible refine Kd.C_drewN ?_ _)|(with_reducible refine Kd.C_drew ?_)));(case side4=>exact (Kd.R_reads' HO391.out).2.1);(case side5=>exact far_slice (IsS131.own_ne HI0.out HO391.out (by decide)));rintro e w21 ⟨rfl,hi,hb,hk⟩;refine ⟨_,rfl,?_⟩;have n0_:=Aside0.mk (Kd.R_mono (Kd.R_keep (IsS131.apart (show IsS131 w0 _ g s0_0 t385 from zi131) (by (with_reducible repeat (first|apply Kd.R_alloc|apply Kd.R_drewN|apply Kd.R_drew));exact HO382.out) (by decide)) hk (fun _ h=>h.2)) (fun _ h=>h.1));have n1_:=Aside0.mk (Kd.R_mono (Kd.R_keep (IsS131.apart (show IsS131 w0 _ g s0_0 t385 from zi131) (by (with_reducible repeat (first|apply Kd.R_alloc|apply Kd.R_drewN|apply Kd.R_drew));exact HO391.out) (by decide)) hk (fun _ h=>h.2)) (fun _ h=>h.1));have n2_:=Aside0.mk (KeepBut.trans zhk hk (.inl rfl));have n3_:=Aside0.mk (hb);have n4_:=Aside0.mk (hi);clear HO382;clear HO391;clear HK;clear HB;clear HI0;have HO382:=n0_;have HO391:=n1_;have HK:=n2_;have HB:=n3_;have HI0:=n4_;clear n0_ n1_ n2_ n3_ n4_;(try clear hb);(try clear hb2);(try clear hk);(try clear hi);have p14:0≤(0:Int):=(by omega);have q14:(0:Int) < ((t380.length:Int):Int):=zod;have qi14:(0 < t380.length)=True:=eq_true (by omega);obtain ⟨go14,co14,eo14,gb14,gl14,cl14,HG14⟩:=Kd.R_form HO382.out (by omega);(first|cases eo14|(injection eo14 with ea_ en_ ec_;(first|subst ea_|(injection ea_ with ea_;subst ea_));subst ec_;clear en_));have GB14:=Aside0.mk gb14;have GG14:=Aside0.mk HG14;clear gb14 gl14 HG14;obtain ⟨hx14_0,hf14_0⟩:=Kd.R_celln 0 HO382.out (0:Int) p14 q14;(try rw [show ((0:Int)).toNat=0 from rfl] at hx14_0);(try simp only [Nat.reduceMul,Nat.zero_mul,Nat.zero_add,Nat.reduceAdd] at hx14_0);(try rw [show ((0:Int)).toNat=0 from rfl] at hf14_0);(try simp only [Nat.reduceMul,Nat.zero_mul,Nat.zero_add,Nat.reduceAdd] at hf14_0);replace p14:=eq_true p14;replace q14:=eq_true q14;have n_:=Aside0.mk (Kd.R_mono (ok':=(fun k_=>some k_≠(.slice Ao20 y389.length co20:Value).ownBlock)) HO382.out (fun k_ hk=>hk.2));clear HO382;have HO382:=n_;clear n_;obtain ⟨hy22_,hz22_⟩:=Kd.R_celln 0 HO382.out (0:Int) (by omega) (zod);(try simp only [Int.reduceToNat,Int.toNat_zero,Int.toNat_ofNat,Nat.reduceMul,Nat.zero_mul,Nat.zero_add] at hy22_ hz22_);(try rw [show ((0:Int)).toNat=0 from rfl] at hy22_);(try rw [show ((0:Int)).toNat=0 from rfl] at hz22_);have HP22:=Kd.R_putg HO382.out (0:Int) t392)|((with_reducible refine gate_store (t:=3) (p:=20) rfl ?_);refine store_event (t:=3) (p:=20) (v:=?vo_w23) (w1:=(w21.setCell ⟨go14,(0:Int).toNat,none⟩ (.int .i64 t392))) ?hg ?ho ?hn ?hr ?_;(case ho=>rfl);(case hg=>rfl);(case hn=>rfl);(case hr=>first|(go_simp;done)|(go_simp;rfl));intro w23 hw;have hg:w21.grownBy w23 (some go14):=(by rw [hw];exact HP22.2);have hp_:Kd.R (Kd.int .i64) 3 w23 w.heap.size (fun k_=>some k_≠(.slice Ao20 y389.length co20:Value).ownBlock) (.slice (some ⟨go14,0,none⟩) t380.length co14) y394:=(by rw [hw,Ny394.out];exact HP22.1);clear HP22;have n0_:=Aside0.mk (IsS131.grown zi131 hg (IsS131.own_ne HI0.out HO382.out (by decide)));have n1_:=Aside0.mk (hp_);have n2_:=Aside0.mk (Kd.R_after (v:=(.slice (some ⟨go14,0,none⟩) t380.length co14)) (v1:=(.slice (some ⟨go14,0,none⟩) t380.length co14)) (ok:=(fun _=>True)) (by (with_reducible repeat (first|apply Kd.R_alloc|apply Kd.R_drewN|apply Kd.R_drew));exact HO391.out) hg (.inl rfl));have n3_:=Aside0.mk ((by rw [hw];exact below_set (HB.out) (Nat.le_trans HL.out GB14.out):Below w0.heap.size w0 w23));have n4_:=Aside0.mk (KeepBut.trans zhk (KeepBut.of_grown hg g) (Kd.R_base2 HO382.out));clear HI0;clear HO382;clear HO391;clear HB;clear HK;have HI0:=n0_;have HO382:=n1_;have HO391:=n2_;have HB:=n3_;have HK:=n4_;clear n0_ n1_ n2_ n3_ n4_;clear hg hw hp_))
    go_ret
    exact ⟨_,by first|rfl|(simp [errW_none,errW_some] <;> rfl)|(simp [*,errW_none,errW_some] <;> rfl),by (with_reducible repeat (first|apply Kd.R_alloc|apply Kd.R_drewN|apply Kd.R_drew));exact Kd.R_mono HO382.out (fun _ hk=>trivial),zi131,zg131,zhk⟩
   ·rw [if_neg c13] at H
    exact absurd H (by simp)
  ·rw [if_neg c11] at H
   have c11b0:(t384 == 1)=false:=beq_eq_false_iff_ne.mpr c11
   have c11b1:(t384 != 1)=true:=bne_iff_ne.mpr c11
   by_cases c24:t384=2
   ·rw [if_pos c24] at H
    have c24b0:(t384 == 2)=true:=beq_iff_eq.mpr c24
    have c24b1:(t384 != 2)=false:=bne_eq_false_iff_eq.mpr c24
    clear c24
    obtain ⟨y395,hy395⟩ : ∃ y_:List Int,y_=(([6,7]:List Int)):=⟨_,rfl⟩
    replace H:((spec_l12Rd_num.f s0_0 t385 y395).bind fun bt398=>((spec_l1Row.f k s0_0 bt398.2 bt398.1).bind fun bt400=>(some (bt400.1,bt400.2))))=some (r1,r2):=by first|(rw [hy395];with_reducible exact H)|(have H2_:=(Option.bind_some _ _).symm.trans H;rw [hy395];with_reducible exact H2_)|(have H2_:=(Option.bind_some _ _).symm.trans H;with_reducible exact H2_)|with_reducible exact H|(rw [hy395];exact H)|exact H
    have Ny395:=Aside0.mk hy395
    clear hy395
    replace H:=Option.bind_eq_some_iff.mp H
    obtain ⟨⟨t398,t399⟩,A250,H⟩:=H
    (try dsimp only at H)
    have A25:=Aside0.mk A250
    clear A250
    replace H:=Option.bind_eq_some_iff.mp H
    obtain ⟨⟨t400,t403⟩,A260,H⟩:=H
    (try dsimp only at H)
    have A26:=Aside0.mk A260
    clear A260
    simp only [Option.some.injEq,Prod.mk.injEq] at H
    obtain ⟨rfl,rfl⟩:=H
    go_enter Try.func85,Try.ntmps85
    go_wp2_with (first|((with_reducible refine gate_callee (f:=83) rfl ?_);refine goesL_ (some 6) rfl rfl Try.func83 (by kernel_rfl) rfl #[.pointer (some ⟨g,0,none⟩),.int .i64 4] rfl zar ?_;(with_reducible refine (spec_l12Rd_pick.calls g s0_0 s0_1 4 t378 t379 w0 _ ?side1 ?side2 A2.out).mono ?_);(case side1=>exact zi131);(case side2=>exact zg131);rintro e w27 ⟨rfl,hi,hb,hk⟩;refine ⟨_,rfl,?_⟩;have n0_:=Aside0.mk (KeepBut.trans zhk hk (.inl rfl));have n1_:=Aside0.mk (hb);have n2_:=Aside0.mk (hi);clear HK;clear HB;clear HI0;have HK:=n0_;have HB:=n1_;have HI0:=n2_;clear n0_ n1_ n2_;(try clear hb);(try clear hb2);(try clear hk);(try clear hi))|((with_reducible refine gate_callee (f:=122) rfl ?_);refine goesL_ (some 8) rfl rfl Try.func122 (by kernel_rfl) rfl #[.pointer (some ⟨g,0,none⟩),.int .i64 (wrap64 (1 + t378))] rfl zar ?_;(with_reducible refine (spec_l1Row.calls k g s0_0 t379 (wrap64 (1 + t378)) t380 t383 w0 _ ?side1 ?side2 A3.out).mono ?_);(case side1=>exact zi131);(case side2=>exact zg131);rintro e w28 ⟨v381,rfl,ho0,hi,hb,hk⟩;refine ⟨_,rfl,?_⟩;have n0_:=Aside0.mk (Kd.R_lower ho0 (keep_size (w:=w) (g:=g) (row:=none) zhk));have n1_:=Aside0.mk (KeepBut.trans zhk hk (.inl rfl));have n2_:=Aside0.mk (hb);have n3_:=Aside0.mk (hi);clear HK;clear HB;clear HI0;have HO382:=n0_;have HK:=n1_;have HB:=n2_;have HI0:=n3_;clear n0_ n1_ n2_ n3_;(try clear hb);(try clear hb2);(try clear hk);(try clear hi);(try clear ho0))|((with_reducible refine gate_callee (f:=83) rfl ?_);refine goesL_ (some 10) rfl rfl Try.func83 (by kernel_rfl) rfl #[.pointer (some ⟨g,0,none⟩),.int .i64 30] rfl zar ?_;(with_reducible refine (spec_l12Rd_pick.calls g s0_0 t383 30 t384 t385 w0 _ ?side1 ?side2 A4.out).mono ?_);(case side1=>exact zi131);(case side2=>exact zg131);rintro e w29 ⟨rfl,hi,hb,hk⟩;refine ⟨_,rfl,?_⟩;have n0_:=Aside0.mk (Kd.R_mono (Kd.R_keep (IsS131.apart (show IsS131 w0 _ g s0_0 t383 from zi131) (by (with_reducible repeat (first|apply Kd.R_alloc|apply Kd.R_drewN|apply Kd.R_drew));exact HO382.out) (by decide)) hk (fun _ h=>h.2)) (fun _ h=>h.1));have n1_:=Aside0.mk (KeepBut.trans zhk hk (.inl rfl));have n2_:=Aside0.mk (hb);have n3_:=Aside0.mk (hi);clear HO382;clear HK;clear HB;clear HI0;have HO382:=n0_;have HK:=n1_;have HB:=n2_;have HI0:=n3_;clear n0_ n1_ n2_ n3_;(try clear hb);(try clear hb2);(try clear hk);(try clear hi))|((with_reducible refine gate_dst (N:=25) rfl ?_);refine Kd.R_lit (Kd.int .i64) _ 3 ?hg (N:=25) ?hd (xs:=([6,7]:List Int)) (inner:=[.int .i64 6,.int .i64 7]) (ok:=fun _=>True) (okp:=fun _=>True) ?hr ?hp (fun _ hk=>hk) trivial (Below.refl _ _) (Nat.le_refl _) (by simp) ?_;(case hd=>rfl);(case hg=>rfl);(case hr=>first|(go_simp;done)|(go_simp;rfl));(case hp=>exact (Reps.one (show Kd.M (Kd.int .i64) _ _ _ 6 [.int .i64 6] from rfl) (Reps.one (show Kd.M (Kd.int .i64) _ _ _ 7 [.int .i64 7] from rfl) (Reps.none _ _))));intro v396 w30 ho31 hb hg_ hnew_;clear hg_ hnew_;(first|rw [← Ny395.out] at ho31|(simp only [Int.reduceToNat] at ho31;rw [← Ny395.out] at ho31));have n0_:=Aside0.mk (Kd.R_elder' (by (with_reducible repeat (first|apply Kd.R_alloc|apply Kd.R_drewN|apply Kd.R_drew));exact HO382.out) (Kd.R_base ho31) hb);have n1_:=Aside0.mk (Kd.R_lower (Kd.R_new' ho31 (Kd.R_lt (by (with_reducible repeat (first|apply Kd.R_alloc|apply Kd.R_drewN|apply Kd.R_drew));exact HO382.out))) (keep_size (w:=w) (g:=g) (row:=none) zhk));have n2_:=Aside0.mk (IsS131.below zi131 hb);have n3_:=Aside0.mk (KeepBut.trans zhk (KeepBut.of_below hb g none) (.inl rfl));have n4_:=Aside0.mk (below_step zg131 hb);clear HO382;clear HI0;clear HK;clear HB;have HO382:=n0_;have HO397:=n1_;have HI0:=n2_;have HK:=n3_;have HB:=n4_;clear n0_ n1_ n2_ n3_ n4_;clear hb ho31;obtain ⟨Ao32,co32,eo32⟩:=Kd.R_slice HO397.out;subst eo32)|((with_reducible refine gate_callee (f:=62) rfl ?_);refine goesL_ (some 26) rfl rfl Try.func62 (by kernel_rfl) rfl #[.pointer (some ⟨g,0,none⟩),.slice Ao32 y395.length co32] rfl zar ?_;(with_reducible refine (spec_l12Rd_num.calls g s0_0 t385 _ _ y395 t398 t399 w0 _ ?side1 ?side2 ?side3 ?side4 ?side5 A25.out).mono ?_);(case side1=>exact zi131);(case side2=>exact zg131);(case side3=>repeat (first|exact (Kd.R_reads' HO397.out).2.2|(with_reducible refine Kd.C_alloc ?_ _)|(with_reducible refine Kd.C_drewN ?_ _)|(with_reducible refine Kd.C_drew ?_)));(case side4=>exact (Kd.R_reads' HO397.out).2.1);(case side5=>exact far_slice (IsS131.own_ne HI0.out HO397.out (by decide)));rintro e w33 ⟨rfl,hi,hb,hk⟩;refine ⟨_,rfl,?_⟩;have n0_:=Aside0.mk (Kd.R_mono (Kd.R_keep (IsS131.apart (show IsS131 w0 _ g s0_0 t385 from zi131) (by (with_reducible repeat (first|apply Kd.R_alloc|apply Kd.R_drewN|apply Kd.R_drew));exact HO382.out) (by decide)) hk (fun _ h=>h.2)) (fun _ h=>h.1));have n1_:=Aside0.mk (Kd.R_mono (Kd.R_keep (IsS131.apart (show IsS131 w0 _ g s0_0 t385 from zi131) (by (with_reducible repeat (first|apply Kd.R_alloc|apply Kd.R_drewN|apply Kd.R_drew));exact HO397.out) (by decide)) hk (fun _ h=>h.2)) (fun _ h=>h.1));have n2_:=Aside0.mk (KeepBut.trans zhk hk (.inl rfl));have n3_:=Aside0.mk (hb);have n4_:=Aside0.mk (hi);clear HO382;clear HO397;clear HK;clear HB;clear HI0;have HO382:=n0_;have HO397:=n1_;have HK:=n2_;have HB:=n3_;have HI0:=n4_;clear n0_ n1_ n2_ n3_ n4_;(try clear hb);(try clear hb2);(try clear hk);(try clear hi))|((with_reducible refine gate_callee (f:=122) rfl ?_);refine goesL_ (some 27) rfl rfl Try.func122 (by kernel_rfl) rfl #[.pointer (some ⟨g,0,none⟩),.int .i64 t398] rfl zar ?_;(with_reducible refine (spec_l1Row.calls k g s0_0 t399 t398 t400 t403 w0 _ ?side1 ?side2 A26.out).mono ?_);(case side1=>exact zi131);(case side2=>exact zg131);rintro e w34 ⟨v401,rfl,ho0,hi,hb,hk⟩;refine ⟨_,rfl,?_⟩;have n0_:=Aside0.mk (Kd.R_mono (Kd.R_told (Kd.R_oldK (IsS131.apart (show IsS131 w0 _ g s0_0 t399 from zi131) (by (with_reducible repeat (first|apply Kd.R_alloc|apply Kd.R_drewN|apply Kd.R_drew));exact HO382.out) (by decide)) hk) (Kd.R_base ho0)) (fun _ h_=>h_.1));have n1_:=Aside0.mk (Kd.R_mono (Kd.R_told (Kd.R_oldK (IsS131.apart (show IsS131 w0 _ g s0_0 t399 from zi131) (by (with_reducible repeat (first|apply Kd.R_alloc|apply Kd.R_drewN|apply Kd.R_drew));exact HO397.out) (by decide)) hk) (Kd.R_base ho0)) (fun _ h_=>h_.1));have n2_:=Aside0.mk (Kd.R_lower (Kd.R_new' (Kd.R_new' ho0 (Kd.R_lt (by (with_reducible repeat (first|apply Kd.R_alloc|apply Kd.R_drewN|apply Kd.R_drew));exact HO382.out))) (Kd.R_lt (by (with_reducible repeat (first|apply Kd.R_alloc|apply Kd.R_drewN|apply Kd.R_drew));exact HO397.out))) (keep_size (w:=w) (g:=g) (row:=none) zhk));have n3_:=Aside0.mk (KeepBut.trans zhk hk (.inl rfl));have n4_:=Aside0.mk (hb);have n5_:=Aside0.mk (hi);clear HO382;clear HO397;clear HK;clear HB;clear HI0;have HO382:=n0_;have HO397:=n1_;have HO402:=n2_;have HK:=n3_;have HB:=n4_;have HI0:=n5_;clear n0_ n1_ n2_ n3_ n4_ n5_;(try clear hb);(try clear hb2);(try clear hk);(try clear hi);(try clear ho0)))
    go_ret
    exact ⟨_,by first|rfl|(simp [errW_none,errW_some] <;> rfl)|(simp [*,errW_none,errW_some] <;> rfl),by (with_reducible repeat (first|apply Kd.R_alloc|apply Kd.R_drewN|apply Kd.R_drew));exact Kd.R_mono HO402.out (fun _ hk=>trivial),zi131,zg131,zhk⟩
   ·rw [if_neg c24] at H
    have c24b0:(t384 == 2)=false:=beq_eq_false_iff_ne.mpr c24
    have c24b1:(t384 != 2)=true:=bne_iff_ne.mpr c24
    simp only [Option.some.injEq,Prod.mk.injEq] at H
    obtain ⟨rfl,rfl⟩:=H
    go_enter Try.func85,Try.ntmps85
    go_wp2_with (first|((with_reducible refine gate_callee (f:=83) rfl ?_);refine goesL_ (some 6) rfl rfl Try.func83 (by kernel_rfl) rfl #[.pointer (some ⟨g,0,none⟩),.int .i64 4] rfl zar ?_;(with_reducible refine (spec_l12Rd_pick.calls g s0_0 s0_1 4 t378 t379 w0 _ ?side1 ?side2 A2.out).mono ?_);(case side1=>exact zi131);(case side2=>exact zg131);rintro e w35 ⟨rfl,hi,hb,hk⟩;refine ⟨_,rfl,?_⟩;have n0_:=Aside0.mk (KeepBut.trans zhk hk (.inl rfl));have n1_:=Aside0.mk (hb);have n2_:=Aside0.mk (hi);clear HK;clear HB;clear HI0;have HK:=n0_;have HB:=n1_;have HI0:=n2_;clear n0_ n1_ n2_;(try clear hb);(try clear hb2);(try clear hk);(try clear hi))|((with_reducible refine gate_callee (f:=122) rfl ?_);refine goesL_ (some 8) rfl rfl Try.func122 (by kernel_rfl) rfl #[.pointer (some ⟨g,0,none⟩),.int .i64 (wrap64 (1 + t378))] rfl zar ?_;(with_reducible refine (spec_l1Row.calls k g s0_0 t379 (wrap64 (1 + t378)) t380 t383 w0 _ ?side1 ?side2 A3.out).mono ?_);(case side1=>exact zi131);(case side2=>exact zg131);rintro e w36 ⟨v381,rfl,ho0,hi,hb,hk⟩;refine ⟨_,rfl,?_⟩;have n0_:=Aside0.mk (Kd.R_lower ho0 (keep_size (w:=w) (g:=g) (row:=none) zhk));have n1_:=Aside0.mk (KeepBut.trans zhk hk (.inl rfl));have n2_:=Aside0.mk (hb);have n3_:=Aside0.mk (hi);clear HK;clear HB;clear HI0;have HO382:=n0_;have HK:=n1_;have HB:=n2_;have HI0:=n3_;clear n0_ n1_ n2_ n3_;(try clear hb);(try clear hb2);(try clear hk);(try clear hi);(try clear ho0))|((with_reducible refine gate_callee (f:=83) rfl ?_);refine goesL_ (some 10) rfl rfl Try.func83 (by kernel_rfl) rfl #[.pointer (some ⟨g,0,none⟩),.int .i64 30] rfl zar ?_;(with_reducible refine (spec_l12Rd_pick.calls g s0_0 t383 30 t384 t385 w0 _ ?side1 ?side2 A4.out).mono ?_);(case side1=>exact zi131);(case side2=>exact zg131);rintro e w37 ⟨rfl,hi,hb,hk⟩;refine ⟨_,rfl,?_⟩;have n0_:=Aside0.mk (Kd.R_mono (Kd.R_keep (IsS131.apart (show IsS131 w0 _ g s0_0 t383 from zi131) (by (with_reducible repeat (first|apply Kd.R_alloc|apply Kd.R_drewN|apply Kd.R_drew));exact HO382.out) (by decide)) hk (fun _ h=>h.2)) (fun _ h=>h.1));have n1_:=Aside0.mk (KeepBut.trans zhk hk (.inl rfl));have n2_:=Aside0.mk (hb);have n3_:=Aside0.mk (hi);clear HO382;clear HK;clear HB;clear HI0;have HO382:=n0_;have HK:=n1_;have HB:=n2_;have HI0:=n3_;clear n0_ n1_ n2_ n3_;(try clear hb);(try clear hb2);(try clear hk);(try clear hi)))
    go_ret
    exact ⟨_,by first|rfl|(simp [errW_none,errW_some] <;> rfl)|(simp [*,errW_none,errW_some] <;> rfl),by (with_reducible repeat (first|apply Kd.R_alloc|apply Kd.R_drewN|apply Kd.R_drew));exact HO382.out,zi131,zg131,zhk⟩

/-! ### spec_DrawZGet: function 36 -/
def spec_DrawZGet.f (k:Nat) (l0:List Int):Option ((List (S54)) × List Int):=(spec_l12Open.f l0).bind fun bt404=>((spec_l2Bent.f k bt404.1 bt404.2).bind fun bt407=>(if (bt407.1.length:Int) > 0 then ((spec_l12Rd_pick.f bt404.1 bt407.2 3).bind fun bt411=>(if bt411.1 > 0 then ((spec_l12Rd_pick.f bt404.1 bt411.2 (bt407.1.length:Int)).bind fun bt413=>(if 0≤bt413.1 then (if bt413.1 < (bt407.1.length:Int) then ((spec_l1Copy.f ((rd_T54 bt407.1 bt413.1).f0)).bind fun t416=>(some (bt407.1,t416))) else (none)) else (none))) else ((spec_l1Bent.f k bt404.1 bt411.2).bind fun bt419=>(some (bt407.1,bt419.1))))) else ((spec_l1Bent.f k bt404.1 bt407.2).bind fun bt423=>(some (bt407.1,bt423.1)))))
theorem spec_DrawZGet.mono : ∀ a0 k,LeO (spec_DrawZGet.f k a0) (spec_DrawZGet.f (k + 1) a0):=by
 intro a0 k
 unfold spec_DrawZGet.f
 repeat' first
   | (with_reducible exact spec_l1Bent.mono _ _ _)
   | (with_reducible exact spec_l2Bent.mono _ _ _)
   | (with_reducible exact LeO.refl _)
   | (with_reducible exact LeO.none _)
   | (with_reducible refine LeO.ite ?_ ?_)
   | (with_reducible refine LeO.bind ?_ (fun _=>?_))
   | exact LeO.none _
   | refine LeO.ite ?_ ?_
   | refine LeO.bind ?_ (fun _=>?_)
set_option maxHeartbeats 8000000 in
set_option maxRecDepth 100000 in
theorem spec_DrawZGet.calls (k:Nat) (A0:Option Addr) (c0:Nat) (l0:List Int) (r1:List (S54)) (r2:List Int) (w:World) (hr0:Kd.C (Kd.int .u8) w A0 l0.length l0) (hc0:l0.length≤c0) (h:spec_DrawZGet.f k l0=some (r1,r2)) :
  Calls Try.prog 36 #[.slice A0 l0.length c0] w fun e w'=>∃ v0_ v1_:Value,e=.returned (.tuple #[v0_,v1_])∧Kd.N k54 54 w' w.heap.size (fun k_=>(w.heap.size≤k_)∧some k_≠(v1_:Value).ownBlock) v0_ r1∧Kd.R (Kd.int .i64) 3 w' w.heap.size (fun k_=>(w.heap.size≤k_)) v1_ r2∧Below w.heap.size w w':=by
 have HR0:=Aside0.mk hr0
 have HC0:=Aside0.mk hc0
 clear hr0 hc0
 have HB:=Aside0.mk (Below.refl w.heap.size w)
 have H:((spec_l12Open.f l0).bind fun bt404=>((spec_l2Bent.f k bt404.1 bt404.2).bind fun bt407=>(if (bt407.1.length:Int) > 0 then ((spec_l12Rd_pick.f bt404.1 bt407.2 3).bind fun bt411=>(if bt411.1 > 0 then ((spec_l12Rd_pick.f bt404.1 bt411.2 (bt407.1.length:Int)).bind fun bt413=>(if 0≤bt413.1 then (if bt413.1 < (bt407.1.length:Int) then ((spec_l1Copy.f ((rd_T54 bt407.1 bt413.1).f0)).bind fun t416=>(some (bt407.1,t416))) else (none)) else (none))) else ((spec_l1Bent.f k bt404.1 bt411.2).bind fun bt419=>(some (bt407.1,bt419.1))))) else ((spec_l1Bent.f k bt404.1 bt407.2).bind fun bt423=>(some (bt407.1,bt423.1))))))=some (r1,r2):=h
 clear h
 replace H:=Option.bind_eq_some_iff.mp H
 obtain ⟨⟨t404,t405⟩,A20,H⟩:=H
 (try dsimp only at H)
 have A2:=Aside0.mk A20
 clear A20
 replace H:=Option.bind_eq_some_iff.mp H
 obtain ⟨⟨t407,t410⟩,A30,H⟩:=H
 (try dsimp only at H)
 have A3:=Aside0.mk A30
 clear A30
 by_cases c4:(t407.length:Int) > 0
 ·rw [if_pos c4] at H
  have c4b0:decide (0 < (t407.length:Int))=true:=decide_eq_true c4
  have c4b1:decide (0 < t407.length)=true:=decide_eq_true (by omega)
  clear c4
  replace H:=Option.bind_eq_some_iff.mp H
  obtain ⟨⟨t411,t412⟩,A50,H⟩:=H
  (try dsimp only at H)
  have A5:=Aside0.mk A50
  clear A50
  by_cases c6:t411 > 0
  ·rw [if_pos c6] at H
   have c6b0:decide (0 < t411)=true:=decide_eq_true c6
   clear c6
   replace H:=Option.bind_eq_some_iff.mp H
   obtain ⟨⟨t413,t414⟩,A70,H⟩:=H
   (try dsimp only at H)
   have A7:=Aside0.mk A70
   clear A70
   by_cases c8:0≤t413
   ·rw [if_pos c8] at H
    have c8b0:decide (0≤t413)=true:=decide_eq_true c8
    clear c8
    by_cases c9:t413 < (t407.length:Int)
    ·rw [if_pos c9] at H
     have c9b0:decide (t413 < (t407.length:Int))=true:=decide_eq_true c9
     clear c9
     replace H:=Option.bind_eq_some_iff.mp H
     obtain ⟨t416,A100,H⟩:=H
     (try dsimp only at H)
     have A10:=Aside0.mk A100
     clear A100
     simp only [Option.some.injEq,Prod.mk.injEq] at H
     obtain ⟨rfl,rfl⟩:=H
     go_enter Try.func36,Try.ntmps36
     go_wp2_with (first|((with_reducible refine gate_callee (f:=60) rfl ?_);refine goesL_ (some 7) rfl rfl Try.func60 (by kernel_rfl) rfl #[.slice A0 l0.length c0] rfl zar ?_;(with_reducible refine (spec_l12Open.calls _ _ l0 t404 t405 w _ ?side1 ?side2 ?side3 A2.out).mono ?_);(case side1=>exact zhb);(case side2=>exact HR0.out);(case side3=>exact HC0.out);rintro e w11 ⟨g406,rfl,hi,hb,hb2⟩;refine ⟨_,rfl,?_⟩;have n0_:=Aside0.mk (hb);have n1_:=Aside0.mk (hi);clear HB;have HB:=n0_;have HI406:=n1_;clear n0_ n1_;(try clear hb);(try clear hb2);(try clear hk);(try clear hi))|((with_reducible refine gate_callee (f:=67) rfl ?_);refine goesL_ (some 9) rfl rfl Try.func67 (by kernel_rfl) rfl #[.pointer (some ⟨g406,0,none⟩)] rfl zar ?_;(with_reducible refine (spec_l2Bent.calls k g406 t404 t405 t407 t410 w _ ?side1 ?side2 A3.out).mono ?_);(case side1=>repeat (first|(with_reducible first|exact HI406.out|apply IsS131.alloc|apply IsS131.drewN|apply IsS131.drew|apply IsS131.set_1)|exact HI406.out));(case side2=>repeat (first|(with_reducible first|exact HB.out|apply below_alloc|apply pw_below_drewN|apply below_drew1|refine below_set ?_ (IsS131.ge HI406.out))|exact HB.out));rintro e w12 ⟨v408,rfl,ho0,hi,hb,hk⟩;refine ⟨_,rfl,?_⟩;have n0_:=Aside0.mk (Kd.N_lower (Kd.N_mono (ok':=fun k_=>(w.heap.size≤k_)∧k_≠g406) ho0 (fun k_ hk_=>⟨(Nat.le_trans (below_size (by repeat (first|(with_reducible first|exact HB.out|apply below_alloc|apply pw_below_drewN|apply below_drew1|refine below_set ?_ (IsS131.ge HI406.out))|exact HB.out))) hk_),(IsS131.fresh (by repeat (first|(with_reducible first|exact HI406.out|apply IsS131.alloc|apply IsS131.drewN|apply IsS131.drew|apply IsS131.set_1)|exact HI406.out)) k_ hk_)⟩)) (below_size (by repeat (first|(with_reducible first|exact HB.out|apply below_alloc|apply pw_below_drewN|apply below_drew1|refine below_set ?_ (IsS131.ge HI406.out))|exact HB.out))));have n1_:=Aside0.mk (hb);have n2_:=Aside0.mk (hi);clear HB;clear HI406;have HO409:=n0_;have HB:=n1_;have HI406:=n2_;clear n0_ n1_ n2_;(try clear hb);(try clear hb2);(try clear hk);(try clear hi);(try clear ho0);obtain ⟨Ao13,co13,eo13⟩:=Kd.N_slice HO409.out;subst eo13)|(go_at_call 83;(with_reducible refine (spec_l12Rd_pick.calls g406 t404 t410 3 t411 t412 w _ ?side1 ?side2 A5.out).mono ?_);(case side1=>repeat (first|(with_reducible first|exact HI406.out|apply IsS131.alloc|apply IsS131.drewN|apply IsS131.drew|apply IsS131.set_1)|exact HI406.out));(case side2=>repeat (first|(with_reducible first|exact HB.out|apply below_alloc|apply pw_below_drewN|apply below_drew1|refine below_set ?_ (IsS131.ge HI406.out))|exact HB.out));rintro e w14 ⟨rfl,hi,hb,hk⟩;have n0_:=Aside0.mk (Kd.N_mono (Kd.N_keep (Kd.N_mono (ok:=fun k_=>(((w.heap.size≤k_))∧k_≠g406)) (zN HO409.out) (fun k_ hk_=>(⟨hk_,hk_.2⟩:_∧k_≠g406))) hk (fun _ h=>h.2)) (fun _ h=>h.1));have n1_:=Aside0.mk (hb);have n2_:=Aside0.mk (hi);clear HO409;clear HB;clear HI406;have HO409:=n0_;have HB:=n1_;have HI406:=n2_;clear n0_ n1_ n2_;(try clear hb);(try clear hb2);(try clear hk);(try clear hi))|((with_reducible refine gate_callee (f:=83) rfl ?_);refine goesL_ (some 23) rfl rfl Try.func83 (by kernel_rfl) rfl #[.pointer (some ⟨g406,0,none⟩),.int .i64 (t407.length:Int)] rfl zar ?_;(with_reducible refine (spec_l12Rd_pick.calls g406 t404 t412 (t407.length:Int) t413 t414 w _ ?side1 ?side2 A7.out).mono ?_);(case side1=>repeat (first|(with_reducible first|exact HI406.out|apply IsS131.alloc|apply IsS131.drewN|apply IsS131.drew|apply IsS131.set_1)|exact HI406.out));(case side2=>repeat (first|(with_reducible first|exact HB.out|apply below_alloc|apply pw_below_drewN|apply below_drew1|refine below_set ?_ (IsS131.ge HI406.out))|exact HB.out));rintro e w15 ⟨rfl,hi,hb,hk⟩;refine ⟨_,rfl,?_⟩;have n0_:=Aside0.mk (Kd.N_mono (Kd.N_keep (Kd.N_mono (ok:=fun k_=>(((w.heap.size≤k_))∧k_≠g406)) (zN HO409.out) (fun k_ hk_=>(⟨hk_,hk_.2⟩:_∧k_≠g406))) hk (fun _ h=>h.2)) (fun _ h=>h.1));have n1_:=Aside0.mk (hb);have n2_:=Aside0.mk (hi);clear HO409;clear HB;clear HI406;have HO409:=n0_;have HB:=n1_;have HI406:=n2_;clear n0_ n1_ n2_;(try clear hb);(try clear hb2);(try clear hk);(try clear hi);have p415:0≤(t413:Int):=zod;have q415:t413 < (t407.length:Int):=zod;obtain ⟨ad415,A415_0,c415_0,e415,hx415_0,hx415_1,hl415_0,hi415_0⟩:=at_T54 (Kd.N_reads' HO409.out).2.2 t413 p415 q415;cases e415;obtain ⟨ce415,hce415,hMe415,hcc415⟩:=Kd.N_get HO409.out z54 t413 p415 (by first|exact q415|exact zod|(have e_:=(Kd.N_reads' HO409.out).1;omega));obtain ⟨ua415_0,uc415_0,rfl,ul415_0,ge415_0⟩:=k54_openF hMe415;have hv415_0:=hcc415 0 _ rfl;rw [Nat.add_zero] at hv415_0;replace hv415_0:=Option.some.inj (hv415_0.symm.trans hx415_0);injection hv415_0 with hva_ hvn_ hvc_;rw [hva_] at ge415_0;rw [hvc_] at ul415_0;have HL415_0:=Aside0.mk (show Kd.V (Kd.int .i64) 3 _ w.heap.size _ _ ((rd_T54 t407 t413).f0) from Kd.V_mk ul415_0 ge415_0);clear hva_ hvn_ hvc_ ge415_0 ul415_0;clear hcc415 hce415;have HR415_0:=Aside0.mk hi415_0;have HC415_0:=Aside0.mk hl415_0;clear hi415_0 hl415_0;replace p415:=eq_true p415;replace q415:=eq_true q415)|((with_reducible refine gate_callee (f:=84) rfl ?_);refine goesL_ (some 27) rfl rfl Try.func84 (by kernel_rfl) rfl #[.slice A415_0 ((rd_T54 t407 t413).f0).length c415_0] rfl zar ?_;(with_reducible refine (spec_l1Copy.calls _ _ ((rd_T54 t407 t413).f0) t416 _ ?side1 ?side2 A10.out).mono ?_);(case side1=>exact zC (zC HR415_0.out));(case side2=>exact HC415_0.out);rintro e w16 ⟨v417,rfl,ho0,hb⟩;refine ⟨_,rfl,?_⟩;have n0_:=Aside0.mk (Kd.N_elder' (zN HO409.out) (Kd.R_base ho0) hb);have n1_:=Aside0.mk (Kd.V_elder' (zV HL415_0.out) (Kd.R_base ho0) hb);have n2_:=Aside0.mk (Kd.R_lower (Kd.R_newM (M:=fun k_=>(w.heap.size≤k_)) ho0 (below_size (by repeat (first|(with_reducible first|exact HB.out|apply below_alloc|apply pw_below_drewN|apply below_drew1|refine below_set ?_ (IsS131.ge HI406.out))|exact HB.out))) (fun k_ h_=>h_)) (below_size (by repeat (first|(with_reducible first|exact HB.out|apply below_alloc|apply pw_below_drewN|apply below_drew1|refine below_set ?_ (IsS131.ge HI406.out))|exact HB.out))));have n3_:=Aside0.mk (IsS131.below (by repeat (first|(with_reducible first|exact HI406.out|apply IsS131.alloc|apply IsS131.drewN|apply IsS131.drew|apply IsS131.set_1)|exact HI406.out)) hb);have n4_:=Aside0.mk (Kd.C_below (zC HR415_0.out) hb);have n5_:=Aside0.mk (below_step (by repeat (first|(with_reducible first|exact HB.out|apply below_alloc|apply pw_below_drewN|apply below_drew1|refine below_set ?_ (IsS131.ge HI406.out))|exact HB.out)) hb);clear HO409;clear HL415_0;clear HI406;clear HR415_0;clear HB;have HO409:=n0_;have HL415_0:=n1_;have HO418:=n2_;have HI406:=n3_;have HR415_0:=n4_;have HB:=n5_;clear n0_ n1_ n2_ n3_ n4_ n5_;(try clear hb);(try clear hb2);(try clear hk);(try clear hi);(try clear ho0)))
     go_ret2
     exact ⟨_,_,by first|rfl|(simp [errW_none,errW_some] <;> rfl)|(simp [*,errW_none,errW_some] <;> rfl),by (with_reducible repeat (first|apply Kd.N_alloc|apply Kd.N_drewN|apply Kd.N_drew));exact Kd.N_mono HO409.out (fun _ hk=>⟨hk.1.1,hk.2⟩),by (with_reducible repeat (first|apply Kd.R_alloc|apply Kd.R_drewN|apply Kd.R_drew));exact Kd.R_mono HO418.out (fun _ hk=>hk.1),by repeat (first|(with_reducible first|exact HB.out|apply below_alloc|apply pw_below_drewN|apply below_drew1|refine below_set ?_ (IsS131.ge HI406.out))|exact HB.out)⟩
    ·rw [if_neg c9] at H
     exact absurd H (by simp)
   ·rw [if_neg c8] at H
    exact absurd H (by simp)
  ·rw [if_neg c6] at H
   have c6b0:decide (0 < t411)=false:=decide_eq_false c6
   clear c6
   replace H:=Option.bind_eq_some_iff.mp H
   obtain ⟨⟨t419,t422⟩,A170,H⟩:=H
   (try dsimp only at H)
   have A17:=Aside0.mk A170
   clear A170
   simp only [Option.some.injEq,Prod.mk.injEq] at H
   obtain ⟨rfl,rfl⟩:=H
   go_enter Try.func36,Try.ntmps36
   go_wp2_with (first|((with_reducible refine gate_callee (f:=60) rfl ?_);refine goesL_ (some 7) rfl rfl Try.func60 (by kernel_rfl) rfl #[.slice A0 l0.length c0] rfl zar ?_;(with_reducible refine (spec_l12Open.calls _ _ l0 t404 t405 w _ ?side1 ?side2 ?side3 A2.out).mono ?_);(case side1=>exact zhb);(case side2=>exact HR0.out);(case side3=>exact HC0.out);rintro e w18 ⟨g406,rfl,hi,hb,hb2⟩;refine ⟨_,rfl,?_⟩;have n0_:=Aside0.mk (hb);have n1_:=Aside0.mk (hi);clear HB;have HB:=n0_;have HI406:=n1_;clear n0_ n1_;(try clear hb);(try clear hb2);(try clear hk);(try clear hi))|((with_reducible refine gate_callee (f:=67) rfl ?_);refine goesL_ (some 9) rfl rfl Try.func67 (by kernel_rfl) rfl #[.pointer (some ⟨g406,0,none⟩)] rfl zar ?_;(with_reducible refine (spec_l2Bent.calls k g406 t404 t405 t407 t410 w _ ?side1 ?side2 A3.out).mono ?_);(case side1=>repeat (first|(with_reducible first|exact HI406.out|apply IsS131.alloc|apply IsS131.drewN|apply IsS131.drew|apply IsS131.set_1)|exact HI406.out));(case side2=>repeat (first|(with_reducible first|exact HB.out|apply below_alloc|apply pw_below_drewN|apply below_drew1|refine below_set ?_ (IsS131.ge HI406.out))|exact HB.out));rintro e w19 ⟨v408,rfl,ho0,hi,hb,hk⟩;refine ⟨_,rfl,?_⟩;have n0_:=Aside0.mk (Kd.N_lower (Kd.N_mono (ok':=fun k_=>(w.heap.size≤k_)∧k_≠g406) ho0 (fun k_ hk_=>⟨(Nat.le_trans (below_size (by repeat (first|(with_reducible first|exact HB.out|apply below_alloc|apply pw_below_drewN|apply below_drew1|refine below_set ?_ (IsS131.ge HI406.out))|exact HB.out))) hk_),(IsS131.fresh (by repeat (first|(with_reducible first|exact HI406.out|apply IsS131.alloc|apply IsS131.drewN|apply IsS131.drew|apply IsS131.set_1)|exact HI406.out)) k_ hk_)⟩)) (below_size (by repeat (first|(with_reducible first|exact HB.out|apply below_alloc|apply pw_below_drewN|apply below_drew1|refine below_set ?_ (IsS131.ge HI406.out))|exact HB.out))));have n1_:=Aside0.mk (hb);have n2_:=Aside0.mk (hi);clear HB;clear HI406;have HO409:=n0_;have HB:=n1_;have HI406:=n2_;clear n0_ n1_ n2_;(try clear hb);(try clear hb2);(try clear hk);(try clear hi);(try clear ho0);obtain ⟨Ao20,co20,eo20⟩:=Kd.N_slice HO409.out;subst eo20)|(go_at_call 83;(with_reducible refine (spec_l12Rd_pick.calls g406 t404 t410 3 t411 t412 w _ ?side1 ?side2 A5.out).mono ?_);(case side1=>repeat (first|(with_reducible first|exact HI406.out|apply IsS131.alloc|apply IsS131.drewN|apply IsS131.drew|apply IsS131.set_1)|exact HI406.out));(case side2=>repeat (first|(with_reducible first|exact HB.out|apply below_alloc|apply pw_below_drewN|apply below_drew1|refine below_set ?_ (IsS131.ge HI406.out))|exact HB.out));rintro e w21 ⟨rfl,hi,hb,hk⟩;have n0_:=Aside0.mk (Kd.N_mono (Kd.N_keep (Kd.N_mono (ok:=fun k_=>(((w.heap.size≤k_))∧k_≠g406)) (zN HO409.out) (fun k_ hk_=>(⟨hk_,hk_.2⟩:_∧k_≠g406))) hk (fun _ h=>h.2)) (fun _ h=>h.1));have n1_:=Aside0.mk (hb);have n2_:=Aside0.mk (hi);clear HO409;clear HB;clear HI406;have HO409:=n0_;have HB:=n1_;have HI406:=n2_;clear n0_ n1_ n2_;(try clear hb);(try clear hb2);(try clear hk);(try clear hi))|((with_reducible refine gate_callee (f:=85) rfl ?_);refine goesL_ (some 30) rfl rfl Try.func85 (by kernel_rfl) rfl #[.pointer (some ⟨g406,0,none⟩)] rfl zar ?_;(with_reducible refine (spec_l1Bent.calls k g406 t404 t412 t419 t422 w _ ?side1 ?side2 A17.out).mono ?_);(case side1=>repeat (first|(with_reducible first|exact HI406.out|apply IsS131.alloc|apply IsS131.drewN|apply IsS131.drew|apply IsS131.set_1)|exact HI406.out));(case side2=>repeat (first|(with_reducible first|exact HB.out|apply below_alloc|apply pw_below_drewN|apply below_drew1|refine below_set ?_ (IsS131.ge HI406.out))|exact HB.out));rintro e w22 ⟨v420,rfl,ho0,hi,hb,hk⟩;refine ⟨_,rfl,?_⟩;have n0_:=Aside0.mk (Kd.N_mono (Kd.N_told (Kd.N_oldK (Kd.N_mono (ok:=fun k_=>(((w.heap.size≤k_))∧k_≠g406)) (zN HO409.out) (fun k_ hk_=>(⟨hk_,hk_.2⟩:_∧k_≠g406))) hk) (Kd.R_base ho0)) (fun _ h_=>h_.1));have n1_:=Aside0.mk (Kd.R_lower (Kd.R_newM (M:=fun k_=>(w.heap.size≤k_)) ho0 (below_size (by repeat (first|(with_reducible first|exact HB.out|apply below_alloc|apply pw_below_drewN|apply below_drew1|refine below_set ?_ (IsS131.ge HI406.out))|exact HB.out))) (fun k_ h_=>h_)) (below_size (by repeat (first|(with_reducible first|exact HB.out|apply below_alloc|apply pw_below_drewN|apply below_drew1|refine below_set ?_ (IsS131.ge HI406.out))|exact HB.out))));have n2_:=Aside0.mk (hb);have n3_:=Aside0.mk (hi);clear HO409;clear HB;clear HI406;have HO409:=n0_;have HO421:=n1_;have HB:=n2_;have HI406:=n3_;clear n0_ n1_ n2_ n3_;(try clear hb);(try clear hb2);(try clear hk);(try clear hi);(try clear ho0)))
   go_ret2
   exact ⟨_,_,by first|rfl|(simp [errW_none,errW_some] <;> rfl)|(simp [*,errW_none,errW_some] <;> rfl),by (with_reducible repeat (first|apply Kd.N_alloc|apply Kd.N_drewN|apply Kd.N_drew));exact Kd.N_mono HO409.out (fun _ hk=>⟨hk.1.1,hk.2⟩),by (with_reducible repeat (first|apply Kd.R_alloc|apply Kd.R_drewN|apply Kd.R_drew));exact Kd.R_mono HO421.out (fun _ hk=>hk.1),by repeat (first|(with_reducible first|exact HB.out|apply below_alloc|apply pw_below_drewN|apply below_drew1|refine below_set ?_ (IsS131.ge HI406.out))|exact HB.out)⟩
 ·rw [if_neg c4] at H
  have c4b0:decide (0 < (t407.length:Int))=false:=decide_eq_false c4
  have c4b1:decide (0 < t407.length)=false:=decide_eq_false (by omega)
  clear c4
  replace H:=Option.bind_eq_some_iff.mp H
  obtain ⟨⟨t423,t426⟩,A230,H⟩:=H
  (try dsimp only at H)
  have A23:=Aside0.mk A230
  clear A230
  simp only [Option.some.injEq,Prod.mk.injEq] at H
  obtain ⟨rfl,rfl⟩:=H
  go_enter Try.func36,Try.ntmps36
  go_wp2_with (first|((with_reducible refine gate_callee (f:=60) rfl ?_);refine goesL_ (some 7) rfl rfl Try.func60 (by kernel_rfl) rfl #[.slice A0 l0.length c0] rfl zar ?_;(with_reducible refine (spec_l12Open.calls _ _ l0 t404 t405 w _ ?side1 ?side2 ?side3 A2.out).mono ?_);(case side1=>exact zhb);(case side2=>exact HR0.out);(case side3=>exact HC0.out);rintro e w24 ⟨g406,rfl,hi,hb,hb2⟩;refine ⟨_,rfl,?_⟩;have n0_:=Aside0.mk (hb);have n1_:=Aside0.mk (hi);clear HB;have HB:=n0_;have HI406:=n1_;clear n0_ n1_;(try clear hb);(try clear hb2);(try clear hk);(try clear hi))|((with_reducible refine gate_callee (f:=67) rfl ?_);refine goesL_ (some 9) rfl rfl Try.func67 (by kernel_rfl) rfl #[.pointer (some ⟨g406,0,none⟩)] rfl zar ?_;(with_reducible refine (spec_l2Bent.calls k g406 t404 t405 t407 t410 w _ ?side1 ?side2 A3.out).mono ?_);(case side1=>repeat (first|(with_reducible first|exact HI406.out|apply IsS131.alloc|apply IsS131.drewN|apply IsS131.drew|apply IsS131.set_1)|exact HI406.out));(case side2=>repeat (first|(with_reducible first|exact HB.out|apply below_alloc|apply pw_below_drewN|apply below_drew1|refine below_set ?_ (IsS131.ge HI406.out))|exact HB.out));rintro e w25 ⟨v408,rfl,ho0,hi,hb,hk⟩;refine ⟨_,rfl,?_⟩;have n0_:=Aside0.mk (Kd.N_lower (Kd.N_mono (ok':=fun k_=>(w.heap.size≤k_)∧k_≠g406) ho0 (fun k_ hk_=>⟨(Nat.le_trans (below_size (by repeat (first|(with_reducible first|exact HB.out|apply below_alloc|apply pw_below_drewN|apply below_drew1|refine below_set ?_ (IsS131.ge HI406.out))|exact HB.out))) hk_),(IsS131.fresh (by repeat (first|(with_reducible first|exact HI406.out|apply IsS131.alloc|apply IsS131.drewN|apply IsS131.drew|apply IsS131.set_1)|exact HI406.out)) k_ hk_)⟩)) (below_size (by repeat (first|(with_reducible first|exact HB.out|apply below_alloc|apply pw_below_drewN|apply below_drew1|refine below_set ?_ (IsS131.ge HI406.out))|exact HB.out))));have n1_:=Aside0.mk (hb);have n2_:=Aside0.mk (hi);clear HB;clear HI406;have HO409:=n0_;have HB:=n1_;have HI406:=n2_;clear n0_ n1_ n2_;(try clear hb);(try clear hb2);(try clear hk);(try clear hi);(try clear ho0);obtain ⟨Ao26,co26,eo26⟩:=Kd.N_slice HO409.out;subst eo26)|((with_reducible refine gate_callee (f:=85) rfl ?_);refine goesL_ (some 30) rfl rfl Try.func85 (by kernel_rfl) rfl #[.pointer (some ⟨g406,0,none⟩)] rfl zar ?_;(with_reducible refine (spec_l1Bent.calls k g406 t404 t410 t423 t426 w _ ?side1 ?side2 A23.out).mono ?_);(case side1=>repeat (first|(with_reducible first|exact HI406.out|apply IsS131.alloc|apply IsS131.drewN|apply IsS131.drew|apply IsS131.set_1)|exact HI406.out));(case side2=>repeat (first|(with_reducible first|exact HB.out|apply below_alloc|apply pw_below_drewN|apply below_drew1|refine below_set ?_ (IsS131.ge HI406.out))|exact HB.out));rintro e w27 ⟨v424,rfl,ho0,hi,hb,hk⟩;refine ⟨_,rfl,?_⟩;have n0_:=Aside0.mk (Kd.N_mono (Kd.N_told (Kd.N_oldK (Kd.N_mono (ok:=fun k_=>(((w.heap.size≤k_))∧k_≠g406)) (zN HO409.out) (fun k_ hk_=>(⟨hk_,hk_.2⟩:_∧k_≠g406))) hk) (Kd.R_base ho0)) (fun _ h_=>h_.1));have n1_:=Aside0.mk (Kd.R_lower (Kd.R_newM (M:=fun k_=>(w.heap.size≤k_)) ho0 (below_size (by repeat (first|(with_reducible first|exact HB.out|apply below_alloc|apply pw_below_drewN|apply below_drew1|refine below_set ?_ (IsS131.ge HI406.out))|exact HB.out))) (fun k_ h_=>h_)) (below_size (by repeat (first|(with_reducible first|exact HB.out|apply below_alloc|apply pw_below_drewN|apply below_drew1|refine below_set ?_ (IsS131.ge HI406.out))|exact HB.out))));have n2_:=Aside0.mk (hb);have n3_:=Aside0.mk (hi);clear HO409;clear HB;clear HI406;have HO409:=n0_;have HO425:=n1_;have HB:=n2_;have HI406:=n3_;clear n0_ n1_ n2_ n3_;(try clear hb);(try clear hb2);(try clear hk);(try clear hi);(try clear ho0)))
  go_ret2
  exact ⟨_,_,by first|rfl|(simp [errW_none,errW_some] <;> rfl)|(simp [*,errW_none,errW_some] <;> rfl),by (with_reducible repeat (first|apply Kd.N_alloc|apply Kd.N_drewN|apply Kd.N_drew));exact Kd.N_mono HO409.out (fun _ hk=>⟨hk.1.1,hk.2⟩),by (with_reducible repeat (first|apply Kd.R_alloc|apply Kd.R_drewN|apply Kd.R_drew));exact Kd.R_mono HO425.out (fun _ hk=>hk.1),by repeat (first|(with_reducible first|exact HB.out|apply below_alloc|apply pw_below_drewN|apply below_drew1|refine below_set ?_ (IsS131.ge HI406.out))|exact HB.out)⟩

/-! ### spec_DrawZOk: function 37 -/
def spec_DrawZOk.f (k:Nat) (l0:List Int):Option ((List (S54))):=(spec_l12Open.f l0).bind fun bt427=>((spec_l2Bent.f k bt427.1 bt427.2).bind fun bt430=>(some bt430.1))
theorem spec_DrawZOk.mono : ∀ a0 k,LeO (spec_DrawZOk.f k a0) (spec_DrawZOk.f (k + 1) a0):=by
 intro a0 k
 unfold spec_DrawZOk.f
 repeat' first
   | (with_reducible exact spec_l2Bent.mono _ _ _)
   | (with_reducible exact LeO.refl _)
   | (with_reducible exact LeO.none _)
   | (with_reducible refine LeO.ite ?_ ?_)
   | (with_reducible refine LeO.bind ?_ (fun _=>?_))
   | exact LeO.none _
   | refine LeO.ite ?_ ?_
   | refine LeO.bind ?_ (fun _=>?_)
set_option maxHeartbeats 8000000 in
set_option maxRecDepth 100000 in
theorem spec_DrawZOk.calls (k:Nat) (A0:Option Addr) (c0:Nat) (l0:List Int) (r:List (S54)) (w:World) (hr0:Kd.C (Kd.int .u8) w A0 l0.length l0) (hc0:l0.length≤c0) (h:spec_DrawZOk.f k l0=some r) :
  Calls Try.prog 37 #[.slice A0 l0.length c0] w fun e w'=>∃ v0_:Value,e=.returned (v0_)∧Kd.N k54 54 w' w.heap.size (fun k_=>(w.heap.size≤k_)) v0_ r∧Below w.heap.size w w':=by
 have HR0:=Aside0.mk hr0
 have HC0:=Aside0.mk hc0
 clear hr0 hc0
 have HB:=Aside0.mk (Below.refl w.heap.size w)
 have H:((spec_l12Open.f l0).bind fun bt427=>((spec_l2Bent.f k bt427.1 bt427.2).bind fun bt430=>(some bt430.1)))=some r:=h
 clear h
 replace H:=Option.bind_eq_some_iff.mp H
 obtain ⟨⟨t427,t428⟩,A20,H⟩:=H
 (try dsimp only at H)
 have A2:=Aside0.mk A20
 clear A20
 replace H:=Option.bind_eq_some_iff.mp H
 obtain ⟨⟨t430,t433⟩,A30,H⟩:=H
 (try dsimp only at H)
 have A3:=Aside0.mk A30
 clear A30
 obtain rfl:=Option.some.inj H
 go_enter Try.func37,Try.ntmps37
 go_wp2_with (first|((with_reducible refine gate_callee (f:=60) rfl ?_);refine goesL_ (some 4) rfl rfl Try.func60 (by kernel_rfl) rfl #[.slice A0 l0.length c0] rfl zar ?_;(with_reducible refine (spec_l12Open.calls _ _ l0 t427 t428 w _ ?side1 ?side2 ?side3 A2.out).mono ?_);(case side1=>exact zhb);(case side2=>exact HR0.out);(case side3=>exact HC0.out);rintro e w4 ⟨g429,rfl,hi,hb,hb2⟩;refine ⟨_,rfl,?_⟩;have n0_:=Aside0.mk (hb);have n1_:=Aside0.mk (hi);clear HB;have HB:=n0_;have HI429:=n1_;clear n0_ n1_;(try clear hb);(try clear hb2);(try clear hk);(try clear hi))|((with_reducible refine gate_callee (f:=67) rfl ?_);refine goesL_ (some 5) rfl rfl Try.func67 (by kernel_rfl) rfl #[.pointer (some ⟨g429,0,none⟩)] rfl zar ?_;(with_reducible refine (spec_l2Bent.calls k g429 t427 t428 t430 t433 w _ ?side1 ?side2 A3.out).mono ?_);(case side1=>repeat (first|(with_reducible first|exact HI429.out|apply IsS131.alloc|apply IsS131.drewN|apply IsS131.drew|apply IsS131.set_1)|exact HI429.out));(case side2=>repeat (first|(with_reducible first|exact HB.out|apply below_alloc|apply pw_below_drewN|apply below_drew1|refine below_set ?_ (IsS131.ge HI429.out))|exact HB.out));rintro e w5 ⟨v431,rfl,ho0,hi,hb,hk⟩;refine ⟨_,rfl,?_⟩;have n0_:=Aside0.mk (Kd.N_lower (Kd.N_mono (ok':=fun k_=>(w.heap.size≤k_)∧k_≠g429) ho0 (fun k_ hk_=>⟨(Nat.le_trans (below_size (by repeat (first|(with_reducible first|exact HB.out|apply below_alloc|apply pw_below_drewN|apply below_drew1|refine below_set ?_ (IsS131.ge HI429.out))|exact HB.out))) hk_),(IsS131.fresh (by repeat (first|(with_reducible first|exact HI429.out|apply IsS131.alloc|apply IsS131.drewN|apply IsS131.drew|apply IsS131.set_1)|exact HI429.out)) k_ hk_)⟩)) (below_size (by repeat (first|(with_reducible first|exact HB.out|apply below_alloc|apply pw_below_drewN|apply below_drew1|refine below_set ?_ (IsS131.ge HI429.out))|exact HB.out))));have n1_:=Aside0.mk (hb);have n2_:=Aside0.mk (hi);clear HB;clear HI429;have HO432:=n0_;have HB:=n1_;have HI429:=n2_;clear n0_ n1_ n2_;(try clear hb);(try clear hb2);(try clear hk);(try clear hi);(try clear ho0)))
 go_ret
 exact ⟨_,by first|rfl|(simp [errW_none,errW_some] <;> rfl)|(simp [*,errW_none,errW_some] <;> rfl),by (with_reducible repeat (first|apply Kd.N_alloc|apply Kd.N_drewN|apply Kd.N_drew));exact Kd.N_mono HO432.out (fun _ hk=>hk.1),by repeat (first|(with_reducible first|exact HB.out|apply below_alloc|apply pw_below_drewN|apply below_drew1|refine below_set ?_ (IsS131.ge HI429.out))|exact HB.out)⟩

end Go.Proofs.Ytaifnkapbffmaaa.PFnZ
