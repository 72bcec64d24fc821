-- Written by wip/tools/pp.py, a program of this session over the kit's printer: not the kit's own print
import Derived.Test.YtgcplipimcbhlaaDoorPFnZOrderx0
import Derived.Test.YtgcplipimcbhlaaDoorPFnZOrderx1
import Derived.Test.YtgcplipimcbhlaaDoorPFnZOrderx2
import Derived.Test.YtgcplipimcbhlaaDoorPFnZOrderx3
namespace Go.Proofs.YtgcplipimcbhlaaDoor.PFnZOrder
open Go.RowKit Go.Proofs.YtgcplipimcbhlaaDoorW.PrintWords Go.Proofs.YtgcplipimcbhlaaDoorW.PrintLast Go.Proofs.YtgcplipimcbhlaaDoorW.PrintMore
attribute [local go_sem] max2_int min2_int max_two min_two max_three min_three max_four min_four   -- for this text's walks alone
set_option linter.unusedVariables false
set_option linter.unusedSimpArgs false

/-! ### spec_l2Z: function 103 -/
def spec_l2Z.l0:Nat→Int→List (S53)→Int→List Int→Int→Option ((List (S53)) × Int)
 | 0,_,_,_,_,_=>none
 | k + 1,x1,x7,x8,x1000,x1001=>if x8 > 0 then ((spec_l1Row.f k x1000 x1001 x1).bind fun bt146=>((spec_l12Rd_num.f x1000 bt146.2 (([1,1,1,2,(-1),3,(-2)]:List Int))).bind fun bt153=>((spec_l2Put.f k x7 bt146.1 bt153.1).bind fun t155=>(spec_l2Z.l0 k x1 t155 (wrap64 (x8 - 1)) x1000 bt153.2)))) else (some (x7,x1001))
def spec_l2Z.f (k:Nat) (s0_0:List Int) (s0_1:Int) (a1:Int) (a2:Int):Option ((List (S53)) × Int):=(spec_l12Rd_pick.f s0_0 s0_1 (wrap64 (a2 + 1))).bind fun bt144=>(spec_l2Z.l0 k a1 (([]:List (S53))) bt144.1 s0_0 bt144.2)
theorem spec_l2Z.mono_l : ∀ k,(∀ y0 y1 y2 y3 y4,LeO (spec_l2Z.l0 k y0 y1 y2 y3 y4) (spec_l2Z.l0 (k + 1) y0 y1 y2 y3 y4))
 | 0=>fun _ _ _ _ _ r h=>by simp [spec_l2Z.l0] at h
 | k + 1=>by
  have ih0:=spec_l2Z.mono_l k
  ·intro y0 y1 y2 y3 y4
   unfold spec_l2Z.l0
   repeat' first
   | (with_reducible exact ih0 _ _ _ _ _)
   | (with_reducible exact spec_l1Row.mono _ _ _ _)
   | (with_reducible exact spec_l2Put.mono _ _ _ _)
   | (with_reducible exact LeO.refl _)
   | (with_reducible exact LeO.none _)
   | (with_reducible refine LeO.ite ?_ ?_)
   | (with_reducible refine LeO.bind ?_ (fun _=>?_))
   | exact LeO.none _
   | refine LeO.ite ?_ ?_
   | refine LeO.bind ?_ (fun _=>?_)
theorem spec_l2Z.mono : ∀ a0 a1 a2 a3 k,LeO (spec_l2Z.f k a0 a1 a2 a3) (spec_l2Z.f (k + 1) a0 a1 a2 a3):=by
 intro a0 a1 a2 a3 k
 have ih0:=spec_l2Z.mono_l k
 unfold spec_l2Z.f
 repeat' first
   | (with_reducible exact ih0 _ _ _ _ _)
   | (with_reducible exact spec_l1Row.mono _ _ _ _)
   | (with_reducible exact spec_l2Put.mono _ _ _ _)
   | (with_reducible exact LeO.refl _)
   | (with_reducible exact LeO.none _)
   | (with_reducible refine LeO.ite ?_ ?_)
   | (with_reducible refine LeO.bind ?_ (fun _=>?_))
   | exact LeO.none _
   | refine LeO.ite ?_ ?_
   | refine LeO.bind ?_ (fun _=>?_)
set_option maxHeartbeats 8000000 in
set_option maxRecDepth 100000 in
theorem spec_l2Z.calls (k:Nat) (g:Nat) (s0_0:List Int) (s0_1:Int) (a1:Int) (a2:Int) (r1:List (S53)) (r2:Int) (w0 w:World) (hI:IsS99 w0 w g s0_0 s0_1) (hB:Below w0.heap.size w0 w) (h:spec_l2Z.f k s0_0 s0_1 a1 a2=some (r1,r2)) :
  Calls Tryd.prog 103 #[.pointer (some ⟨g,0,none⟩),.int .i64 a1,.int .i64 a2] w fun e w'=>∃ v0_:Value,e=.returned (v0_)∧Kd.N k53 53 w' w.heap.size (fun k_=>(w.heap.size≤k_)) v0_ r1∧IsS99 w0 w' g s0_0 r2∧Below w0.heap.size w0 w'∧KeepBut w w' g none:=by
 have HI0:=Aside0.mk hI
 have HK:=Aside0.mk (KeepBut.refl w g none)
 have HL:=Aside0.mk hB.size
 clear hI
 have HW0:=Aside0.mk hB.size
 have HB:=Aside0.mk hB
 clear hB
 have H:((spec_l12Rd_pick.f s0_0 s0_1 (wrap64 (a2 + 1))).bind fun bt144=>(spec_l2Z.l0 k a1 (([]:List (S53))) bt144.1 s0_0 bt144.2))=some (r1,r2):=h
 clear h
 obtain ⟨y141,hy141⟩ : ∃ y_:List (S53),y_=(([]:List (S53))):=⟨_,rfl⟩
 replace H:((spec_l12Rd_pick.f s0_0 s0_1 (wrap64 (a2 + 1))).bind fun bt144=>(spec_l2Z.l0 k a1 y141 bt144.1 s0_0 bt144.2))=some (r1,r2):=by first|(rw [hy141];with_reducible exact H)|(have H2_:=(Option.bind_some _ _).symm.trans H;rw [hy141];with_reducible exact H2_)|(have H2_:=(Option.bind_some _ _).symm.trans H;with_reducible exact H2_)|with_reducible exact H|(rw [hy141];exact H)|exact H
 have Ny141:=Aside0.mk hy141
 clear hy141
 replace H:=Option.bind_eq_some_iff.mp H
 obtain ⟨⟨t144,t145⟩,A40,H⟩:=H
 (try dsimp only at H)
 have A4:=Aside0.mk A40
 clear A40
 have H':=Aside0.mk H
 clear H
 go_enter Tryd.func103,Tryd.ntmps103
 go_wp2_with (first|((with_reducible refine gate_dst (N:=9) rfl ?_);refine Kd.N_lit k53 _ 53 ?hg (N':=9) ?hd (xs:=([]:List (S53))) (inner:=[]) (ok:=(fun k_=>(w.heap.size≤k_)∧k_≠g)) (okp:=(fun k_=>(w.heap.size≤k_)∧k_≠g)) ?hr ?hp (fun _ hk=>hk) ((show ∀ k_,w.heap.size≤k_→(fun k_=>(w.heap.size≤k_)∧k_≠g) k_ from fun k_ hk=>⟨(Nat.le_trans (keep_size (w:=w) (g:=g) (row:=none) zhk) hk),IsS99.fresh zi99 k_ hk⟩) _ (Nat.le_refl _)) (Below.refl _ _) (Nat.le_refl _) (by simp) ?_;(case hd=>rfl);(case hg=>rfl);(case hr=>first|(go_simp;done)|(go_simp;rfl));(case hp=>exact (Reps.none _ _));intro v142 w5 ho6 hb hg_ hnew_;clear hg_ hnew_;(first|rw [← Ny141.out] at ho6|(simp only [Int.reduceToNat] at ho6;rw [← Ny141.out] at ho6));have n0_:=Aside0.mk (Kd.N_lower ho6 (keep_size (w:=w) (g:=g) (row:=none) zhk));have n1_:=Aside0.mk (IsS99.below zi99 hb);have n2_:=Aside0.mk (KeepBut.trans zhk (KeepBut.of_below hb g none) (.inl rfl));have n3_:=Aside0.mk (below_step zg99 hb);clear HI0;clear HK;clear HB;have HO143:=n0_;have HI0:=n1_;have HK:=n2_;have HB:=n3_;clear n0_ n1_ n2_ n3_;clear hb ho6)|((with_reducible refine gate_callee (f:=65) rfl ?_);refine goesL_ (some 13) rfl rfl Tryd.func65 (by kernel_rfl) rfl #[.pointer (some ⟨g,0,none⟩),.int .i64 (wrap64 (a2 + 1))] rfl zar ?_;(with_reducible refine (spec_l12Rd_pick.calls g s0_0 s0_1 (wrap64 (a2 + 1)) t144 t145 w0 _ ?side1 ?side2 A4.out).mono ?_);(case side1=>exact zi99);(case side2=>exact zg99);rintro e w7 ⟨rfl,hi,hb,hk⟩;refine ⟨_,rfl,?_⟩;have n0_:=Aside0.mk (Kd.N_mono (Kd.N_keep (Kd.N_mono (ok:=fun k_=>(((w.heap.size≤k_))∧k_≠g)) (zN HO143.out) (fun k_ hk_=>(⟨hk_,hk_.2⟩:_∧k_≠g))) hk (fun _ h=>h.2)) (fun _ h=>h.1));have n1_:=Aside0.mk (KeepBut.trans zhk hk (.inl rfl));have n2_:=Aside0.mk (hb);have n3_:=Aside0.mk (hi);clear HO143;clear HK;clear HB;clear HI0;have HO143:=n0_;have HK:=n1_;have HB:=n2_;have HI0:=n3_;clear n0_ n1_ n2_ n3_;(try clear hb);(try clear hb2);(try clear hk);(try clear hi)))
 go_loopg [7,8] k (fun kq v7 v8 w'=>∃ (x7_1:List (S53)) (x8_1:Int) (x1001_1:Int),v8=.int .i64 x8_1∧Aside0 (spec_l2Z.l0 kq a1 x7_1 x8_1 s0_0 x1001_1=some (r1,r2))∧Aside0 (kq≤k)∧Aside0 (Kd.N k53 53 w' w.heap.size (fun k_=>(w.heap.size≤k_)∧k_≠g) v7 x7_1)∧Aside0 (IsS99 w0 w' g s0_0 x1001_1)∧Aside0 (KeepBut w w' g none)∧Aside0 (Below w0.heap.size w0 w'))
 case atStart=>exact ⟨(y141),(t144),(t145),(by first|rfl|(simp;done)|(simp [*];done)),H',⟨Nat.le_refl _⟩,⟨by (with_reducible repeat (first|apply Kd.N_alloc|apply Kd.N_drewN|apply Kd.N_drew));exact HO143.out⟩,⟨zi99⟩,⟨zhk⟩,⟨zg99⟩⟩
 case round =>
  clear H'
  try clear c1
  try clear p2
  try clear c6
  try clear p6
  obtain ⟨x7_1,x8_1,x1001_1,rfl,HA,HK1,HO_7,HI0,HK,HB⟩:=hrel
  cases gk with
  | zero=>exact absurd HA.out (by simp [spec_l2Z.l0])
  | succ k1 =>
   have H:=HA.out
   clear HA
   simp only [spec_l2Z.l0] at H
   by_cases c8:x8_1 > 0
   ·rw [if_pos c8] at H
    have c8b0:decide (0 < x8_1)=true:=decide_eq_true c8
    clear c8
    replace H:=Option.bind_eq_some_iff.mp H
    obtain ⟨⟨t146,t149⟩,A90,H⟩:=H
    (try dsimp only at H)
    have A9:=Aside0.mk A90
    clear A90
    obtain ⟨y150,hy150⟩ : ∃ y_:List Int,y_=(([1,1,1,2,(-1),3,(-2)]:List Int)):=⟨_,rfl⟩
    replace H:((spec_l12Rd_num.f s0_0 t149 y150).bind fun bt153=>((spec_l2Put.f k1 x7_1 t146 bt153.1).bind fun t155=>(spec_l2Z.l0 k1 a1 t155 (wrap64 (x8_1 - 1)) s0_0 bt153.2)))=some (r1,r2):=by first|(rw [hy150];with_reducible exact H)|(have H2_:=(Option.bind_some _ _).symm.trans H;rw [hy150];with_reducible exact H2_)|(have H2_:=(Option.bind_some _ _).symm.trans H;with_reducible exact H2_)|with_reducible exact H|(rw [hy150];exact H)|exact H
    have Ny150:=Aside0.mk hy150
    clear hy150
    replace H:=Option.bind_eq_some_iff.mp H
    obtain ⟨⟨t153,t154⟩,A100,H⟩:=H
    (try dsimp only at H)
    have A10:=Aside0.mk A100
    clear A100
    replace H:=Option.bind_eq_some_iff.mp H
    obtain ⟨t155,A110,H⟩:=H
    (try dsimp only at H)
    have A11:=Aside0.mk A110
    clear A110
    have H':=Aside0.mk H
    clear H
    go_wp2_with (first|((with_reducible refine gate_callee (f:=86) rfl ?_);refine goesL_ (some 21) rfl rfl Tryd.func86 (by kernel_rfl) rfl #[.pointer (some ⟨g,0,none⟩),.int .i64 a1] rfl zar ?_;(with_reducible refine (spec_l1Row.calls k1 g s0_0 x1001_1 a1 t146 t149 w0 _ ?side1 ?side2 A9.out).mono ?_);(case side1=>exact zi99);(case side2=>exact zg99);rintro e w12 ⟨v147,rfl,ho0,hi,hb,hk⟩;refine ⟨_,rfl,?_⟩;have n0_:=Aside0.mk (Kd.N_mono (Kd.N_told (Kd.N_oldK (Kd.N_mono (ok:=fun k_=>(((w.heap.size≤k_))∧k_≠g)) (zN HO_7.out) (fun k_ hk_=>(⟨hk_,hk_.2⟩:_∧k_≠g))) hk) (Kd.R_base ho0)) (fun _ h_=>h_.1));have n1_:=Aside0.mk (Kd.R_lower (Kd.R_newM (M:=fun k_=>(w.heap.size≤k_)) ho0 (keep_size (w:=w) (g:=g) (row:=none) zhk) (fun k_ h_=>h_)) (keep_size (w:=w) (g:=g) (row:=none) zhk));have n2_:=Aside0.mk (KeepBut.trans zhk hk (.inl rfl));have n3_:=Aside0.mk (hb);have n4_:=Aside0.mk (hi);clear HO_7;clear HK;clear HB;clear HI0;have HO_7:=n0_;have HO148:=n1_;have HK:=n2_;have HB:=n3_;have HI0:=n4_;clear n0_ n1_ n2_ n3_ n4_;(try clear hb);(try clear hb2);(try clear hk);(try clear hi);(try clear ho0))|((with_reducible refine gate_dst (N:=23) rfl ?_);refine Kd.R_lit (Kd.int .i64) _ 3 ?hg (N:=23) ?hd (xs:=([1,1,1,2,(-1),3,(-2)]:List Int)) (inner:=[.int .i64 1,.int .i64 1,.int .i64 1,.int .i64 2,.int .i64 (-1),.int .i64 3,.int .i64 (-2)]) (ok:=fun _=>True) (okp:=fun _=>True) ?hr ?hp (fun _ hk=>hk) trivial (Below.refl _ _) (Nat.le_refl _) (by simp) ?_;(case hd=>rfl);(case hg=>rfl);(case hr=>first|(go_simp;done)|(go_simp;rfl));(case hp=>exact (Reps.one (show Kd.M (Kd.int .i64) _ _ _ 1 [.int .i64 1] from rfl) (Reps.one (show Kd.M (Kd.int .i64) _ _ _ 1 [.int .i64 1] from rfl) (Reps.one (show Kd.M (Kd.int .i64) _ _ _ 1 [.int .i64 1] from rfl) (Reps.one (show Kd.M (Kd.int .i64) _ _ _ 2 [.int .i64 2] from rfl) (Reps.one (show Kd.M (Kd.int .i64) _ _ _ (-1) [.int .i64 (-1)] from rfl) (Reps.one (show Kd.M (Kd.int .i64) _ _ _ 3 [.int .i64 3] from rfl) (Reps.one (show Kd.M (Kd.int .i64) _ _ _ (-2) [.int .i64 (-2)] from rfl) (Reps.none _ _)))))))));intro v151 w13 ho14 hb hg_ hnew_;clear hg_ hnew_;(first|rw [← Ny150.out] at ho14|(simp only [Int.reduceToNat] at ho14;rw [← Ny150.out] at ho14));have n0_:=Aside0.mk (Kd.N_elder' (zN HO_7.out) (Kd.R_base ho14) hb);have n1_:=Aside0.mk (Kd.R_elder' (by (with_reducible repeat (first|apply Kd.R_alloc|apply Kd.R_drewN|apply Kd.R_drew));exact HO148.out) (Kd.R_base ho14) hb);have n2_:=Aside0.mk (Kd.R_lower (Kd.R_new' (Kd.R_newM (M:=fun k_=>(w.heap.size≤k_)) ho14 (keep_size (w:=w) (g:=g) (row:=none) zhk) (fun k_ h_=>h_)) (Kd.R_lt (by (with_reducible repeat (first|apply Kd.R_alloc|apply Kd.R_drewN|apply Kd.R_drew));exact HO148.out))) (keep_size (w:=w) (g:=g) (row:=none) zhk));have n3_:=Aside0.mk (IsS99.below zi99 hb);have n4_:=Aside0.mk (KeepBut.trans zhk (KeepBut.of_below hb g none) (.inl rfl));have n5_:=Aside0.mk (below_step zg99 hb);clear HO_7;clear HO148;clear HI0;clear HK;clear HB;have HO_7:=n0_;have HO148:=n1_;have HO152:=n2_;have HI0:=n3_;have HK:=n4_;have HB:=n5_;clear n0_ n1_ n2_ n3_ n4_ n5_;clear hb ho14;obtain ⟨Ao15,co15,eo15⟩:=Kd.R_slice HO152.out;subst eo15)|((with_reducible refine gate_callee (f:=87) rfl ?_);refine goesL_ (some 24) rfl rfl Tryd.func87 (by kernel_rfl) rfl #[.pointer (some ⟨g,0,none⟩),.slice Ao15 y150.length co15] rfl zar ?_;(with_reducible refine (spec_l12Rd_num.calls g s0_0 t149 _ _ y150 t153 t154 w0 _ ?side1 ?side2 ?side3 ?side4 ?side5 A10.out).mono ?_);(case side1=>exact zi99);(case side2=>exact zg99);(case side3=>repeat (first|exact (Kd.R_reads' HO152.out).2.2|(with_reducible refine Kd.C_alloc ?_ _)|(with_reducible refine Kd.C_drewN ?_ _)|(with_reducible refine Kd.C_drew ?_)));(case side4=>exact (Kd.R_reads' HO152.out).2.1);(case side5=>exact far_slice (IsS99.own_ne HI0.out HO152.out (by decide)));rintro e w16 ⟨rfl,hi,hb,hk⟩;refine ⟨_,rfl,?_⟩;have n0_:=Aside0.mk (Kd.N_mono (Kd.N_keep (Kd.N_mono (ok:=fun k_=>(((((w.heap.size≤k_))∧k_≠g)∧some k_≠(v147:Value).ownBlock)∧some k_≠(.slice Ao15 y150.length co15:Value).ownBlock)) (zN HO_7.out) (fun k_ hk_=>(⟨hk_,hk_.1.1.2⟩:_∧k_≠g))) hk (fun _ h=>h.2)) (fun _ h=>h.1));have n1_:=Aside0.mk (Kd.R_mono (Kd.R_keep (IsS99.apart (show IsS99 w0 _ g s0_0 t149 from zi99) (by (with_reducible repeat (first|apply Kd.R_alloc|apply Kd.R_drewN|apply Kd.R_drew));exact HO148.out) (by decide)) hk (fun _ h=>h.2)) (fun _ h=>h.1));have n2_:=Aside0.mk (Kd.R_mono (Kd.R_keep (IsS99.apart (show IsS99 w0 _ g s0_0 t149 from zi99) (by (with_reducible repeat (first|apply Kd.R_alloc|apply Kd.R_drewN|apply Kd.R_drew));exact HO152.out) (by decide)) hk (fun _ h=>h.2)) (fun _ h=>h.1));have n3_:=Aside0.mk (KeepBut.trans zhk hk (.inl rfl));have n4_:=Aside0.mk (hb);have n5_:=Aside0.mk (hi);clear HO_7;clear HO148;clear HO152;clear HK;clear HB;clear HI0;have HO_7:=n0_;have HO148:=n1_;have HO152:=n2_;have HK:=n3_;have HB:=n4_;have HI0:=n5_;clear n0_ n1_ n2_ n3_ n4_ n5_;(try clear hb);(try clear hb2);(try clear hk);(try clear hi);obtain ⟨Ao17,co17,eo17⟩:=Kd.N_slice HO_7.out;subst eo17;obtain ⟨Ao18,co18,eo18⟩:=Kd.R_slice HO148.out;subst eo18)|((with_reducible refine gate_callee (f:=104) rfl ?_);refine goesL_ (some 25) rfl rfl Tryd.func104 (by kernel_rfl) rfl #[.slice Ao17 x7_1.length co17,.slice Ao18 t146.length co18,.int .i64 t153] rfl zar ?_;(refine (spec_l2Put.calls k1 w.heap.size (fun k_=>(w.heap.size≤k_)∧some k_≠(.slice Ao18 t146.length co18:Value).ownBlock∧some k_≠(.slice Ao15 y150.length co15:Value).ownBlock∧k_≠g) (.slice Ao17 x7_1.length co17) x7_1 _ _ t146 t153 t155 ?w0_ _ ?side1 ?side2 ?side3 ?side4 ?side5 ?side6 A11.out).mono ?_);(case side1=>exact (keep_size (w:=w) (g:=g) (row:=none) zhk));(case side2=>exact (Below.refl _ _));(case side3=>exact (by (with_reducible repeat (first|apply Kd.N_alloc|apply Kd.N_drewN|apply Kd.N_drew));exact Kd.N_mono HO_7.out (fun _ hk=>⟨hk.1.1.1,⟨hk.1.2,⟨hk.2,hk.1.1.2⟩⟩⟩)));(case side4=>exact (fun k_ hk=>⟨(Nat.le_trans (keep_size (w:=w) (g:=g) (row:=none) zhk) hk),Kd.fresh' (Kd.R_lt (by (with_reducible repeat (first|apply Kd.R_alloc|apply Kd.R_drewN|apply Kd.R_drew));exact HO148.out)) k_ hk,Kd.fresh' (Kd.R_lt (by (with_reducible repeat (first|apply Kd.R_alloc|apply Kd.R_drewN|apply Kd.R_drew));exact HO152.out)) k_ hk,IsS99.fresh zi99 k_ hk⟩));(case side5=>repeat (first|exact (Kd.R_reads' HO148.out).2.2|(with_reducible refine Kd.C_alloc ?_ _)|(with_reducible refine Kd.C_drewN ?_ _)|(with_reducible refine Kd.C_drew ?_)));(case side6=>exact (Kd.R_reads' HO148.out).2.1);rintro e w19 ⟨v156,rfl,ho,hb,hg,hat⟩;refine ⟨_,rfl,?_⟩;have n0_:=Aside0.mk (IsS99.grown zi99 hg (IsS99.own_neN HI0.out HO_7.out (by decide)));have n1_:=Aside0.mk (Kd.R_over' (by (with_reducible repeat (first|apply Kd.R_alloc|apply Kd.R_drewN|apply Kd.R_drew));exact HO148.out) (Kd.N_typed (zN HO_7.out)) (by decide) hg);have n2_:=Aside0.mk (Kd.R_over' (by (with_reducible repeat (first|apply Kd.R_alloc|apply Kd.R_drewN|apply Kd.R_drew));exact HO152.out) (Kd.N_typed (zN HO_7.out)) (by decide) hg);have n3_:=Aside0.mk (below_weaken zg99 HL.out hb);have n4_:=Aside0.mk (KeepBut.trans zhk (KeepBut.of_grown hg g) (Kd.N_base2 HO_7.out));have n5_:=Aside0.mk (ho);clear HI0;clear HO148;clear HO152;clear HB;clear HK;clear HO_7;have HI0:=n0_;have HO148:=n1_;have HO152:=n2_;have HB:=n3_;have HK:=n4_;have HO157:=n5_;clear n0_ n1_ n2_ n3_ n4_ n5_;clear ho hb hg hat))
    go_roundg k1
    case measure=>have:=HK1.out;omega
    case rel=>exact ⟨(t155),(wrap64 (x8_1 - 1)),(t154),(by first|rfl|(simp;done)|(simp [*];done)),H',⟨by have:=HK1.out;omega⟩,⟨by (with_reducible repeat (first|apply Kd.N_alloc|apply Kd.N_drewN|apply Kd.N_drew));exact Kd.N_mono HO157.out (fun _ hk=>⟨hk.1,hk.2.2.2⟩)⟩,⟨zi99⟩,⟨zhk⟩,⟨zg99⟩⟩
   ·rw [if_neg c8] at H
    have c8b0:decide (0 < x8_1)=false:=decide_eq_false c8
    clear c8
    simp only [Option.some.injEq,Prod.mk.injEq] at H
    obtain ⟨rfl,rfl⟩:=H
    go_wp2
    go_ret
    exact ⟨_,by first|rfl|(simp [errW_none,errW_some] <;> rfl)|(simp [*,errW_none,errW_some] <;> rfl),by (with_reducible repeat (first|apply Kd.N_alloc|apply Kd.N_drewN|apply Kd.N_drew));exact Kd.N_mono HO_7.out (fun _ hk=>hk.1),zi99,zg99,zhk⟩

/-! ### spec_l2Bent: function 79 -/
def spec_l2Bent.l0:Nat→List (S53)→Int→List Int→Int→Option ((List (S53)) × Int)
 | 0,_,_,_,_=>none
 | k + 1,x3,x5,x1000,x1001=>if x5 < 101 then ((spec_l2Put.f k x3 (([wrap64 (10 + x5)]:List Int)) 1).bind fun t185=>(spec_l2Bent.l0 k t185 (wrap64 (x5 + 1)) x1000 x1001)) else (some (x3,x1001))
def spec_l2Bent.f (k:Nat) (s0_0:List Int) (s0_1:Int):Option ((List (S53)) × Int):=(spec_l12Rd_pick.f s0_0 s0_1 3).bind fun bt158=>((spec_l2Z.f k s0_0 bt158.2 (wrap64 (1 + bt158.1)) 6).bind fun bt160=>(if (bt160.1.length:Int)=0 then (some (bt160.1,bt160.2)) else ((spec_l12Rd_pick.f s0_0 bt160.2 (bt160.1.length:Int)).bind fun bt164=>((spec_l12Rd_pick.f s0_0 bt164.2 40).bind fun bt166=>(if bt166.1=0 then ((spec_l12Rd_num.f s0_0 bt166.2 (([0,10000,10001,(-10000)]:List Int))).bind fun bt171=>(if 0≤bt164.1 then (if bt164.1 < (bt160.1.length:Int) then (some ((bt160.1.set (bt164.1:Int).toNat (⟨(rd_T53 bt160.1 bt164.1).f0,bt171.1⟩:S53)),bt171.2)) else (none)) else (none))) else (if bt166.1=1 then (if 0≤bt164.1 then (if bt164.1 < (bt160.1.length:Int) then (some ((bt160.1.set (bt164.1:Int).toNat (⟨(([]:List Int)),(rd_T53 bt160.1 bt164.1).f1⟩:S53)),bt166.2)) else (none)) else (none)) else (if bt166.1=2 then (if 0 < (bt160.1.length:Int) then (if bt160.1.length < 4398046511104 then (some ((bt160.1 ++ [(⟨(rd_T53 bt160.1 0).f0,(rd_T53 bt160.1 0).f1⟩:S53)]),bt166.2)) else (none)) else (none)) else (if bt166.1=3 then (spec_l2Bent.l0 k bt160.1 0 s0_0 bt166.2) else (some (bt160.1,bt166.2))))))))))
theorem spec_l2Bent.mono_l : ∀ k,(∀ y0 y1 y2 y3,LeO (spec_l2Bent.l0 k y0 y1 y2 y3) (spec_l2Bent.l0 (k + 1) y0 y1 y2 y3))
 | 0=>fun _ _ _ _ r h=>by simp [spec_l2Bent.l0] at h
 | k + 1=>by
  have ih0:=spec_l2Bent.mono_l k
  ·intro y0 y1 y2 y3
   unfold spec_l2Bent.l0
   repeat' first
   | (with_reducible exact ih0 _ _ _ _)
   | (with_reducible exact spec_l2Put.mono _ _ _ _)
   | (with_reducible exact spec_l2Z.mono _ _ _ _ _)
   | (with_reducible exact LeO.refl _)
   | (with_reducible exact LeO.none _)
   | (with_reducible refine LeO.ite ?_ ?_)
   | (with_reducible refine LeO.bind ?_ (fun _=>?_))
   | exact LeO.none _
   | refine LeO.ite ?_ ?_
   | refine LeO.bind ?_ (fun _=>?_)
theorem spec_l2Bent.mono : ∀ a0 a1 k,LeO (spec_l2Bent.f k a0 a1) (spec_l2Bent.f (k + 1) a0 a1):=by
 intro a0 a1 k
 have ih0:=spec_l2Bent.mono_l k
 unfold spec_l2Bent.f
 repeat' first
   | (with_reducible exact ih0 _ _ _ _)
   | (with_reducible exact spec_l2Put.mono _ _ _ _)
   | (with_reducible exact spec_l2Z.mono _ _ _ _ _)
   | (with_reducible exact LeO.refl _)
   | (with_reducible exact LeO.none _)
   | (with_reducible refine LeO.ite ?_ ?_)
   | (with_reducible refine LeO.bind ?_ (fun _=>?_))
   | exact LeO.none _
   | refine LeO.ite ?_ ?_
   | refine LeO.bind ?_ (fun _=>?_)
set_option maxHeartbeats 8000000 in
set_option maxRecDepth 100000 in
theorem spec_l2Bent.calls (k:Nat) (g:Nat) (s0_0:List Int) (s0_1:Int) (r1:List (S53)) (r2:Int) (w0 w:World) (hI:IsS99 w0 w g s0_0 s0_1) (hB:Below w0.heap.size w0 w) (h:spec_l2Bent.f k s0_0 s0_1=some (r1,r2)) :
  Calls Tryd.prog 79 #[.pointer (some ⟨g,0,none⟩)] w fun e w'=>∃ v0_:Value,e=.returned (v0_)∧Kd.N k53 53 w' w.heap.size (fun k_=>(w.heap.size≤k_)) v0_ r1∧IsS99 w0 w' g s0_0 r2∧Below w0.heap.size w0 w'∧KeepBut w w' g none:=by
 have hu53:=Tryd.underlying53
 have HI0:=Aside0.mk hI
 have HK:=Aside0.mk (KeepBut.refl w g none)
 have HL:=Aside0.mk hB.size
 clear hI
 have HW0:=Aside0.mk hB.size
 have HB:=Aside0.mk hB
 clear hB
 have H:((spec_l12Rd_pick.f s0_0 s0_1 3).bind fun bt158=>((spec_l2Z.f k s0_0 bt158.2 (wrap64 (1 + bt158.1)) 6).bind fun bt160=>(if (bt160.1.length:Int)=0 then (some (bt160.1,bt160.2)) else ((spec_l12Rd_pick.f s0_0 bt160.2 (bt160.1.length:Int)).bind fun bt164=>((spec_l12Rd_pick.f s0_0 bt164.2 40).bind fun bt166=>(if bt166.1=0 then ((spec_l12Rd_num.f s0_0 bt166.2 (([0,10000,10001,(-10000)]:List Int))).bind fun bt171=>(if 0≤bt164.1 then (if bt164.1 < (bt160.1.length:Int) then (some ((bt160.1.set (bt164.1:Int).toNat (⟨(rd_T53 bt160.1 bt164.1).f0,bt171.1⟩:S53)),bt171.2)) else (none)) else (none))) else (if bt166.1=1 then (if 0≤bt164.1 then (if bt164.1 < (bt160.1.length:Int) then (some ((bt160.1.set (bt164.1:Int).toNat (⟨(([]:List Int)),(rd_T53 bt160.1 bt164.1).f1⟩:S53)),bt166.2)) else (none)) else (none)) else (if bt166.1=2 then (if 0 < (bt160.1.length:Int) then (if bt160.1.length < 4398046511104 then (some ((bt160.1 ++ [(⟨(rd_T53 bt160.1 0).f0,(rd_T53 bt160.1 0).f1⟩:S53)]),bt166.2)) else (none)) else (none)) else (if bt166.1=3 then (spec_l2Bent.l0 k bt160.1 0 s0_0 bt166.2) else (some (bt160.1,bt166.2)))))))))))=some (r1,r2):=h
 clear h
 replace H:=Option.bind_eq_some_iff.mp H
 obtain ⟨⟨t158,t159⟩,A20,H⟩:=H
 (try dsimp only at H)
 have A2:=Aside0.mk A20
 clear A20
 replace H:=Option.bind_eq_some_iff.mp H
 obtain ⟨⟨t160,t163⟩,A30,H⟩:=H
 (try dsimp only at H)
 have A3:=Aside0.mk A30
 clear A30
 by_cases c4:(t160.length:Int)=0
 ·rw [if_pos c4] at H
  have c4b0:((t160.length:Int) == 0)=true:=beq_iff_eq.mpr c4
  have c4b1:((t160.length:Int) != 0)=false:=bne_eq_false_iff_eq.mpr c4
  clear c4
  simp only [Option.some.injEq,Prod.mk.injEq] at H
  obtain ⟨rfl,rfl⟩:=H
  go_enter Tryd.func79,Tryd.ntmps79
  go_wp2_with (first|((with_reducible refine gate_callee (f:=65) rfl ?_);refine goesL_ (some 8) rfl rfl Tryd.func65 (by kernel_rfl) rfl #[.pointer (some ⟨g,0,none⟩),.int .i64 3] rfl zar ?_;(with_reducible refine (spec_l12Rd_pick.calls g s0_0 s0_1 3 t158 t159 w0 _ ?side1 ?side2 A2.out).mono ?_);(case side1=>exact zi99);(case side2=>exact zg99);rintro e w5 ⟨rfl,hi,hb,hk⟩;refine ⟨_,rfl,?_⟩;have n0_:=Aside0.mk (KeepBut.trans zhk hk (.inl rfl));have n1_:=Aside0.mk (hb);have n2_:=Aside0.mk (hi);clear HK;clear HB;clear HI0;have HK:=n0_;have HB:=n1_;have HI0:=n2_;clear n0_ n1_ n2_;(try clear hb);(try clear hb2);(try clear hk);(try clear hi))|((with_reducible refine gate_callee (f:=103) rfl ?_);refine goesL_ (some 10) rfl rfl Tryd.func103 (by kernel_rfl) rfl #[.pointer (some ⟨g,0,none⟩),.int .i64 (wrap64 (1 + t158)),.int .i64 6] rfl zar ?_;(with_reducible refine (spec_l2Z.calls k g s0_0 t159 (wrap64 (1 + t158)) 6 t160 t163 w0 _ ?side1 ?side2 A3.out).mono ?_);(case side1=>exact zi99);(case side2=>exact zg99);rintro e w6 ⟨v161,rfl,ho0,hi,hb,hk⟩;refine ⟨_,rfl,?_⟩;have n0_:=Aside0.mk (Kd.N_lower (Kd.N_mono (ok':=fun k_=>(w.heap.size≤k_)∧k_≠g) ho0 (fun k_ hk_=>⟨(Nat.le_trans (keep_size (w:=w) (g:=g) (row:=none) zhk) hk_),(IsS99.fresh zi99 k_ hk_)⟩)) (keep_size (w:=w) (g:=g) (row:=none) zhk));have n1_:=Aside0.mk (KeepBut.trans zhk hk (.inl rfl));have n2_:=Aside0.mk (hb);have n3_:=Aside0.mk (hi);clear HK;clear HB;clear HI0;have HO162:=n0_;have HK:=n1_;have HB:=n2_;have HI0:=n3_;clear n0_ n1_ n2_ n3_;(try clear hb);(try clear hb2);(try clear hk);(try clear hi);(try clear ho0);obtain ⟨Ao7,co7,eo7⟩:=Kd.N_slice HO162.out;subst eo7))
  go_ret
  exact ⟨_,by first|rfl|(simp [errW_none,errW_some] <;> rfl)|(simp [*,errW_none,errW_some] <;> rfl),by (with_reducible repeat (first|apply Kd.N_alloc|apply Kd.N_drewN|apply Kd.N_drew));exact Kd.N_mono HO162.out (fun _ hk=>hk.1),zi99,zg99,zhk⟩
 ·rw [if_neg c4] at H
  have c4b0:((t160.length:Int) == 0)=false:=beq_eq_false_iff_ne.mpr c4
  have c4b1:((t160.length:Int) != 0)=true:=bne_iff_ne.mpr c4
  have c4b2 : ¬ (t160 = []):=fun h_=>c4 (by rw [h_];rfl)
  replace H:=Option.bind_eq_some_iff.mp H
  obtain ⟨⟨t164,t165⟩,A80,H⟩:=H
  (try dsimp only at H)
  have A8:=Aside0.mk A80
  clear A80
  replace H:=Option.bind_eq_some_iff.mp H
  obtain ⟨⟨t166,t167⟩,A90,H⟩:=H
  (try dsimp only at H)
  have A9:=Aside0.mk A90
  clear A90
  by_cases c10:t166=0
  ·rw [if_pos c10] at H
   have c10b0:(t166 == 0)=true:=beq_iff_eq.mpr c10
   have c10b1:(t166 != 0)=false:=bne_eq_false_iff_eq.mpr c10
   clear c10
   obtain ⟨y168,hy168⟩ : ∃ y_:List Int,y_=(([0,10000,10001,(-10000)]:List Int)):=⟨_,rfl⟩
   replace H:((spec_l12Rd_num.f s0_0 t167 y168).bind fun bt171=>(if 0≤t164 then (if t164 < (t160.length:Int) then (some ((t160.set (t164:Int).toNat (⟨(rd_T53 t160 t164).f0,bt171.1⟩:S53)),bt171.2)) else (none)) else (none)))=some (r1,r2):=by first|(rw [hy168];with_reducible exact H)|(have H2_:=(Option.bind_some _ _).symm.trans H;rw [hy168];with_reducible exact H2_)|(have H2_:=(Option.bind_some _ _).symm.trans H;with_reducible exact H2_)|with_reducible exact H|(rw [hy168];exact H)|exact H
   have Ny168:=Aside0.mk hy168
   clear hy168
   replace H:=Option.bind_eq_some_iff.mp H
   obtain ⟨⟨t171,t172⟩,A110,H⟩:=H
   (try dsimp only at H)
   have A11:=Aside0.mk A110
   clear A110
   by_cases c12:0≤t164
   ·rw [if_pos c12] at H
    have c12b0:decide (0≤t164)=true:=decide_eq_true c12
    clear c12
    by_cases c13:t164 < (t160.length:Int)
    ·rw [if_pos c13] at H
     have c13b0:decide (t164 < (t160.length:Int))=true:=decide_eq_true c13
     clear c13
     obtain ⟨y173,hy173⟩ : ∃ y_:List (S53),y_=(t160.set (t164:Int).toNat (⟨(rd_T53 t160 t164).f0,t171⟩:S53)):=⟨_,rfl⟩
     replace H:(some (y173,t172))=some (r1,r2):=by first|(rw [hy173];with_reducible exact H)|(have H2_:=(Option.bind_some _ _).symm.trans H;rw [hy173];with_reducible exact H2_)|(have H2_:=(Option.bind_some _ _).symm.trans H;with_reducible exact H2_)|with_reducible exact H|(rw [hy173];exact H)|exact H
     have Ny173:=Aside0.mk hy173
     clear hy173
     simp only [Option.some.injEq,Prod.mk.injEq] at H
     obtain ⟨rfl,rfl⟩:=H
     go_enter Tryd.func79,Tryd.ntmps79
     go_wp2_with (first|((with_reducible refine gate_callee (f:=65) rfl ?_);refine goesL_ (some 8) rfl rfl Tryd.func65 (by kernel_rfl) rfl #[.pointer (some ⟨g,0,none⟩),.int .i64 3] rfl zar ?_;(with_reducible refine (spec_l12Rd_pick.calls g s0_0 s0_1 3 t158 t159 w0 _ ?side1 ?side2 A2.out).mono ?_);(case side1=>exact zi99);(case side2=>exact zg99);rintro e w15 ⟨rfl,hi,hb,hk⟩;refine ⟨_,rfl,?_⟩;have n0_:=Aside0.mk (KeepBut.trans zhk hk (.inl rfl));have n1_:=Aside0.mk (hb);have n2_:=Aside0.mk (hi);clear HK;clear HB;clear HI0;have HK:=n0_;have HB:=n1_;have HI0:=n2_;clear n0_ n1_ n2_;(try clear hb);(try clear hb2);(try clear hk);(try clear hi))|((with_reducible refine gate_callee (f:=103) rfl ?_);refine goesL_ (some 10) rfl rfl Tryd.func103 (by kernel_rfl) rfl #[.pointer (some ⟨g,0,none⟩),.int .i64 (wrap64 (1 + t158)),.int .i64 6] rfl zar ?_;(with_reducible refine (spec_l2Z.calls k g s0_0 t159 (wrap64 (1 + t158)) 6 t160 t163 w0 _ ?side1 ?side2 A3.out).mono ?_);(case side1=>exact zi99);(case side2=>exact zg99);rintro e w16 ⟨v161,rfl,ho0,hi,hb,hk⟩;refine ⟨_,rfl,?_⟩;have n0_:=Aside0.mk (Kd.N_lower (Kd.N_mono (ok':=fun k_=>(w.heap.size≤k_)∧k_≠g) ho0 (fun k_ hk_=>⟨(Nat.le_trans (keep_size (w:=w) (g:=g) (row:=none) zhk) hk_),(IsS99.fresh zi99 k_ hk_)⟩)) (keep_size (w:=w) (g:=g) (row:=none) zhk));have n1_:=Aside0.mk (KeepBut.trans zhk hk (.inl rfl));have n2_:=Aside0.mk (hb);have n3_:=Aside0.mk (hi);clear HK;clear HB;clear HI0;have HO162:=n0_;have HK:=n1_;have HB:=n2_;have HI0:=n3_;clear n0_ n1_ n2_ n3_;(try clear hb);(try clear hb2);(try clear hk);(try clear hi);(try clear ho0);obtain ⟨Ao17,co17,eo17⟩:=Kd.N_slice HO162.out;subst eo17)|((with_reducible refine gate_callee (f:=65) rfl ?_);refine goesL_ (some 18) rfl rfl Tryd.func65 (by kernel_rfl) rfl #[.pointer (some ⟨g,0,none⟩),.int .i64 (t160.length:Int)] rfl zar ?_;(with_reducible refine (spec_l12Rd_pick.calls g s0_0 t163 (t160.length:Int) t164 t165 w0 _ ?side1 ?side2 A8.out).mono ?_);(case side1=>exact zi99);(case side2=>exact zg99);rintro e w18 ⟨rfl,hi,hb,hk⟩;refine ⟨_,rfl,?_⟩;have n0_:=Aside0.mk (Kd.N_mono (Kd.N_keep (Kd.N_mono (ok:=fun k_=>(((w.heap.size≤k_))∧k_≠g)) (zN HO162.out) (fun k_ hk_=>(⟨hk_,hk_.2⟩:_∧k_≠g))) hk (fun _ h=>h.2)) (fun _ h=>h.1));have n1_:=Aside0.mk (KeepBut.trans zhk hk (.inl rfl));have n2_:=Aside0.mk (hb);have n3_:=Aside0.mk (hi);clear HO162;clear HK;clear HB;clear HI0;have HO162:=n0_;have HK:=n1_;have HB:=n2_;have HI0:=n3_;clear n0_ n1_ n2_ n3_;(try clear hb);(try clear hb2);(try clear hk);(try clear hi))|((with_reducible refine gate_callee (f:=65) rfl ?_);refine goesL_ (some 20) rfl rfl Tryd.func65 (by kernel_rfl) rfl #[.pointer (some ⟨g,0,none⟩),.int .i64 40] rfl zar ?_;(with_reducible refine (spec_l12Rd_pick.calls g s0_0 t165 40 t166 t167 w0 _ ?side1 ?side2 A9.out).mono ?_);(case side1=>exact zi99);(case side2=>exact zg99);rintro e w19 ⟨rfl,hi,hb,hk⟩;refine ⟨_,rfl,?_⟩;have n0_:=Aside0.mk (Kd.N_mono (Kd.N_keep (Kd.N_mono (ok:=fun k_=>(((w.heap.size≤k_))∧k_≠g)) (zN HO162.out) (fun k_ hk_=>(⟨hk_,hk_.2⟩:_∧k_≠g))) hk (fun _ h=>h.2)) (fun _ h=>h.1));have n1_:=Aside0.mk (KeepBut.trans zhk hk (.inl rfl));have n2_:=Aside0.mk (hb);have n3_:=Aside0.mk (hi);clear HO162;clear HK;clear HB;clear HI0;have HO162:=n0_;have HK:=n1_;have HB:=n2_;have HI0:=n3_;clear n0_ n1_ n2_ n3_;(try clear hb);(try clear hb2);(try clear hk);(try clear hi))|((with_reducible refine gate_dst (N:=26) rfl ?_);refine Kd.R_lit (Kd.int .i64) _ 3 ?hg (N:=26) ?hd (xs:=([0,10000,10001,(-10000)]:List Int)) (inner:=[.int .i64 0,.int .i64 10000,.int .i64 10001,.int .i64 (-10000)]) (ok:=fun _=>True) (okp:=fun _=>True) ?hr ?hp (fun _ hk=>hk) trivial (Below.refl _ _) (Nat.le_refl _) (by simp) ?_;(case hd=>rfl);(case hg=>rfl);(case hr=>first|(go_simp;done)|(go_simp;rfl));(case hp=>exact (Reps.one (show Kd.M (Kd.int .i64) _ _ _ 0 [.int .i64 0] from rfl) (Reps.one (show Kd.M (Kd.int .i64) _ _ _ 10000 [.int .i64 10000] from rfl) (Reps.one (show Kd.M (Kd.int .i64) _ _ _ 10001 [.int .i64 10001] from rfl) (Reps.one (show Kd.M (Kd.int .i64) _ _ _ (-10000) [.int .i64 (-10000)] from rfl) (Reps.none _ _))))));intro v169 w20 ho21 hb hg_ hnew_;clear hg_ hnew_;(first|rw [← Ny168.out] at ho21|(simp only [Int.reduceToNat] at ho21;rw [← Ny168.out] at ho21));have n0_:=Aside0.mk (Kd.N_elder' (zN HO162.out) (Kd.R_base ho21) hb);have n1_:=Aside0.mk (Kd.R_lower (Kd.R_newM (M:=fun k_=>(w.heap.size≤k_)) ho21 (keep_size (w:=w) (g:=g) (row:=none) zhk) (fun k_ h_=>h_)) (keep_size (w:=w) (g:=g) (row:=none) zhk));have n2_:=Aside0.mk (IsS99.below zi99 hb);have n3_:=Aside0.mk (KeepBut.trans zhk (KeepBut.of_below hb g none) (.inl rfl));have n4_:=Aside0.mk (below_step zg99 hb);clear HO162;clear HI0;clear HK;clear HB;have HO162:=n0_;have HO170:=n1_;have HI0:=n2_;have HK:=n3_;have HB:=n4_;clear n0_ n1_ n2_ n3_ n4_;clear hb ho21;obtain ⟨Ao22,co22,eo22⟩:=Kd.R_slice HO170.out;subst eo22)|((with_reducible refine gate_callee (f:=87) rfl ?_);refine goesL_ (some 27) rfl rfl Tryd.func87 (by kernel_rfl) rfl #[.pointer (some ⟨g,0,none⟩),.slice Ao22 y168.length co22] rfl zar ?_;(with_reducible refine (spec_l12Rd_num.calls g s0_0 t167 _ _ y168 t171 t172 w0 _ ?side1 ?side2 ?side3 ?side4 ?side5 A11.out).mono ?_);(case side1=>exact zi99);(case side2=>exact zg99);(case side3=>repeat (first|exact (Kd.R_reads' HO170.out).2.2|(with_reducible refine Kd.C_alloc ?_ _)|(with_reducible refine Kd.C_drewN ?_ _)|(with_reducible refine Kd.C_drew ?_)));(case side4=>exact (Kd.R_reads' HO170.out).2.1);(case side5=>exact far_slice (IsS99.own_ne HI0.out HO170.out (by decide)));rintro e w23 ⟨rfl,hi,hb,hk⟩;refine ⟨_,rfl,?_⟩;have n0_:=Aside0.mk (Kd.N_mono (Kd.N_keep (Kd.N_mono (ok:=fun k_=>((((w.heap.size≤k_))∧k_≠g)∧some k_≠(.slice Ao22 y168.length co22:Value).ownBlock)) (zN HO162.out) (fun k_ hk_=>(⟨hk_,hk_.1.2⟩:_∧k_≠g))) hk (fun _ h=>h.2)) (fun _ h=>h.1));have n1_:=Aside0.mk (Kd.R_mono (Kd.R_keep (IsS99.apart (show IsS99 w0 _ g s0_0 t167 from zi99) (by (with_reducible repeat (first|apply Kd.R_alloc|apply Kd.R_drewN|apply Kd.R_drew));exact HO170.out) (by decide)) hk (fun _ h=>h.2)) (fun _ h=>h.1));have n2_:=Aside0.mk (KeepBut.trans zhk hk (.inl rfl));have n3_:=Aside0.mk (hb);have n4_:=Aside0.mk (hi);clear HO162;clear HO170;clear HK;clear HB;clear HI0;have HO162:=n0_;have HO170:=n1_;have HK:=n2_;have HB:=n3_;have HI0:=n4_;clear n0_ n1_ n2_ n3_ n4_;(try clear hb);(try clear hb2);(try clear hk);(try clear hi);have p14:0≤(t164:Int):=zod;have q14:(t164:Int) < ((t160.length:Int):Int):=zod;obtain ⟨go14,co14,eo14,gb14,gl14,cl14,HG14⟩:=Kd.N_form HO162.out (by omega);(first|cases eo14|(injection eo14 with ea_ en_ ec_;(first|subst ea_|(injection ea_ with ea_;subst ea_));subst ec_;clear en_));have GB14:=Aside0.mk gb14;have GG14:=Aside0.mk HG14;clear gb14 gl14 HG14;obtain ⟨ce14,hcl14,hM14,hcc14,hfr14⟩:=Kd.N_elem HO162.out z53 (t164:Int) p14 q14;obtain ⟨ua14_0,uc14_0,rfl,ul14_0,ge14_0⟩:=k53_openF hM14;have hx14_0:w23.cell? ⟨go14,(t164:Int).toNat * 2,none⟩=some (.slice ua14_0 ((rd_T53 t160 t164).f0).length uc14_0):=hcc14 0 _ rfl;have hx14_1:w23.cell? ⟨go14,(t164:Int).toNat * 2 + 1,none⟩=some (.int .i64 ((rd_T53 t160 t164).f1)):=hcc14 1 _ rfl;have hf14_0:w23.frozen? ⟨go14,(t164:Int).toNat * 2,none⟩=false:=hfr14 0;have hf14_1:w23.frozen? ⟨go14,(t164:Int).toNat * 2 + 1,none⟩=false:=hfr14 1;clear hcl14 hcc14 hfr14 hM14;replace p14:=eq_true p14;replace q14:=eq_true q14;have n_:=Aside0.mk (Kd.N_mono (ok':=(fun k_=>(w.heap.size≤k_)∧some k_≠(.slice Ao22 y168.length co22:Value).ownBlock)) HO162.out (fun k_ hk=>⟨hk.1.1,hk.2⟩));clear HO162;have HO162:=n_;clear n_;have HX24:=Aside0.mk (show Kd.N k53 53 w23 w.heap.size (fun k_=>(w.heap.size≤k_)∧some k_≠(.slice Ao22 y168.length co22:Value).ownBlock) (.slice (some ⟨go14,0,none⟩) t160.length co17) t160 from (zN HO162.out));obtain ⟨ce24,hcl24,hM24,hcc24,hfr24⟩:=Kd.N_elem HX24.out z53 (t164:Int) (zod) (by have h_:(t164:Int) < ((t160.length:Int):Int):=zod;first|exact h_|(have e_:=(Kd.N_reads' HO162.out).1;omega)|simpa using h_);obtain ⟨ua24_0,uc24_0,rfl,ul24_0,ge24_0⟩:=k53_openF hM24;have HP24:=Kd.N_seg HX24.out (t164:Int) (zod) (by have h_:(t164:Int) < ((t160.length:Int):Int):=zod;first|exact h_|(have e_:=(Kd.N_reads' HO162.out).1;omega)|simpa using h_) (seg:=[.int .i64 t171]) (j:=1) hcl24 hcc24 (show 2≤2 from by decide) (x':=(⟨(rd_T53 t160 t164).f0,t171⟩:S53)) (k53_mkF _ _ (⟨(rd_T53 t160 t164).f0,t171⟩:S53) ul24_0 ge24_0) (fun _ hk=>hk);have hx24_1:=hcc24 1 _ rfl;(try simp only [show (k53).sz=2 from rfl,Nat.mul_one,Nat.add_zero] at hx24_1);have hf24_1:=hfr24 1;(try simp only [show (k53).sz=2 from rfl,Nat.mul_one,Nat.add_zero] at hf24_1);clear hcl24 hcc24 hfr24 hM24)|((with_reducible refine gate_store (t:=3) (p:=29) rfl ?_);refine store_event (t:=3) (p:=29) (v:=?vo_w25) (w1:=(w23.setCell ⟨go14,(t164:Int).toNat * 2 + 1,none⟩ (.int .i64 t171))) ?hg ?ho ?hn ?hr ?_;(case ho=>rfl);(case hg=>rfl);(case hn=>rfl);(case hr=>first|(go_simp;done)|(go_simp;rfl));intro w25 hw;have hg:w23.grownBy w25 (some go14):=(by rw [hw];exact HP24.2);have hp_:Kd.N k53 53 w25 w.heap.size (fun k_=>(w.heap.size≤k_)∧some k_≠(.slice Ao22 y168.length co22:Value).ownBlock) (.slice (some ⟨go14,0,none⟩) t160.length co17) y173:=(by rw [hw,Ny173.out];exact HP24.1);clear HP24;have n0_:=Aside0.mk (IsS99.grown zi99 hg (IsS99.own_neN HI0.out HO162.out (by decide)));have n1_:=Aside0.mk (hp_);have n2_:=Aside0.mk (Kd.R_over' (v:=(.slice (some ⟨go14,0,none⟩) t160.length co17)) (by (with_reducible repeat (first|apply Kd.R_alloc|apply Kd.R_drewN|apply Kd.R_drew));exact HO170.out) (Kd.N_typed HO162.out) (by decide) hg);have n3_:=Aside0.mk ((by rw [hw];exact below_set (HB.out) (Nat.le_trans HL.out GB14.out):Below w0.heap.size w0 w25));have n4_:=Aside0.mk (KeepBut.trans zhk (KeepBut.of_grown hg g) (Kd.N_base2 HO162.out));clear HI0;clear HO162;clear HO170;clear HB;clear HK;have HI0:=n0_;have HO162:=n1_;have HO170:=n2_;have HB:=n3_;have HK:=n4_;clear n0_ n1_ n2_ n3_ n4_;clear hg hw hp_))
     go_ret
     exact ⟨_,by first|rfl|(simp [errW_none,errW_some] <;> rfl)|(simp [*,errW_none,errW_some] <;> rfl),by (with_reducible repeat (first|apply Kd.N_alloc|apply Kd.N_drewN|apply Kd.N_drew));exact Kd.N_mono HO162.out (fun _ hk=>hk.1),zi99,zg99,zhk⟩
    ·rw [if_neg c13] at H
     exact absurd H (by simp)
   ·rw [if_neg c12] at H
    exact absurd H (by simp)
  ·rw [if_neg c10] at H
   have c10b0:(t166 == 0)=false:=beq_eq_false_iff_ne.mpr c10
   have c10b1:(t166 != 0)=true:=bne_iff_ne.mpr c10
   by_cases c26:t166=1
   ·rw [if_pos c26] at H
    have c26b0:(t166 == 1)=true:=beq_iff_eq.mpr c26
    have c26b1:(t166 != 1)=false:=bne_eq_false_iff_eq.mpr c26
    clear c26
    obtain ⟨y174,hy174⟩ : ∃ y_:List Int,y_=(([]:List Int)):=⟨_,rfl⟩
    replace H:(if 0≤t164 then (if t164 < (t160.length:Int) then (some ((t160.set (t164:Int).toNat (⟨y174,(rd_T53 t160 t164).f1⟩:S53)),t167)) else (none)) else (none))=some (r1,r2):=by first|(rw [hy174];with_reducible exact H)|(have H2_:=(Option.bind_some _ _).symm.trans H;rw [hy174];with_reducible exact H2_)|(have H2_:=(Option.bind_some _ _).symm.trans H;with_reducible exact H2_)|with_reducible exact H|(rw [hy174];exact H)|exact H
    have Ny174:=Aside0.mk hy174
    clear hy174
    by_cases c27:0≤t164
    ·rw [if_pos c27] at H
     have c27b0:decide (0≤t164)=true:=decide_eq_true c27
     clear c27
     by_cases c28:t164 < (t160.length:Int)
     ·rw [if_pos c28] at H
      have c28b0:decide (t164 < (t160.length:Int))=true:=decide_eq_true c28
      clear c28
      obtain ⟨y177,hy177⟩ : ∃ y_:List (S53),y_=(t160.set (t164:Int).toNat (⟨y174,(rd_T53 t160 t164).f1⟩:S53)):=⟨_,rfl⟩
      replace H:(some (y177,t167))=some (r1,r2):=by first|(rw [hy177];with_reducible exact H)|(have H2_:=(Option.bind_some _ _).symm.trans H;rw [hy177];with_reducible exact H2_)|(have H2_:=(Option.bind_some _ _).symm.trans H;with_reducible exact H2_)|with_reducible exact H|(rw [hy177];exact H)|exact H
      have Ny177:=Aside0.mk hy177
      clear hy177
      simp only [Option.some.injEq,Prod.mk.injEq] at H
      obtain ⟨rfl,rfl⟩:=H
      go_enter Tryd.func79,Tryd.ntmps79
      go_wp2_with (first|((with_reducible refine gate_callee (f:=65) rfl ?_);refine goesL_ (some 8) rfl rfl Tryd.func65 (by kernel_rfl) rfl #[.pointer (some ⟨g,0,none⟩),.int .i64 3] rfl zar ?_;(with_reducible refine (spec_l12Rd_pick.calls g s0_0 s0_1 3 t158 t159 w0 _ ?side1 ?side2 A2.out).mono ?_);(case side1=>exact zi99);(case side2=>exact zg99);rintro e w30 ⟨rfl,hi,hb,hk⟩;refine ⟨_,rfl,?_⟩;have n0_:=Aside0.mk (KeepBut.trans zhk hk (.inl rfl));have n1_:=Aside0.mk (hb);have n2_:=Aside0.mk (hi);clear HK;clear HB;clear HI0;have HK:=n0_;have HB:=n1_;have HI0:=n2_;clear n0_ n1_ n2_;(try clear hb);(try clear hb2);(try clear hk);(try clear hi))|((with_reducible refine gate_callee (f:=103) rfl ?_);refine goesL_ (some 10) rfl rfl Tryd.func103 (by kernel_rfl) rfl #[.pointer (some ⟨g,0,none⟩),.int .i64 (wrap64 (1 + t158)),.int .i64 6] rfl zar ?_;(with_reducible refine (spec_l2Z.calls k g s0_0 t159 (wrap64 (1 + t158)) 6 t160 t163 w0 _ ?side1 ?side2 A3.out).mono ?_);(case side1=>exact zi99);(case side2=>exact zg99);rintro e w31 ⟨v161,rfl,ho0,hi,hb,hk⟩;refine ⟨_,rfl,?_⟩;have n0_:=Aside0.mk (Kd.N_lower (Kd.N_mono (ok':=fun k_=>(w.heap.size≤k_)∧k_≠g) ho0 (fun k_ hk_=>⟨(Nat.le_trans (keep_size (w:=w) (g:=g) (row:=none) zhk) hk_),(IsS99.fresh zi99 k_ hk_)⟩)) (keep_size (w:=w) (g:=g) (row:=none) zhk));have n1_:=Aside0.mk (KeepBut.trans zhk hk (.inl rfl));have n2_:=Aside0.mk (hb);have n3_:=Aside0.mk (hi);clear HK;clear HB;clear HI0;have HO162:=n0_;have HK:=n1_;have HB:=n2_;have HI0:=n3_;clear n0_ n1_ n2_ n3_;(try clear hb);(try clear hb2);(try clear hk);(try clear hi);(try clear ho0);obtain ⟨Ao32,co32,eo32⟩:=Kd.N_slice HO162.out;subst eo32)|((with_reducible refine gate_callee (f:=65) rfl ?_);refine goesL_ (some 18) rfl rfl Tryd.func65 (by kernel_rfl) rfl #[.pointer (some ⟨g,0,none⟩),.int .i64 (t160.length:Int)] rfl zar ?_;(with_reducible refine (spec_l12Rd_pick.calls g s0_0 t163 (t160.length:Int) t164 t165 w0 _ ?side1 ?side2 A8.out).mono ?_);(case side1=>exact zi99);(case side2=>exact zg99);rintro e w33 ⟨rfl,hi,hb,hk⟩;refine ⟨_,rfl,?_⟩;have n0_:=Aside0.mk (Kd.N_mono (Kd.N_keep (Kd.N_mono (ok:=fun k_=>(((w.heap.size≤k_))∧k_≠g)) (zN HO162.out) (fun k_ hk_=>(⟨hk_,hk_.2⟩:_∧k_≠g))) hk (fun _ h=>h.2)) (fun _ h=>h.1));have n1_:=Aside0.mk (KeepBut.trans zhk hk (.inl rfl));have n2_:=Aside0.mk (hb);have n3_:=Aside0.mk (hi);clear HO162;clear HK;clear HB;clear HI0;have HO162:=n0_;have HK:=n1_;have HB:=n2_;have HI0:=n3_;clear n0_ n1_ n2_ n3_;(try clear hb);(try clear hb2);(try clear hk);(try clear hi))|((with_reducible refine gate_callee (f:=65) rfl ?_);refine goesL_ (some 20) rfl rfl Tryd.func65 (by kernel_rfl) rfl #[.pointer (some ⟨g,0,none⟩),.int .i64 40] rfl zar ?_;(with_reducible refine (spec_l12Rd_pick.calls g s0_0 t165 40 t166 t167 w0 _ ?side1 ?side2 A9.out).mono ?_);(case side1=>exact zi99);(case side2=>exact zg99);rintro e w34 ⟨rfl,hi,hb,hk⟩;refine ⟨_,rfl,?_⟩;have n0_:=Aside0.mk (Kd.N_mono (Kd.N_keep (Kd.N_mono (ok:=fun k_=>(((w.heap.size≤k_))∧k_≠g)) (zN HO162.out) (fun k_ hk_=>(⟨hk_,hk_.2⟩:_∧k_≠g))) hk (fun _ h=>h.2)) (fun _ h=>h.1));have n1_:=Aside0.mk (KeepBut.trans zhk hk (.inl rfl));have n2_:=Aside0.mk (hb);have n3_:=Aside0.mk (hi);clear HO162;clear HK;clear HB;clear HI0;have HO162:=n0_;have HK:=n1_;have HB:=n2_;have HI0:=n3_;clear n0_ n1_ n2_ n3_;(try clear hb);(try clear hb2);(try clear hk);(try clear hi))|((with_reducible refine gate_dst (N:=34) rfl ?_);refine Kd.R_lit (Kd.int .i64) _ 3 ?hg (N:=34) ?hd (xs:=([]:List Int)) (inner:=[]) (ok:=fun _=>True) (okp:=fun _=>True) ?hr ?hp (fun _ hk=>hk) trivial (Below.refl _ _) (Nat.le_refl _) (by simp) ?_;(case hd=>rfl);(case hg=>rfl);(case hr=>first|(go_simp;done)|(go_simp;rfl));(case hp=>exact (Reps.none _ _));intro v175 w35 ho36 hb hg_ hnew_;clear hg_ hnew_;(first|rw [← Ny174.out] at ho36|(simp only [Int.reduceToNat] at ho36;rw [← Ny174.out] at ho36));have n0_:=Aside0.mk (Kd.N_elder' (zN HO162.out) (Kd.R_base ho36) hb);have n1_:=Aside0.mk (Kd.R_lower (Kd.R_newM (M:=fun k_=>(w.heap.size≤k_)) ho36 (keep_size (w:=w) (g:=g) (row:=none) zhk) (fun k_ h_=>h_)) (keep_size (w:=w) (g:=g) (row:=none) zhk));have n2_:=Aside0.mk (IsS99.below zi99 hb);have n3_:=Aside0.mk (KeepBut.trans zhk (KeepBut.of_below hb g none) (.inl rfl));have n4_:=Aside0.mk (below_step zg99 hb);clear HO162;clear HI0;clear HK;clear HB;have HO162:=n0_;have HO176:=n1_;have HI0:=n2_;have HK:=n3_;have HB:=n4_;clear n0_ n1_ n2_ n3_ n4_;clear hb ho36;have p29:0≤(t164:Int):=zod;have q29:(t164:Int) < ((t160.length:Int):Int):=zod;obtain ⟨go29,co29,eo29,gb29,gl29,cl29,HG29⟩:=Kd.N_form HO162.out (by omega);(first|cases eo29|(injection eo29 with ea_ en_ ec_;(first|subst ea_|(injection ea_ with ea_;subst ea_));subst ec_;clear en_));have GB29:=Aside0.mk gb29;have GG29:=Aside0.mk HG29;clear gb29 gl29 HG29;obtain ⟨ce29,hcl29,hM29,hcc29,hfr29⟩:=Kd.N_elem HO162.out z53 (t164:Int) p29 q29;obtain ⟨ua29_0,uc29_0,rfl,ul29_0,ge29_0⟩:=k53_openF hM29;have hx29_0:w35.cell? ⟨go29,(t164:Int).toNat * 2,none⟩=some (.slice ua29_0 ((rd_T53 t160 t164).f0).length uc29_0):=hcc29 0 _ rfl;have hx29_1:w35.cell? ⟨go29,(t164:Int).toNat * 2 + 1,none⟩=some (.int .i64 ((rd_T53 t160 t164).f1)):=hcc29 1 _ rfl;have hf29_0:w35.frozen? ⟨go29,(t164:Int).toNat * 2,none⟩=false:=hfr29 0;have hf29_1:w35.frozen? ⟨go29,(t164:Int).toNat * 2 + 1,none⟩=false:=hfr29 1;clear hcl29 hcc29 hfr29 hM29;replace p29:=eq_true p29;replace q29:=eq_true q29;obtain ⟨Ao39,co39,eo39⟩:=Kd.R_slice HO176.out;subst eo39;have n_:=Aside0.mk (Kd.N_mono (ok':=(fun k_=>(w.heap.size≤k_)∧some k_≠(.slice Ao39 y174.length co39:Value).ownBlock)) HO162.out (fun k_ hk=>⟨hk.1.1,hk.2⟩));clear HO162;have HO162:=n_;clear n_;have HX37:=Aside0.mk (show Kd.N k53 53 w35 w.heap.size (fun k_=>(w.heap.size≤k_)) (.slice (some ⟨go29,0,none⟩) t160.length co32) t160 from (by (with_reducible repeat (first|apply Kd.N_alloc|apply Kd.N_drewN|apply Kd.N_drew));exact Kd.N_mono HO162.out (fun _ hk=>hk.1)));obtain ⟨ce37,hcl37,hM37,hcc37,hfr37⟩:=Kd.N_elem HX37.out z53 (t164:Int) (zod) (by have h_:(t164:Int) < ((t160.length:Int):Int):=zod;first|exact h_|(have e_:=(Kd.N_reads' HO162.out).1;omega)|simpa using h_);obtain ⟨ua37_0,uc37_0,rfl,ul37_0,ge37_0⟩:=k53_openF hM37;have HP37:=Kd.N_seg HX37.out (t164:Int) (zod) (by have h_:(t164:Int) < ((t160.length:Int):Int):=zod;first|exact h_|(have e_:=(Kd.N_reads' HO162.out).1;omega)|simpa using h_) (seg:=[.slice Ao39 y174.length co39]) (j:=0) hcl37 hcc37 (show 1≤2 from by decide) (x':=(⟨y174,(rd_T53 t160 t164).f1⟩:S53)) (k53_mkF _ _ (⟨y174,(rd_T53 t160 t164).f1⟩:S53) (Kd.R_reads' (Kd.R_mono (ok':=(fun k_=>((fun k_=>(w.heap.size≤k_))) k_∧k_≠go29)) (Kd.R_apart' (HO176.out) (Kd.N_typed HO162.out) (by decide)) (fun k_ hk=>⟨hk.1.1,fun e_=>(hk.2) (by rw [e_];rfl)⟩))).2.1 (Kd.R_F (Kd.R_mono (ok':=(fun k_=>((fun k_=>(w.heap.size≤k_))) k_∧k_≠go29)) (Kd.R_apart' (HO176.out) (Kd.N_typed HO162.out) (by decide)) (fun k_ hk=>⟨hk.1.1,fun e_=>(hk.2) (by rw [e_];rfl)⟩)))) (fun _ hk=>hk);have hx37_0:=hcc37 0 _ rfl;(try simp only [show (k53).sz=2 from rfl,Nat.mul_one,Nat.add_zero] at hx37_0);have hf37_0:=hfr37 0;(try simp only [show (k53).sz=2 from rfl,Nat.mul_one,Nat.add_zero] at hf37_0);clear hcl37 hcc37 hfr37 hM37)|((with_reducible refine gate_store (t:=28) (p:=36) rfl ?_);refine store_event (t:=28) (p:=36) (v:=?vo_w38) (w1:=(w35.setCell ⟨go29,(t164:Int).toNat * 2,none⟩ (.slice Ao39 y174.length co39))) ?hg ?ho ?hn ?hr ?_;(case ho=>rfl);(case hg=>rfl);(case hn=>rfl);(case hr=>first|(go_simp;done)|(go_simp;rfl)|(obtain ⟨A0_,c0_,e0_⟩:=Kd.R_slice HO176.out;subst e0_;(first|(go_simp;done)|(go_simp;rfl))));intro w38 hw;have hg:w35.grownBy w38 (some go29):=(by rw [hw];exact HP37.2);have hp_:Kd.N k53 53 w38 w.heap.size (fun k_=>(w.heap.size≤k_)) (.slice (some ⟨go29,0,none⟩) t160.length co32) y177:=(by rw [hw,Ny177.out];exact HP37.1);clear HP37;have n0_:=Aside0.mk (IsS99.grown zi99 hg (IsS99.own_neN HI0.out HO162.out (by decide)));have n1_:=Aside0.mk (hp_);have n2_:=Aside0.mk ((by rw [hw];exact below_set (HB.out) (Nat.le_trans HL.out GB29.out):Below w0.heap.size w0 w38));have n3_:=Aside0.mk (KeepBut.trans zhk (KeepBut.of_grown hg g) (Kd.N_base2 HO162.out));clear HI0;clear HO162;clear HB;clear HK;clear HO176;have HI0:=n0_;have HO162:=n1_;have HB:=n2_;have HK:=n3_;clear n0_ n1_ n2_ n3_;clear hg hw hp_))
      go_ret
      exact ⟨_,by first|rfl|(simp [errW_none,errW_some] <;> rfl)|(simp [*,errW_none,errW_some] <;> rfl),by (with_reducible repeat (first|apply Kd.N_alloc|apply Kd.N_drewN|apply Kd.N_drew));exact HO162.out,zi99,zg99,zhk⟩
     ·rw [if_neg c28] at H
      exact absurd H (by simp)
    ·rw [if_neg c27] at H
     exact absurd H (by simp)
   ·rw [if_neg c26] at H
    have c26b0:(t166 == 1)=false:=beq_eq_false_iff_ne.mpr c26
    have c26b1:(t166 != 1)=true:=bne_iff_ne.mpr c26
    by_cases c40:t166=2
    ·rw [if_pos c40] at H
     have c40b0:(t166 == 2)=true:=beq_iff_eq.mpr c40
     have c40b1:(t166 != 2)=false:=bne_eq_false_iff_eq.mpr c40
     clear c40
     by_cases c41:0 < (t160.length:Int)
     ·rw [if_pos c41] at H
      have c41b0:decide (0 < (t160.length:Int))=true:=decide_eq_true c41
      have c41b1:decide (0 < t160.length)=true:=decide_eq_true (by omega)
      clear c41
      by_cases c42:t160.length < 4398046511104
      ·rw [if_pos c42] at H
       have LMc42:=Aside0.mk c42
       clear c42
       obtain ⟨y179,hy179⟩ : ∃ y_:List (S53),y_=(t160 ++ [(⟨(rd_T53 t160 0).f0,(rd_T53 t160 0).f1⟩:S53)]):=⟨_,rfl⟩
       replace H:(some (y179,t167))=some (r1,r2):=by first|(rw [hy179];with_reducible exact H)|(have H2_:=(Option.bind_some _ _).symm.trans H;rw [hy179];with_reducible exact H2_)|(have H2_:=(Option.bind_some _ _).symm.trans H;with_reducible exact H2_)|with_reducible exact H|(rw [hy179];exact H)|exact H
       have Ny179:=Aside0.mk hy179
       clear hy179
       simp only [Option.some.injEq,Prod.mk.injEq] at H
       obtain ⟨rfl,rfl⟩:=H
       go_enter Tryd.func79,Tryd.ntmps79
       go_wp2_with (first|((with_reducible refine gate_callee (f:=65) rfl ?_);refine goesL_ (some 8) rfl rfl Tryd.func65 (by kernel_rfl) rfl #[.pointer (some ⟨g,0,none⟩),.int .i64 3] rfl zar ?_;(with_reducible refine (spec_l12Rd_pick.calls g s0_0 s0_1 3 t158 t159 w0 _ ?side1 ?side2 A2.out).mono ?_);(case side1=>exact zi99);(case side2=>exact zg99);rintro e w43 ⟨rfl,hi,hb,hk⟩;refine ⟨_,rfl,?_⟩;have n0_:=Aside0.mk (KeepBut.trans zhk hk (.inl rfl));have n1_:=Aside0.mk (hb);have n2_:=Aside0.mk (hi);clear HK;clear HB;clear HI0;have HK:=n0_;have HB:=n1_;have HI0:=n2_;clear n0_ n1_ n2_;(try clear hb);(try clear hb2);(try clear hk);(try clear hi))|((with_reducible refine gate_callee (f:=103) rfl ?_);refine goesL_ (some 10) rfl rfl Tryd.func103 (by kernel_rfl) rfl #[.pointer (some ⟨g,0,none⟩),.int .i64 (wrap64 (1 + t158)),.int .i64 6] rfl zar ?_;(with_reducible refine (spec_l2Z.calls k g s0_0 t159 (wrap64 (1 + t158)) 6 t160 t163 w0 _ ?side1 ?side2 A3.out).mono ?_);(case side1=>exact zi99);(case side2=>exact zg99);rintro e w44 ⟨v161,rfl,ho0,hi,hb,hk⟩;refine ⟨_,rfl,?_⟩;have n0_:=Aside0.mk (Kd.N_lower (Kd.N_mono (ok':=fun k_=>(w.heap.size≤k_)∧k_≠g) ho0 (fun k_ hk_=>⟨(Nat.le_trans (keep_size (w:=w) (g:=g) (row:=none) zhk) hk_),(IsS99.fresh zi99 k_ hk_)⟩)) (keep_size (w:=w) (g:=g) (row:=none) zhk));have n1_:=Aside0.mk (KeepBut.trans zhk hk (.inl rfl));have n2_:=Aside0.mk (hb);have n3_:=Aside0.mk (hi);clear HK;clear HB;clear HI0;have HO162:=n0_;have HK:=n1_;have HB:=n2_;have HI0:=n3_;clear n0_ n1_ n2_ n3_;(try clear hb);(try clear hb2);(try clear hk);(try clear hi);(try clear ho0);obtain ⟨Ao45,co45,eo45⟩:=Kd.N_slice HO162.out;subst eo45)|((with_reducible refine gate_callee (f:=65) rfl ?_);refine goesL_ (some 18) rfl rfl Tryd.func65 (by kernel_rfl) rfl #[.pointer (some ⟨g,0,none⟩),.int .i64 (t160.length:Int)] rfl zar ?_;(with_reducible refine (spec_l12Rd_pick.calls g s0_0 t163 (t160.length:Int) t164 t165 w0 _ ?side1 ?side2 A8.out).mono ?_);(case side1=>exact zi99);(case side2=>exact zg99);rintro e w46 ⟨rfl,hi,hb,hk⟩;refine ⟨_,rfl,?_⟩;have n0_:=Aside0.mk (Kd.N_mono (Kd.N_keep (Kd.N_mono (ok:=fun k_=>(((w.heap.size≤k_))∧k_≠g)) (zN HO162.out) (fun k_ hk_=>(⟨hk_,hk_.2⟩:_∧k_≠g))) hk (fun _ h=>h.2)) (fun _ h=>h.1));have n1_:=Aside0.mk (KeepBut.trans zhk hk (.inl rfl));have n2_:=Aside0.mk (hb);have n3_:=Aside0.mk (hi);clear HO162;clear HK;clear HB;clear HI0;have HO162:=n0_;have HK:=n1_;have HB:=n2_;have HI0:=n3_;clear n0_ n1_ n2_ n3_;(try clear hb);(try clear hb2);(try clear hk);(try clear hi))|((with_reducible refine gate_callee (f:=65) rfl ?_);refine goesL_ (some 20) rfl rfl Tryd.func65 (by kernel_rfl) rfl #[.pointer (some ⟨g,0,none⟩),.int .i64 40] rfl zar ?_;(with_reducible refine (spec_l12Rd_pick.calls g s0_0 t165 40 t166 t167 w0 _ ?side1 ?side2 A9.out).mono ?_);(case side1=>exact zi99);(case side2=>exact zg99);rintro e w47 ⟨rfl,hi,hb,hk⟩;refine ⟨_,rfl,?_⟩;have n0_:=Aside0.mk (Kd.N_mono (Kd.N_keep (Kd.N_mono (ok:=fun k_=>(((w.heap.size≤k_))∧k_≠g)) (zN HO162.out) (fun k_ hk_=>(⟨hk_,hk_.2⟩:_∧k_≠g))) hk (fun _ h=>h.2)) (fun _ h=>h.1));have n1_:=Aside0.mk (KeepBut.trans zhk hk (.inl rfl));have n2_:=Aside0.mk (hb);have n3_:=Aside0.mk (hi);clear HO162;clear HK;clear HB;clear HI0;have HO162:=n0_;have HK:=n1_;have HB:=n2_;have HI0:=n3_;clear n0_ n1_ n2_ n3_;(try clear hb);(try clear hb2);(try clear hk);(try clear hi);have p178:0≤(0:Int):=(by omega);have q178:0 < (t160.length:Int):=zod;obtain ⟨ad178,A178_0,c178_0,e178,hx178_0,hx178_1,hl178_0,hi178_0⟩:=at_T53 (Kd.N_reads' HO162.out).2.2 0 p178 q178;cases e178;obtain ⟨ce178,hce178,hMe178,hcc178⟩:=Kd.N_get HO162.out z53 0 p178 (by first|exact q178|exact zod|(have e_:=(Kd.N_reads' HO162.out).1;omega));obtain ⟨ua178_0,uc178_0,rfl,ul178_0,ge178_0⟩:=k53_openF hMe178;have hv178_0:=hcc178 0 _ rfl;rw [Nat.add_zero] at hv178_0;replace hv178_0:=Option.some.inj (hv178_0.symm.trans hx178_0);injection hv178_0 with hva_ hvn_ hvc_;rw [hva_] at ge178_0;rw [hvc_] at ul178_0;have HL178_0:=Aside0.mk (show Kd.V (Kd.int .i64) 3 _ w.heap.size _ _ ((rd_T53 t160 0).f0) from Kd.V_mk ul178_0 ge178_0);clear hva_ hvn_ hvc_ ge178_0 ul178_0;clear hcc178 hce178;have qi178:(0 < t160.length)=True:=eq_true (by omega);(try rw [show ((0:Int)).toNat=0 from rfl] at hx178_0);(try rw [show 0 * 2=0 from rfl] at hx178_0);(try rw [Addr.add_zero'] at hx178_0);(try rw [show ((0:Int)).toNat=0 from rfl] at hx178_1);(try rw [show 0 * 2=0 from rfl] at hx178_1);(try rw [Addr.add_zero'] at hx178_1);have HR178_0:=Aside0.mk hi178_0;have HC178_0:=Aside0.mk hl178_0;clear hi178_0 hl178_0;replace p178:=eq_true p178;replace q178:=eq_true q178)|((with_reducible refine gate_builtin (b:=.append) (xs:=#[.tmp 39,.tmp 43]) rfl ?_);at_builtin;refine Kd.N_append k53 w.heap.size rfl (.tmp 39) (.tmp 43) 22 53 (.agg #[(.slice none 0 0),(.int .i64 0)]) 32 rfl Tryd.underlying22 info53 rfl (by decide) (by omega) (.slice (some ad178) t160.length co45) t160 (⟨(rd_T53 t160 0).f0,(rd_T53 t160 0).f1⟩:S53) [.slice A178_0 ((rd_T53 t160 0).f0).length c178_0,.int .i64 ((rd_T53 t160 0).f1)] (fun k_=>(w.heap.size≤k_)∧k_≠g) (fun k_=>((fun k_=>(w.heap.size≤k_)∧k_≠g)) k_∧some k_≠(.slice (some ad178) t160.length co45:Value).ownBlock) rfl rfl ?aP (fun _ hk=>hk) ?aF ?aO (Below.refl _ _) ?aS ?aL ?_;(case aP=>exact (k53_mkF _ _ (⟨(rd_T53 t160 0).f0,(rd_T53 t160 0).f1⟩:S53) (Kd.V_reads' (Kd.V_mono (ok':=(fun k_=>((fun k_=>(w.heap.size≤k_)∧k_≠g)) k_∧some k_≠(.slice (some ad178) t160.length co45:Value).ownBlock)) (HL178_0.out) (fun k_ hk=>⟨⟨hk.1.1,hk.1.2⟩,hk.2⟩))).2.1 (Kd.V_F (Kd.V_mono (ok':=(fun k_=>((fun k_=>(w.heap.size≤k_)∧k_≠g)) k_∧some k_≠(.slice (some ad178) t160.length co45:Value).ownBlock)) (HL178_0.out) (fun k_ hk=>⟨⟨hk.1.1,hk.1.2⟩,hk.2⟩)))));(case aF=>exact (fun k_ hk=>⟨(Nat.le_trans (keep_size (w:=w) (g:=g) (row:=none) zhk) hk),IsS99.fresh zi99 k_ hk⟩));(case aO=>exact (zN HO162.out));(case aS=>exact (keep_size (w:=w) (g:=g) (row:=none) zhk));(case aL=>have:=LMc42.out;omega);intro v180 w48 ho hb hg hat;rw [← Ny179.out] at ho;have n0_:=Aside0.mk (IsS99.grown zi99 hg (IsS99.own_neN HI0.out HO162.out (by decide)));have n1_:=Aside0.mk (Kd.V_afterv (ok:=(fun k_=>(w.heap.size≤k_)∧k_≠g)) (zV HL178_0.out) hg hat);have n2_:=Aside0.mk (below_weaken zg99 HL.out hb);have n3_:=Aside0.mk (KeepBut.trans zhk (KeepBut.of_grown hg g) (Kd.N_base2 HO162.out));have n4_:=Aside0.mk (ho);clear HI0;clear HL178_0;clear HB;clear HK;clear HO162;have HI0:=n0_;have HL178_0:=n1_;have HB:=n2_;have HK:=n3_;have HO181:=n4_;clear n0_ n1_ n2_ n3_ n4_;clear ho hb hg hat))
       go_ret
       exact ⟨_,by first|rfl|(simp [errW_none,errW_some] <;> rfl)|(simp [*,errW_none,errW_some] <;> rfl),by (with_reducible repeat (first|apply Kd.N_alloc|apply Kd.N_drewN|apply Kd.N_drew));exact Kd.N_mono HO181.out (fun _ hk=>hk.1),zi99,zg99,zhk⟩
      ·rw [if_neg c42] at H
       exact absurd H (by simp)
     ·rw [if_neg c41] at H
      exact absurd H (by simp)
    ·rw [if_neg c40] at H
     have c40b0:(t166 == 2)=false:=beq_eq_false_iff_ne.mpr c40
     have c40b1:(t166 != 2)=true:=bne_iff_ne.mpr c40
     by_cases c49:t166=3
     ·rw [if_pos c49] at H
      have c49b0:(t166 == 3)=true:=beq_iff_eq.mpr c49
      have c49b1:(t166 != 3)=false:=bne_eq_false_iff_eq.mpr c49
      clear c49
      have H':=Aside0.mk H
      clear H
      go_enter Tryd.func79,Tryd.ntmps79
      go_wp2_with (first|((with_reducible refine gate_callee (f:=65) rfl ?_);refine goesL_ (some 8) rfl rfl Tryd.func65 (by kernel_rfl) rfl #[.pointer (some ⟨g,0,none⟩),.int .i64 3] rfl zar ?_;(with_reducible refine (spec_l12Rd_pick.calls g s0_0 s0_1 3 t158 t159 w0 _ ?side1 ?side2 A2.out).mono ?_);(case side1=>exact zi99);(case side2=>exact zg99);rintro e w50 ⟨rfl,hi,hb,hk⟩;refine ⟨_,rfl,?_⟩;have n0_:=Aside0.mk (KeepBut.trans zhk hk (.inl rfl));have n1_:=Aside0.mk (hb);have n2_:=Aside0.mk (hi);clear HK;clear HB;clear HI0;have HK:=n0_;have HB:=n1_;have HI0:=n2_;clear n0_ n1_ n2_;(try clear hb);(try clear hb2);(try clear hk);(try clear hi))|((with_reducible refine gate_callee (f:=103) rfl ?_);refine goesL_ (some 10) rfl rfl Tryd.func103 (by kernel_rfl) rfl #[.pointer (some ⟨g,0,none⟩),.int .i64 (wrap64 (1 + t158)),.int .i64 6] rfl zar ?_;(with_reducible refine (spec_l2Z.calls k g s0_0 t159 (wrap64 (1 + t158)) 6 t160 t163 w0 _ ?side1 ?side2 A3.out).mono ?_);(case side1=>exact zi99);(case side2=>exact zg99);rintro e w51 ⟨v161,rfl,ho0,hi,hb,hk⟩;refine ⟨_,rfl,?_⟩;have n0_:=Aside0.mk (Kd.N_lower (Kd.N_mono (ok':=fun k_=>(w.heap.size≤k_)∧k_≠g) ho0 (fun k_ hk_=>⟨(Nat.le_trans (keep_size (w:=w) (g:=g) (row:=none) zhk) hk_),(IsS99.fresh zi99 k_ hk_)⟩)) (keep_size (w:=w) (g:=g) (row:=none) zhk));have n1_:=Aside0.mk (KeepBut.trans zhk hk (.inl rfl));have n2_:=Aside0.mk (hb);have n3_:=Aside0.mk (hi);clear HK;clear HB;clear HI0;have HO162:=n0_;have HK:=n1_;have HB:=n2_;have HI0:=n3_;clear n0_ n1_ n2_ n3_;(try clear hb);(try clear hb2);(try clear hk);(try clear hi);(try clear ho0);obtain ⟨Ao52,co52,eo52⟩:=Kd.N_slice HO162.out;subst eo52)|((with_reducible refine gate_callee (f:=65) rfl ?_);refine goesL_ (some 18) rfl rfl Tryd.func65 (by kernel_rfl) rfl #[.pointer (some ⟨g,0,none⟩),.int .i64 (t160.length:Int)] rfl zar ?_;(with_reducible refine (spec_l12Rd_pick.calls g s0_0 t163 (t160.length:Int) t164 t165 w0 _ ?side1 ?side2 A8.out).mono ?_);(case side1=>exact zi99);(case side2=>exact zg99);rintro e w53 ⟨rfl,hi,hb,hk⟩;refine ⟨_,rfl,?_⟩;have n0_:=Aside0.mk (Kd.N_mono (Kd.N_keep (Kd.N_mono (ok:=fun k_=>(((w.heap.size≤k_))∧k_≠g)) (zN HO162.out) (fun k_ hk_=>(⟨hk_,hk_.2⟩:_∧k_≠g))) hk (fun _ h=>h.2)) (fun _ h=>h.1));have n1_:=Aside0.mk (KeepBut.trans zhk hk (.inl rfl));have n2_:=Aside0.mk (hb);have n3_:=Aside0.mk (hi);clear HO162;clear HK;clear HB;clear HI0;have HO162:=n0_;have HK:=n1_;have HB:=n2_;have HI0:=n3_;clear n0_ n1_ n2_ n3_;(try clear hb);(try clear hb2);(try clear hk);(try clear hi))|((with_reducible refine gate_callee (f:=65) rfl ?_);refine goesL_ (some 20) rfl rfl Tryd.func65 (by kernel_rfl) rfl #[.pointer (some ⟨g,0,none⟩),.int .i64 40] rfl zar ?_;(with_reducible refine (spec_l12Rd_pick.calls g s0_0 t165 40 t166 t167 w0 _ ?side1 ?side2 A9.out).mono ?_);(case side1=>exact zi99);(case side2=>exact zg99);rintro e w54 ⟨rfl,hi,hb,hk⟩;refine ⟨_,rfl,?_⟩;have n0_:=Aside0.mk (Kd.N_mono (Kd.N_keep (Kd.N_mono (ok:=fun k_=>(((w.heap.size≤k_))∧k_≠g)) (zN HO162.out) (fun k_ hk_=>(⟨hk_,hk_.2⟩:_∧k_≠g))) hk (fun _ h=>h.2)) (fun _ h=>h.1));have n1_:=Aside0.mk (KeepBut.trans zhk hk (.inl rfl));have n2_:=Aside0.mk (hb);have n3_:=Aside0.mk (hi);clear HO162;clear HK;clear HB;clear HI0;have HO162:=n0_;have HK:=n1_;have HB:=n2_;have HI0:=n3_;clear n0_ n1_ n2_ n3_;(try clear hb);(try clear hb2);(try clear hk);(try clear hi)))
      go_loopg [3,5] k (fun kq v3 v5 w'=>∃ (x3_1:List (S53)) (x5_1:Int),v5=.int .i64 x5_1∧Aside0 (spec_l2Bent.l0 kq x3_1 x5_1 s0_0 t167=some (r1,r2))∧Aside0 (kq≤k)∧Aside0 (Kd.N k53 53 w' w.heap.size (fun k_=>(w.heap.size≤k_)∧k_≠g) v3 x3_1)∧Aside0 (IsS99 w0 w' g s0_0 t167)∧Aside0 (KeepBut w w' g none)∧Aside0 (Below w0.heap.size w0 w'))
      case atStart=>exact ⟨(t160),(0),(by first|rfl|(simp;done)|(simp [*];done)),H',⟨Nat.le_refl _⟩,⟨by (with_reducible repeat (first|apply Kd.N_alloc|apply Kd.N_drewN|apply Kd.N_drew));exact HO162.out⟩,⟨zi99⟩,⟨zhk⟩,⟨zg99⟩⟩
      case round =>
       clear H'
       try clear c1
       try clear p1
       try clear q1
       try clear hx1
       try clear qi1
       try clear hf1
       try clear c2
       try clear p2
       try clear q2
       try clear hx2
       try clear hf2
       try clear c3
       try clear hx3
       try clear hf3
       try clear c4
       try clear c4b0
       try clear c4b1
       try clear c4b2
       try clear c6
       try clear p6
       try clear c7
       try clear c8
       try clear c10
       try clear c10b0
       try clear c10b1
       try clear c12
       try clear c12b0
       try clear c13
       try clear c13b0
       try clear c14
       try clear p14
       try clear q14
       try clear hx14
       try clear hf14
       try clear c17
       try clear p17
       try clear q17
       try clear hx17
       try clear qi17
       try clear c24
       try clear hx24
       try clear hf24
       try clear c26
       try clear c26b0
       try clear c26b1
       try clear c27
       try clear c27b0
       try clear c28
       try clear c28b0
       try clear c29
       try clear p29
       try clear q29
       try clear hx29
       try clear hf29
       try clear c37
       try clear hx37
       try clear hf37
       try clear c40
       try clear c40b0
       try clear c40b1
       try clear c41
       try clear c41b0
       try clear c41b1
       try clear c42
       try clear c49
       try clear c49b0
       try clear c49b1
       try clear hx14_0
       try clear hx14_1
       try clear hx178_0
       try clear hx178_1
       try clear hx24_1
       try clear hx29_0
       try clear hx29_1
       try clear hx37_0
       try clear p14
       try clear p178
       try clear p29
       try clear q14
       try clear q178
       try clear q29
       obtain ⟨x3_1,x5_1,rfl,HA,HK1,HO_3,HI0,HK,HB⟩:=hrel
       cases gk with
       | zero=>exact absurd HA.out (by simp [spec_l2Bent.l0])
       | succ k1 =>
        have H:=HA.out
        clear HA
        simp only [spec_l2Bent.l0] at H
        by_cases c55:x5_1 < 101
        ·rw [if_pos c55] at H
         have c55b0:decide (x5_1 < 101)=true:=decide_eq_true c55
         clear c55
         obtain ⟨y182,hy182⟩ : ∃ y_:List Int,y_=(([wrap64 (10 + x5_1)]:List Int)):=⟨_,rfl⟩
         replace H:((spec_l2Put.f k1 x3_1 y182 1).bind fun t185=>(spec_l2Bent.l0 k1 t185 (wrap64 (x5_1 + 1)) s0_0 t167))=some (r1,r2):=by first|(rw [hy182];with_reducible exact H)|(have H2_:=(Option.bind_some _ _).symm.trans H;rw [hy182];with_reducible exact H2_)|(have H2_:=(Option.bind_some _ _).symm.trans H;with_reducible exact H2_)|with_reducible exact H|(rw [hy182];exact H)|exact H
         have Ny182:=Aside0.mk hy182
         clear hy182
         replace H:=Option.bind_eq_some_iff.mp H
         obtain ⟨t185,A560,H⟩:=H
         (try dsimp only at H)
         have A56:=Aside0.mk A560
         clear A560
         have H':=Aside0.mk H
         clear H
         go_wp2_with (first|((with_reducible refine gate_dst (N:=54) rfl ?_);refine Kd.R_lit (Kd.int .i64) _ 3 ?hg (N:=54) ?hd (xs:=([wrap64 (10 + x5_1)]:List Int)) (inner:=[.int .i64 (wrap64 (10 + x5_1))]) (ok:=fun _=>True) (okp:=fun _=>True) ?hr ?hp (fun _ hk=>hk) trivial (Below.refl _ _) (Nat.le_refl _) (by simp) ?_;(case hd=>rfl);(case hg=>rfl);(case hr=>first|(go_simp;done)|(go_simp;rfl));(case hp=>exact (Reps.one (show Kd.M (Kd.int .i64) _ _ _ (wrap64 (10 + x5_1)) [.int .i64 (wrap64 (10 + x5_1))] from rfl) (Reps.none _ _)));intro v183 w57 ho58 hb hg_ hnew_;clear hg_ hnew_;(first|rw [← Ny182.out] at ho58|(simp only [Int.reduceToNat] at ho58;rw [← Ny182.out] at ho58));have n0_:=Aside0.mk (Kd.N_elder' (zN HO_3.out) (Kd.R_base ho58) hb);have n1_:=Aside0.mk (Kd.R_lower (Kd.R_newM (M:=fun k_=>(w.heap.size≤k_)) ho58 (keep_size (w:=w) (g:=g) (row:=none) zhk) (fun k_ h_=>h_)) (keep_size (w:=w) (g:=g) (row:=none) zhk));have n2_:=Aside0.mk (IsS99.below zi99 hb);have n3_:=Aside0.mk (KeepBut.trans zhk (KeepBut.of_below hb g none) (.inl rfl));have n4_:=Aside0.mk (below_step zg99 hb);clear HO_3;clear HI0;clear HK;clear HB;have HO_3:=n0_;have HO184:=n1_;have HI0:=n2_;have HK:=n3_;have HB:=n4_;clear n0_ n1_ n2_ n3_ n4_;clear hb ho58;obtain ⟨Ao59,co59,eo59⟩:=Kd.N_slice HO_3.out;subst eo59;obtain ⟨Ao60,co60,eo60⟩:=Kd.R_slice HO184.out;subst eo60)|((with_reducible refine gate_callee (f:=104) rfl ?_);refine goesL_ (some 55) rfl rfl Tryd.func104 (by kernel_rfl) rfl #[.slice Ao59 x3_1.length co59,.slice Ao60 y182.length co60,.int .i64 1] rfl zar ?_;(refine (spec_l2Put.calls k1 w.heap.size (fun k_=>(w.heap.size≤k_)∧some k_≠(.slice Ao60 y182.length co60:Value).ownBlock∧k_≠g) (.slice Ao59 x3_1.length co59) x3_1 _ _ y182 1 t185 ?w0_ _ ?side1 ?side2 ?side3 ?side4 ?side5 ?side6 A56.out).mono ?_);(case side1=>exact (keep_size (w:=w) (g:=g) (row:=none) zhk));(case side2=>exact (Below.refl _ _));(case side3=>exact (by (with_reducible repeat (first|apply Kd.N_alloc|apply Kd.N_drewN|apply Kd.N_drew));exact Kd.N_mono HO_3.out (fun _ hk=>⟨hk.1.1,⟨hk.2,hk.1.2⟩⟩)));(case side4=>exact (fun k_ hk=>⟨(Nat.le_trans (keep_size (w:=w) (g:=g) (row:=none) zhk) hk),Kd.fresh' (Kd.R_lt (by (with_reducible repeat (first|apply Kd.R_alloc|apply Kd.R_drewN|apply Kd.R_drew));exact HO184.out)) k_ hk,IsS99.fresh zi99 k_ hk⟩));(case side5=>repeat (first|exact (Kd.R_reads' HO184.out).2.2|(with_reducible refine Kd.C_alloc ?_ _)|(with_reducible refine Kd.C_drewN ?_ _)|(with_reducible refine Kd.C_drew ?_)));(case side6=>exact (Kd.R_reads' HO184.out).2.1);rintro e w61 ⟨v186,rfl,ho,hb,hg,hat⟩;refine ⟨_,rfl,?_⟩;have n0_:=Aside0.mk (IsS99.grown zi99 hg (IsS99.own_neN HI0.out HO_3.out (by decide)));have n1_:=Aside0.mk (Kd.R_over' (by (with_reducible repeat (first|apply Kd.R_alloc|apply Kd.R_drewN|apply Kd.R_drew));exact HO184.out) (Kd.N_typed (zN HO_3.out)) (by decide) hg);have n2_:=Aside0.mk (below_weaken zg99 HL.out hb);have n3_:=Aside0.mk (KeepBut.trans zhk (KeepBut.of_grown hg g) (Kd.N_base2 HO_3.out));have n4_:=Aside0.mk (ho);clear HI0;clear HO184;clear HB;clear HK;clear HO_3;have HI0:=n0_;have HO184:=n1_;have HB:=n2_;have HK:=n3_;have HO187:=n4_;clear n0_ n1_ n2_ n3_ n4_;clear ho hb hg hat))
         go_roundg k1
         case measure=>have:=HK1.out;omega
         case rel=>exact ⟨(t185),(wrap64 (x5_1 + 1)),(by first|rfl|(simp;done)|(simp [*];done)),H',⟨by have:=HK1.out;omega⟩,⟨by (with_reducible repeat (first|apply Kd.N_alloc|apply Kd.N_drewN|apply Kd.N_drew));exact Kd.N_mono HO187.out (fun _ hk=>⟨hk.1,hk.2.2⟩)⟩,⟨zi99⟩,⟨zhk⟩,⟨zg99⟩⟩
        ·rw [if_neg c55] at H
         have c55b0:decide (x5_1 < 101)=false:=decide_eq_false c55
         clear c55
         simp only [Option.some.injEq,Prod.mk.injEq] at H
         obtain ⟨rfl,rfl⟩:=H
         go_wp2
         go_ret
         exact ⟨_,by first|rfl|(simp [errW_none,errW_some] <;> rfl)|(simp [*,errW_none,errW_some] <;> rfl),by (with_reducible repeat (first|apply Kd.N_alloc|apply Kd.N_drewN|apply Kd.N_drew));exact Kd.N_mono HO_3.out (fun _ hk=>hk.1),zi99,zg99,zhk⟩
     ·rw [if_neg c49] at H
      have c49b0:(t166 == 3)=false:=beq_eq_false_iff_ne.mpr c49
      have c49b1:(t166 != 3)=true:=bne_iff_ne.mpr c49
      simp only [Option.some.injEq,Prod.mk.injEq] at H
      obtain ⟨rfl,rfl⟩:=H
      go_enter Tryd.func79,Tryd.ntmps79
      go_wp2_with (first|((with_reducible refine gate_callee (f:=65) rfl ?_);refine goesL_ (some 8) rfl rfl Tryd.func65 (by kernel_rfl) rfl #[.pointer (some ⟨g,0,none⟩),.int .i64 3] rfl zar ?_;(with_reducible refine (spec_l12Rd_pick.calls g s0_0 s0_1 3 t158 t159 w0 _ ?side1 ?side2 A2.out).mono ?_);(case side1=>exact zi99);(case side2=>exact zg99);rintro e w62 ⟨rfl,hi,hb,hk⟩;refine ⟨_,rfl,?_⟩;have n0_:=Aside0.mk (KeepBut.trans zhk hk (.inl rfl));have n1_:=Aside0.mk (hb);have n2_:=Aside0.mk (hi);clear HK;clear HB;clear HI0;have HK:=n0_;have HB:=n1_;have HI0:=n2_;clear n0_ n1_ n2_;(try clear hb);(try clear hb2);(try clear hk);(try clear hi))|((with_reducible refine gate_callee (f:=103) rfl ?_);refine goesL_ (some 10) rfl rfl Tryd.func103 (by kernel_rfl) rfl #[.pointer (some ⟨g,0,none⟩),.int .i64 (wrap64 (1 + t158)),.int .i64 6] rfl zar ?_;(with_reducible refine (spec_l2Z.calls k g s0_0 t159 (wrap64 (1 + t158)) 6 t160 t163 w0 _ ?side1 ?side2 A3.out).mono ?_);(case side1=>exact zi99);(case side2=>exact zg99);rintro e w63 ⟨v161,rfl,ho0,hi,hb,hk⟩;refine ⟨_,rfl,?_⟩;have n0_:=Aside0.mk (Kd.N_lower (Kd.N_mono (ok':=fun k_=>(w.heap.size≤k_)∧k_≠g) ho0 (fun k_ hk_=>⟨(Nat.le_trans (keep_size (w:=w) (g:=g) (row:=none) zhk) hk_),(IsS99.fresh zi99 k_ hk_)⟩)) (keep_size (w:=w) (g:=g) (row:=none) zhk));have n1_:=Aside0.mk (KeepBut.trans zhk hk (.inl rfl));have n2_:=Aside0.mk (hb);have n3_:=Aside0.mk (hi);clear HK;clear HB;clear HI0;have HO162:=n0_;have HK:=n1_;have HB:=n2_;have HI0:=n3_;clear n0_ n1_ n2_ n3_;(try clear hb);(try clear hb2);(try clear hk);(try clear hi);(try clear ho0);obtain ⟨Ao64,co64,eo64⟩:=Kd.N_slice HO162.out;subst eo64)|((with_reducible refine gate_callee (f:=65) rfl ?_);refine goesL_ (some 18) rfl rfl Tryd.func65 (by kernel_rfl) rfl #[.pointer (some ⟨g,0,none⟩),.int .i64 (t160.length:Int)] rfl zar ?_;(with_reducible refine (spec_l12Rd_pick.calls g s0_0 t163 (t160.length:Int) t164 t165 w0 _ ?side1 ?side2 A8.out).mono ?_);(case side1=>exact zi99);(case side2=>exact zg99);rintro e w65 ⟨rfl,hi,hb,hk⟩;refine ⟨_,rfl,?_⟩;have n0_:=Aside0.mk (Kd.N_mono (Kd.N_keep (Kd.N_mono (ok:=fun k_=>(((w.heap.size≤k_))∧k_≠g)) (zN HO162.out) (fun k_ hk_=>(⟨hk_,hk_.2⟩:_∧k_≠g))) hk (fun _ h=>h.2)) (fun _ h=>h.1));have n1_:=Aside0.mk (KeepBut.trans zhk hk (.inl rfl));have n2_:=Aside0.mk (hb);have n3_:=Aside0.mk (hi);clear HO162;clear HK;clear HB;clear HI0;have HO162:=n0_;have HK:=n1_;have HB:=n2_;have HI0:=n3_;clear n0_ n1_ n2_ n3_;(try clear hb);(try clear hb2);(try clear hk);(try clear hi))|((with_reducible refine gate_callee (f:=65) rfl ?_);refine goesL_ (some 20) rfl rfl Tryd.func65 (by kernel_rfl) rfl #[.pointer (some ⟨g,0,none⟩),.int .i64 40] rfl zar ?_;(with_reducible refine (spec_l12Rd_pick.calls g s0_0 t165 40 t166 t167 w0 _ ?side1 ?side2 A9.out).mono ?_);(case side1=>exact zi99);(case side2=>exact zg99);rintro e w66 ⟨rfl,hi,hb,hk⟩;refine ⟨_,rfl,?_⟩;have n0_:=Aside0.mk (Kd.N_mono (Kd.N_keep (Kd.N_mono (ok:=fun k_=>(((w.heap.size≤k_))∧k_≠g)) (zN HO162.out) (fun k_ hk_=>(⟨hk_,hk_.2⟩:_∧k_≠g))) hk (fun _ h=>h.2)) (fun _ h=>h.1));have n1_:=Aside0.mk (KeepBut.trans zhk hk (.inl rfl));have n2_:=Aside0.mk (hb);have n3_:=Aside0.mk (hi);clear HO162;clear HK;clear HB;clear HI0;have HO162:=n0_;have HK:=n1_;have HB:=n2_;have HI0:=n3_;clear n0_ n1_ n2_ n3_;(try clear hb);(try clear hb2);(try clear hk);(try clear hi)))
      go_ret
      exact ⟨_,by first|rfl|(simp [errW_none,errW_some] <;> rfl)|(simp [*,errW_none,errW_some] <;> rfl),by (with_reducible repeat (first|apply Kd.N_alloc|apply Kd.N_drewN|apply Kd.N_drew));exact Kd.N_mono HO162.out (fun _ hk=>hk.1),zi99,zg99,zhk⟩

/-! ### spec_l2Copy: function 80 -/
def spec_l2Copy.l0:Nat→List (S53)→List (S53)→Int→Option ((List (S53)))
 | 0,_,_,_=>none
 | k + 1,x0,x3,x4=>if x4 < (x0.length:Int) then (if 0≤x4 then ((spec_l1Copy.f ((rd_T53 x0 x4).f0)).bind fun t192=>(if x3.length < 4398046511104 then (spec_l2Copy.l0 k x0 (x3 ++ [(⟨t192,(rd_T53 x0 x4).f1⟩:S53)]) (wrap64 (x4 + 1))) else (none))) else (none)) else (some x3)
def spec_l2Copy.f (k:Nat) (l0:List (S53)):Option ((List (S53))):=spec_l2Copy.l0 k l0 (([]:List (S53))) 0
theorem spec_l2Copy.mono_l : ∀ k,(∀ y0 y1 y2,LeO (spec_l2Copy.l0 k y0 y1 y2) (spec_l2Copy.l0 (k + 1) y0 y1 y2))
 | 0=>fun _ _ _ r h=>by simp [spec_l2Copy.l0] at h
 | k + 1=>by
  have ih0:=spec_l2Copy.mono_l k
  ·intro y0 y1 y2
   unfold spec_l2Copy.l0
   repeat' first
   | (with_reducible exact ih0 _ _ _)
   | (with_reducible exact LeO.refl _)
   | (with_reducible exact LeO.none _)
   | (with_reducible refine LeO.ite ?_ ?_)
   | (with_reducible refine LeO.bind ?_ (fun _=>?_))
   | exact LeO.none _
   | refine LeO.ite ?_ ?_
   | refine LeO.bind ?_ (fun _=>?_)
theorem spec_l2Copy.mono : ∀ a0 k,LeO (spec_l2Copy.f k a0) (spec_l2Copy.f (k + 1) a0):=by
 intro a0 k
 have ih0:=spec_l2Copy.mono_l k
 unfold spec_l2Copy.f
 repeat' first
   | (with_reducible exact ih0 _ _ _)
   | (with_reducible exact LeO.refl _)
   | (with_reducible exact LeO.none _)
   | (with_reducible refine LeO.ite ?_ ?_)
   | (with_reducible refine LeO.bind ?_ (fun _=>?_))
   | exact LeO.none _
   | refine LeO.ite ?_ ?_
   | refine LeO.bind ?_ (fun _=>?_)
def spec_l2Copy.T5:Bool × List (List Nat × List Nat):=(true,[([],[]),([],[]),([],[]),([1,2],[1,2]),([3],[3]),([4],[4]),([5],[5]),([],[]),([],[]),([7,8],[7,8]),([9],[9]),([10],[10]),([6,11],[6,11]),([12],[12]),([0,13,6],[0,13]),([14,14,0,1,2,3,4,5,6,7,8,9,10,11,12,13,14],[0,14])])
def spec_l2Copy.B5:List Nat:=[0,0,0,6,14,30,62,0,0,384,896,1920,4094,8190,16383,32767]
theorem spec_l2Copy.tab5:rtab .any (opsOf Tryd.f80 5)=spec_l2Copy.T5:=by kernel_rfl
theorem spec_l2Copy.bits5:waitsOk spec_l2Copy.T5.2 spec_l2Copy.B5=true:=by kernel_rfl
set_option maxHeartbeats 8000000 in
set_option maxRecDepth 100000 in
theorem spec_l2Copy.calls (k:Nat) (A0:Option Addr) (c0:Nat) (l0:List (S53)) (r:List (S53)) (w:World) (hr0:Kd.C k53 w A0 l0.length l0) (hc0:l0.length≤c0) (h:spec_l2Copy.f k l0=some r) :
  Calls Tryd.prog 80 #[.slice A0 l0.length c0] w fun e w'=>∃ v0_:Value,e=.returned (v0_)∧Kd.S k53 53 w' w.heap.size (fun _=>True) v0_ r∧Below w.heap.size w w':=by
 have hu53:=Tryd.underlying53
 have HR0:=Aside0.mk hr0
 have HC0:=Aside0.mk hc0
 clear hr0 hc0
 have HB:=Aside0.mk (Below.refl w.heap.size w)
 have H:(spec_l2Copy.l0 k l0 (([]:List (S53))) 0)=some r:=h
 clear h
 obtain ⟨y188,hy188⟩ : ∃ y_:List (S53),y_=(([]:List (S53))):=⟨_,rfl⟩
 replace H:(spec_l2Copy.l0 k l0 y188 0)=some r:=by first|(rw [hy188];with_reducible exact H)|(have H2_:=(Option.bind_some _ _).symm.trans H;rw [hy188];with_reducible exact H2_)|(have H2_:=(Option.bind_some _ _).symm.trans H;with_reducible exact H2_)|with_reducible exact H|(rw [hy188];exact H)|exact H
 have Ny188:=Aside0.mk hy188
 clear hy188
 have H':=Aside0.mk H
 clear H
 go_enter Tryd.func80,Tryd.ntmps80
 go_wp2_with (first|((with_reducible refine gate_dst (N:=5) rfl ?_);refine Kd.S_lit k53 _ 53 ?hg (N:=5) ?hd (xs:=([]:List (S53))) (inner:=[]) (ok:=fun _=>True) (okp:=fun _=>True) ?hr ?hp (fun _ hk=>hk) trivial (Below.refl _ _) (Nat.le_refl _) (by simp) ?_;(case hd=>rfl);(case hg=>rfl);(case hr=>first|(go_simp;done)|(go_simp;rfl));(case hp=>exact (Reps.none _ _));intro v189 w2 ho3 hb hg_ hnew_;clear hg_ hnew_;(first|rw [← Ny188.out] at ho3|(simp only [Int.reduceToNat] at ho3;rw [← Ny188.out] at ho3));have n0_:=Aside0.mk (Kd.S_lower ho3 (below_size zhb));have n1_:=Aside0.mk (below_step zhb hb);clear HB;have HO190:=n0_;have HB:=n1_;clear n0_ n1_;clear hb ho3))
 go_loopg [3,4] k (fun kq v3 v4 w'=>∃ (x3_1:List (S53)) (x4_1:Int),v4=.int .i64 x4_1∧Aside0 (spec_l2Copy.l0 kq l0 x3_1 x4_1=some r)∧Aside0 (kq≤k)∧Aside0 (Kd.S k53 53 w' w.heap.size (fun _=>True) v3 x3_1)∧Aside0 (Below w.heap.size w w'))
 case atStart=>exact ⟨(y188),(0),(by first|rfl|(simp;done)|(simp [*];done)),H',⟨Nat.le_refl _⟩,⟨by (with_reducible repeat (first|apply Kd.S_alloc|apply Kd.S_drewN|apply Kd.S_drew));exact HO190.out⟩,⟨zhb⟩⟩
 case round =>
  clear H'
  try clear p2
  obtain ⟨x3_1,x4_1,rfl,HA,HK1,HO_3,HB⟩:=hrel
  cases gk with
  | zero=>exact absurd HA.out (by simp [spec_l2Copy.l0])
  | succ k1 =>
   have H:=HA.out
   clear HA
   simp only [spec_l2Copy.l0] at H
   by_cases c4:x4_1 < (l0.length:Int)
   ·rw [if_pos c4] at H
    have c4b0:decide (x4_1 < (l0.length:Int))=true:=decide_eq_true c4
    clear c4
    by_cases c5:0≤x4_1
    ·rw [if_pos c5] at H
     have c5b0:decide (0≤x4_1)=true:=decide_eq_true c5
     clear c5
     replace H:=Option.bind_eq_some_iff.mp H
     obtain ⟨t192,A60,H⟩:=H
     (try dsimp only at H)
     have A6:=Aside0.mk A60
     clear A60
     by_cases c7:x3_1.length < 4398046511104
     ·rw [if_pos c7] at H
      have LMc7:=Aside0.mk c7
      clear c7
      obtain ⟨y196,hy196⟩ : ∃ y_:List (S53),y_=(x3_1 ++ [(⟨t192,(rd_T53 l0 x4_1).f1⟩:S53)]):=⟨_,rfl⟩
      replace H:(spec_l2Copy.l0 k1 l0 y196 (wrap64 (x4_1 + 1)))=some r:=by first|(rw [hy196];with_reducible exact H)|(have H2_:=(Option.bind_some _ _).symm.trans H;rw [hy196];with_reducible exact H2_)|(have H2_:=(Option.bind_some _ _).symm.trans H;with_reducible exact H2_)|with_reducible exact H|(rw [hy196];exact H)|exact H
      have Ny196:=Aside0.mk hy196
      clear hy196
      have H':=Aside0.mk H
      clear H
      try go_wp2
      have n0_:=Aside0.mk (Kd.S_drew HO_3.out)
      have n1_:=Aside0.mk (below_drew1 HB.out)
      clear HO_3
      clear HB
      have HO_3:=n0_
      have HB:=n1_
      clear n0_ n1_
      have p191:0≤(x4_1:Int):=zod
      have q191:x4_1 < (l0.length:Int):=zod
      obtain ⟨ad191,A191_0,c191_0,e191,hx191_0,hx191_1,hl191_0,hi191_0⟩:=at_T53 HR0.out x4_1 p191 q191
      have hw191_1:=hx191_1
      have hw191_0:=hx191_0
      cases e191
      replace hx191_0:=(HB.out.cell (World.block_lt_of_cell? w _ hx191_0)).trans hx191_0
      replace hx191_1:=(HB.out.cell (World.block_lt_of_cell? w _ hx191_1)).trans hx191_1
      have HR191_0:=Aside0.mk hi191_0
      have HC191_0:=Aside0.mk hl191_0
      clear hi191_0 hl191_0
      replace p191:=eq_true p191
      replace q191:=eq_true q191
      have p195:0≤(x4_1:Int):=zod
      have q195:x4_1 < (l0.length:Int):=zod
      obtain ⟨ad195,A195_0,c195_0,e195,hx195_0,hx195_1,hl195_0,hi195_0⟩:=at_T53 HR0.out x4_1 p195 q195
      have hw195_1:=hx195_1
      have hw195_0:=hx195_0
      obtain rfl:ad191=ad195:=(by injection e195)
      replace hx195_0:=(HB.out.cell (World.block_lt_of_cell? w _ hx195_0)).trans hx195_0
      replace hx195_1:=(HB.out.cell (World.block_lt_of_cell? w _ hx195_1)).trans hx195_1
      have HR195_0:=Aside0.mk hi195_0
      have HC195_0:=Aside0.mk hl195_0
      clear hi195_0 hl195_0
      replace p195:=eq_true p195
      replace q195:=eq_true q195
      have ea_:=Option.some.inj (hx191_0.symm.trans hx195_0)
      injection ea_ with ea_ en_ ec_
      subst ea_
      subst ec_
      clear en_
      refine start_ (n:=16) (S:=fun w'=>w'.cell? (ad191.add ((x4_1).toNat * 2))=some (.slice A191_0 ((rd_T53 l0 x4_1).f0).length c191_0)∧w'.cell? ⟨(ad191.add ((x4_1).toNat * 2)).block,(ad191.add ((x4_1).toNat * 2)).off + 1,none⟩=some (.int .i64 ((rd_T53 l0 x4_1).f1))∧w'.cell? (ad191.add ((x4_1).toNat * 2))=some (.slice A191_0 ((rd_T53 l0 x4_1).f0).length c191_0)∧w'.cell? ⟨(ad191.add ((x4_1).toNat * 2)).block,(ad191.add ((x4_1).toNat * 2)).off + 1,none⟩=some (.int .i64 ((rd_T53 l0 x4_1).f1))) (ds:=[]) #[X,X,X,X,X,X,X,X,X,X,X,X,X,X,X,X] (by kernel_rfl) rfl rfl ⟨((HB.out.cell (World.block_lt_of_cell? w _ hw191_0)).trans hw191_0),((HB.out.cell (World.block_lt_of_cell? w _ hw191_1)).trans hw191_1),((HB.out.cell (World.block_lt_of_cell? w _ hw195_0)).trans hw195_0),((HB.out.cell (World.block_lt_of_cell? w _ hw195_1)).trans hw195_1)⟩ (fun hHeld=>?_);refine with_tabW spec_l2Copy.tab5 spec_l2Copy.bits5 (fun HT_ HW_=>?_)
      generalize wr.drew=w8 at HO_3 HB HR191_0 HR195_0 hx191_0 hx191_1 hx195_0 hx195_1 hHeld ⊢
      refine pure_ (i:=0) (N:=some 12) (v:=?_) (a':=?_) #[Y,X,X,X,X,X,X,X,X,X,X,X,X,X,X,X] rfl rfl zan (fun _ _ _ h=>h) (Or.inl ⟨by rfl,?_⟩) ?_ ?_
      rotate_left
      ·intro w'
       go_simp
       with_reducible rfl
      rotate_left
      ·simp only [Act.put,zp1,zp2,zp3,i64_w,i32_w]
       rfl
      refine pure_ (i:=1) (N:=some 13) (v:=?_) (a':=?_) #[Y,Y,X,X,X,X,X,X,X,X,X,X,X,X,X,X] rfl rfl zan (fun _ _ _ h=>h) (Or.inl ⟨by rfl,?_⟩) ?_ ?_
      rotate_left
      ·intro w'
       go_simp
       with_reducible rfl
      rotate_left
      ·simp only [Act.put,zp1,zp2,zp3,i64_w,i32_w]
       rfl
      refine pure_ (i:=2) (N:=some 14) (v:=?_) (a':=?_) #[Y,Y,Y,X,X,X,X,X,X,X,X,X,X,X,X,X] rfl rfl zan (fun _ _ _ h=>h) (Or.inl ⟨by rfl,?_⟩) ?_ ?_
      rotate_left
      ·intro w'
       go_simp
       with_reducible rfl
      rotate_left
      ·simp only [Act.put,zp1,zp2,zp3,i64_w,i32_w]
       rfl
      refine pure_ (i:=3) (N:=some 15) (v:=?_) (a':=?_) #[Y,Y,Y,Y,X,X,X,X,X,X,X,X,X,X,X,X] rfl rfl zan (fun _ _ _ h=>h) (Or.inl ⟨by rfl,?_⟩) ?_ ?_
      rotate_left
      ·intro w'
       go_simp
       with_reducible rfl
      rotate_left
      ·simp only [Act.put,zp1,zp2,zp3,i64_w,i32_w]
       rfl
      refine pure_ (i:=4) (N:=some 16) (v:=?_) (a':=?_) #[Y,Y,Y,Y,Y,X,X,X,X,X,X,X,X,X,X,X] rfl rfl zan (fun _ _ _ h=>h) (Or.inl ⟨by rfl,?_⟩) ?_ ?_
      rotate_left
      ·intro w'
       go_simp
       with_reducible rfl
      rotate_left
      ·simp only [Act.put,zp1,zp2,zp3,i64_w,i32_w]
       rfl
      refine pure_ (i:=7) (N:=some 19) (v:=?_) (a':=?_) #[Y,Y,Y,Y,Y,X,X,Y,X,X,X,X,X,X,X,X] rfl rfl zan (fun _ _ _ h=>h) (Or.inl ⟨by rfl,?_⟩) ?_ ?_
      rotate_left
      ·intro w'
       go_simp
       with_reducible rfl
      rotate_left
      ·simp only [Act.put,zp1,zp2,zp3,i64_w,i32_w]
       rfl
      refine pure_ (i:=8) (N:=some 20) (v:=?_) (a':=?_) #[Y,Y,Y,Y,Y,X,X,Y,Y,X,X,X,X,X,X,X] rfl rfl zan (fun _ _ _ h=>h) (Or.inl ⟨by rfl,?_⟩) ?_ ?_
      rotate_left
      ·intro w'
       go_simp
       with_reducible rfl
      rotate_left
      ·simp only [Act.put,zp1,zp2,zp3,i64_w,i32_w]
       rfl
      refine pure_ (i:=9) (N:=some 21) (v:=?_) (a':=?_) #[Y,Y,Y,Y,Y,X,X,Y,Y,Y,X,X,X,X,X,X] rfl rfl zan (fun _ _ _ h=>h) (Or.inl ⟨by rfl,?_⟩) ?_ ?_
      rotate_left
      ·intro w'
       go_simp
       with_reducible rfl
      rotate_left
      ·simp only [Act.put,zp1,zp2,zp3,i64_w,i32_w]
       rfl
      refine pure_ (i:=10) (N:=some 22) (v:=?_) (a':=?_) #[Y,Y,Y,Y,Y,X,X,Y,Y,Y,Y,X,X,X,X,X] rfl rfl zan (fun _ _ _ h=>h) (Or.inl ⟨by rfl,?_⟩) ?_ ?_
      rotate_left
      ·intro w'
       go_simp
       with_reducible rfl
      rotate_left
      ·simp only [Act.put,zp1,zp2,zp3,i64_w,i32_w]
       rfl
      refine take_ (i:=5) (N:=some 17) (v:=?_) (a':=?_) #[Y,Y,Y,Y,Y,Y,X,Y,Y,Y,Y,X,X,X,X,X] rfl rfl ztw (fun _ _ _ h=>h) (Or.inl ⟨by rfl,?_⟩) hHeld ?_ ?_
      rotate_left
      ·rintro w' ⟨s0,s1,s2,s3⟩
       go_simp
       with_reducible rfl
      rotate_left
      ·simp only [Act.put,zp1,zp2,zp3,i64_w,i32_w]
       rfl
      refine take_ (i:=11) (N:=some 23) (v:=?_) (a':=?_) #[Y,Y,Y,Y,Y,Y,X,Y,Y,Y,Y,Y,X,X,X,X] rfl rfl ztw (fun _ _ _ h=>h) (Or.inl ⟨by rfl,?_⟩) hHeld ?_ ?_
      rotate_left
      ·rintro w' ⟨s0,s1,s2,s3⟩
       go_simp
       with_reducible rfl
      rotate_left
      ·simp only [Act.put,zp1,zp2,zp3,i64_w,i32_w]
       rfl
      refine one_ (i:=6) (N:=some 18) #[Y,Y,Y,Y,Y,Y,Y,Y,Y,Y,Y,Y,X,X,X,X] rfl rfl (one_of HT_.out (by kernel_rfl)) (by decide) (fun K hK=>?_)
      refine goes_ Tryd.func105 (by kernel_rfl) rfl #[.slice A191_0 ((rd_T53 l0 x4_1).f0).length c191_0] (by rfl) rfl rfl zar ?_
      with_reducible refine (spec_l1Copy.calls _ _ ((rd_T53 l0 x4_1).f0) t192 _ ?side1 ?side2 A6.out).mono ?_
      (case side1=>exact zC (Kd.C_below HR191_0.out HB.out))
      (case side2=>exact HC191_0.out)
      rintro e w9 ⟨v193,rfl,ho0,hb⟩
      refine ⟨_,rfl,?_⟩
      have n0_:=Aside0.mk (Kd.S_elder' (by (with_reducible repeat (first|apply Kd.S_alloc|apply Kd.S_drewN|apply Kd.S_drew));exact HO_3.out) (Kd.R_base ho0) hb)
      have n1_:=Aside0.mk (Kd.R_lower ho0 (below_size zhb))
      have n2_:=Aside0.mk (below_step zhb hb)
      clear HO_3
      clear HB
      have HO_3:=n0_
      have HO194:=n1_
      have HB:=n2_
      clear n0_ n1_ n2_
      (try clear hb)
      (try clear hb2)
      (try clear hk)
      (try clear hi)
      (try clear ho0)
      obtain ⟨Ao10,co10,eo10⟩:=Kd.R_slice HO194.out
      (first|subst eo10|(injection eo10 with f1_ f2_ f3_;have f4_:=f1_.symm;have f5_:=f3_.symm;clear f1_ f2_ f3_;subst f4_;subst f5_))
      refine hK.out _ _ ⟨((HB.out.cell (World.block_lt_of_cell? w _ hw191_0)).trans hw191_0),((HB.out.cell (World.block_lt_of_cell? w _ hw191_1)).trans hw191_1),((HB.out.cell (World.block_lt_of_cell? w _ hw195_0)).trans hw195_0),((HB.out.cell (World.block_lt_of_cell? w _ hw195_1)).trans hw195_1)⟩ (fun hHeld=>?_)
      clear hK K
      refine norm_ (a':=?_) ?_ ?_
      rotate_left
      ·show Act.put _ (some 18) _=_
       simp only [Act.put,zp1,zp2,zp3,i64_w,i32_w]
       rfl
      refine pure_ (i:=12) (N:=some 24) (v:=?_) (a':=?_) #[Y,Y,Y,Y,Y,Y,Y,Y,Y,Y,Y,Y,Y,X,X,X] rfl rfl zan (fun _ _ _ h=>h) (Or.inl ⟨by rfl,?_⟩) ?_ ?_
      rotate_left
      ·intro w'
       go_simp
       with_reducible rfl
      rotate_left
      ·simp only [Act.put,zp1,zp2,zp3,i64_w,i32_w]
       rfl
      refine one_ (i:=13) (N:=some 25) #[Y,Y,Y,Y,Y,Y,Y,Y,Y,Y,Y,Y,Y,Y,X,X] rfl rfl (one_of HT_.out (by kernel_rfl)) (by decide) (fun K hK=>?_)
      refine value_ (w1:=?_) (v:=?_) (by rfl) rfl ?_ ?_
      rotate_left 2
      ·go_simp
       constructor
       ·rfl
       ·rfl
      refine hK.out _ _ ⟨(World.cell?_alloc_lt _ _ _ (World.block_lt_of_cell? _ _ (((HB.out.cell (World.block_lt_of_cell? w _ hw191_0)).trans hw191_0)))).trans (((HB.out.cell (World.block_lt_of_cell? w _ hw191_0)).trans hw191_0)),(World.cell?_alloc_lt _ _ _ (World.block_lt_of_cell? _ _ (((HB.out.cell (World.block_lt_of_cell? w _ hw191_1)).trans hw191_1)))).trans (((HB.out.cell (World.block_lt_of_cell? w _ hw191_1)).trans hw191_1)),(World.cell?_alloc_lt _ _ _ (World.block_lt_of_cell? _ _ (((HB.out.cell (World.block_lt_of_cell? w _ hw195_0)).trans hw195_0)))).trans (((HB.out.cell (World.block_lt_of_cell? w _ hw195_0)).trans hw195_0)),(World.cell?_alloc_lt _ _ _ (World.block_lt_of_cell? _ _ (((HB.out.cell (World.block_lt_of_cell? w _ hw195_1)).trans hw195_1)))).trans (((HB.out.cell (World.block_lt_of_cell? w _ hw195_1)).trans hw195_1))⟩ (fun hHeld=>?_)
      clear hK K
      refine norm_ (a':=?_) ?_ ?_
      rotate_left
      ·show Act.put _ (some 25) _=_
       simp only [Act.put,zp1,zp2,zp3,i64_w,i32_w]
       rfl
      refine one_ (i:=14) (N:=some 26) #[Y,Y,Y,Y,Y,Y,Y,Y,Y,Y,Y,Y,Y,Y,Y,X] rfl rfl (one_of HT_.out (by kernel_rfl)) (by decide) (fun K hK=>?_)
      refine Kd.S_append_step k53 (w0:=w) w.heap.size (by rfl) (.tmp 12) (.tmp 25) 22 53 (.agg #[(.slice none 0 0),(.int .i64 0)]) 32 rfl Tryd.underlying22 info53 rfl (by decide) (by omega) u3 x3_1 (⟨t192,(rd_T53 l0 x4_1).f1⟩:S53) [.slice Ao10 t192.length co10,.int .i64 ((rd_T53 l0 x4_1).f1)] (fun _=>True) (fun k_=>some k_=(.slice Ao10 t192.length co10:Value).ownBlock) rfl rfl ?aP (fun k_ hk_=>((Kd.R_mono (ok':=fun k_=>((fun _=>True)) k_∧some k_≠(u3:Value).ownBlock) (Kd.R_apart' (HO194.out) (Kd.S_typed HO_3.out) (by decide)) (fun k_ hk=>⟨trivial,hk.2⟩))).1 k_ hk_.symm) ?aF ?aO ?aB ?aS ?aL ?_
      (case aP=>exact k53_mkM _ _ _ (⟨t192,(rd_T53 l0 x4_1).f1⟩:S53) (Kd.R_mono (Kd.R_tight rfl (Kd.R_mono (ok':=fun k_=>((fun _=>True)) k_∧some k_≠(u3:Value).ownBlock) (Kd.R_apart' (HO194.out) (Kd.S_typed HO_3.out) (by decide)) (fun k_ hk=>⟨trivial,hk.2⟩))) (fun _ h_=>h_)))
      (case aB=>exact zhb)
      (case aF=>exact (fun _ _=>trivial))
      (case aO=>exact (by (with_reducible repeat (first|apply Kd.S_alloc|apply Kd.S_drewN|apply Kd.S_drew));exact Kd.S_mono HO_3.out (fun k_ hk=>⟨trivial,fun e_=>hk.2 e_⟩)))
      (case aS=>exact (below_size zhb))
      (case aL=>have:=LMc7.out;omega)
      intro v197 w11 ho hb hg hat
      rw [← Ny196.out] at ho
      have n0_:=Aside0.mk (hb)
      have n1_:=Aside0.mk (ho)
      clear HB
      clear HO_3
      clear HO194
      have HB:=n0_
      have HO198:=n1_
      clear n0_ n1_
      clear ho hb hg hat
      refine hK.out _ _ ⟨((HB.out.cell (World.block_lt_of_cell? w _ hw191_0)).trans hw191_0),((HB.out.cell (World.block_lt_of_cell? w _ hw191_1)).trans hw191_1),((HB.out.cell (World.block_lt_of_cell? w _ hw195_0)).trans hw195_0),((HB.out.cell (World.block_lt_of_cell? w _ hw195_1)).trans hw195_1)⟩ (fun hHeld=>?_)
      clear hK K
      refine norm_ (a':=?_) ?_ ?_
      rotate_left
      ·show Act.put _ (some 26) _=_
       simp only [Act.put,zp1,zp2,zp3,i64_w,i32_w]
       rfl
      refine pure_ (i:=15) (N:=some 3) (v:=?_) (a':=?_) #[Y,Y,Y,Y,Y,Y,Y,Y,Y,Y,Y,Y,Y,Y,Y,Y] rfl rfl zan (fun _ _ _ h=>h) (Or.inl ⟨by rfl,?_⟩) ?_ ?_
      rotate_left
      ·intro w'
       go_simp
       with_reducible rfl
      rotate_left
      ·simp only [Act.put,zp1,zp2,zp3,i64_w,i32_w]
       rfl
      refine done_ (done_of HT_.out (by kernel_rfl)) ?_
      try go_wp2
      go_roundg k1
      case measure=>have:=HK1.out;omega
      case rel=>exact ⟨(y196),(wrap64 (x4_1 + 1)),(by first|rfl|(simp;done)|(simp [*];done)),H',⟨by have:=HK1.out;omega⟩,⟨by (with_reducible repeat (first|apply Kd.S_alloc|apply Kd.S_drewN|apply Kd.S_drew));exact HO198.out⟩,⟨zhb⟩⟩
     ·rw [if_neg c7] at H
      exact absurd H (by simp)
    ·rw [if_neg c5] at H
     exact absurd H (by simp)
   ·rw [if_neg c4] at H
    have c4b0:decide (x4_1 < (l0.length:Int))=false:=decide_eq_false c4
    clear c4
    obtain rfl:=Option.some.inj H
    go_wp2
    go_ret
    exact ⟨_,by first|rfl|(simp [errW_none,errW_some] <;> rfl)|(simp [*,errW_none,errW_some] <;> rfl),by (with_reducible repeat (first|apply Kd.S_alloc|apply Kd.S_drewN|apply Kd.S_drew));exact HO_3.out,zhb⟩

/-! ### spec_l2Two: function 49 -/
def spec_l2Two.f (k:Nat) (l0:List Int):Option ((List (S53)) × (List (S53))):=(spec_l12Open.f l0).bind fun bt199=>((spec_l2Bent.f k bt199.1 bt199.2).bind fun bt202=>((spec_l12Rd_pick.f bt199.1 bt202.2 5).bind fun bt206=>(if bt206.1=0 then ((spec_l2Copy.f k bt202.1).bind fun t208=>(some (bt202.1,t208))) else ((spec_l2Bent.f k bt199.1 bt206.2).bind fun bt211=>(some (bt202.1,bt211.1))))))
theorem spec_l2Two.mono : ∀ a0 k,LeO (spec_l2Two.f k a0) (spec_l2Two.f (k + 1) a0):=by
 intro a0 k
 unfold spec_l2Two.f
 repeat' first
   | (with_reducible exact spec_l2Bent.mono _ _ _)
   | (with_reducible exact spec_l2Copy.mono _ _)
   | (with_reducible exact LeO.refl _)
   | (with_reducible exact LeO.none _)
   | (with_reducible refine LeO.ite ?_ ?_)
   | (with_reducible refine LeO.bind ?_ (fun _=>?_))
   | exact LeO.none _
   | refine LeO.ite ?_ ?_
   | refine LeO.bind ?_ (fun _=>?_)
set_option maxHeartbeats 8000000 in
set_option maxRecDepth 100000 in
theorem spec_l2Two.calls (k:Nat) (A0:Option Addr) (c0:Nat) (l0:List Int) (r1:List (S53)) (r2:List (S53)) (w:World) (hr0:Kd.C (Kd.int .u8) w A0 l0.length l0) (hc0:l0.length≤c0) (h:spec_l2Two.f k l0=some (r1,r2)) :
  Calls Tryd.prog 49 #[.slice A0 l0.length c0] w fun e w'=>∃ v0_ v1_:Value,e=.returned (.tuple #[v0_,v1_])∧Kd.N k53 53 w' w.heap.size (fun k_=>(w.heap.size≤k_)∧some k_≠(v1_:Value).ownBlock) v0_ r1∧Kd.N k53 53 w' w.heap.size (fun k_=>(w.heap.size≤k_)∧some k_≠(v0_:Value).ownBlock) v1_ r2∧Below w.heap.size w w':=by
 have HR0:=Aside0.mk hr0
 have HC0:=Aside0.mk hc0
 clear hr0 hc0
 have HB:=Aside0.mk (Below.refl w.heap.size w)
 have H:((spec_l12Open.f l0).bind fun bt199=>((spec_l2Bent.f k bt199.1 bt199.2).bind fun bt202=>((spec_l12Rd_pick.f bt199.1 bt202.2 5).bind fun bt206=>(if bt206.1=0 then ((spec_l2Copy.f k bt202.1).bind fun t208=>(some (bt202.1,t208))) else ((spec_l2Bent.f k bt199.1 bt206.2).bind fun bt211=>(some (bt202.1,bt211.1)))))))=some (r1,r2):=h
 clear h
 replace H:=Option.bind_eq_some_iff.mp H
 obtain ⟨⟨t199,t200⟩,A20,H⟩:=H
 (try dsimp only at H)
 have A2:=Aside0.mk A20
 clear A20
 replace H:=Option.bind_eq_some_iff.mp H
 obtain ⟨⟨t202,t205⟩,A30,H⟩:=H
 (try dsimp only at H)
 have A3:=Aside0.mk A30
 clear A30
 replace H:=Option.bind_eq_some_iff.mp H
 obtain ⟨⟨t206,t207⟩,A40,H⟩:=H
 (try dsimp only at H)
 have A4:=Aside0.mk A40
 clear A40
 by_cases c5:t206=0
 ·rw [if_pos c5] at H
  have c5b0:(t206 == 0)=true:=beq_iff_eq.mpr c5
  have c5b1:(t206 != 0)=false:=bne_eq_false_iff_eq.mpr c5
  clear c5
  replace H:=Option.bind_eq_some_iff.mp H
  obtain ⟨t208,A60,H⟩:=H
  (try dsimp only at H)
  have A6:=Aside0.mk A60
  clear A60
  simp only [Option.some.injEq,Prod.mk.injEq] at H
  obtain ⟨rfl,rfl⟩:=H
  go_enter Tryd.func49,Tryd.ntmps49
  go_wp2_with (first|((with_reducible refine gate_callee (f:=59) rfl ?_);refine goesL_ (some 7) rfl rfl Tryd.func59 (by kernel_rfl) rfl #[.slice A0 l0.length c0] rfl zar ?_;(with_reducible refine (spec_l12Open.calls _ _ l0 t199 t200 w _ ?side1 ?side2 ?side3 A2.out).mono ?_);(case side1=>exact zhb);(case side2=>exact HR0.out);(case side3=>exact HC0.out);rintro e w7 ⟨g201,rfl,hi,hb,hb2⟩;refine ⟨_,rfl,?_⟩;have n0_:=Aside0.mk (hb);have n1_:=Aside0.mk (hi);clear HB;have HB:=n0_;have HI201:=n1_;clear n0_ n1_;(try clear hb);(try clear hb2);(try clear hk);(try clear hi))|((with_reducible refine gate_callee (f:=79) rfl ?_);refine goesL_ (some 9) rfl rfl Tryd.func79 (by kernel_rfl) rfl #[.pointer (some ⟨g201,0,none⟩)] rfl zar ?_;(with_reducible refine (spec_l2Bent.calls k g201 t199 t200 t202 t205 w _ ?side1 ?side2 A3.out).mono ?_);(case side1=>repeat (first|(with_reducible first|exact HI201.out|apply IsS99.alloc|apply IsS99.drewN|apply IsS99.drew|apply IsS99.set_1)|exact HI201.out));(case side2=>repeat (first|(with_reducible first|exact HB.out|apply below_alloc|apply pw_below_drewN|apply below_drew1|refine below_set ?_ (IsS99.ge HI201.out))|exact HB.out));rintro e w8 ⟨v203,rfl,ho0,hi,hb,hk⟩;refine ⟨_,rfl,?_⟩;have n0_:=Aside0.mk (Kd.N_lower (Kd.N_mono (ok':=fun k_=>(w.heap.size≤k_)∧k_≠g201) ho0 (fun k_ hk_=>⟨(Nat.le_trans (below_size (by repeat (first|(with_reducible first|exact HB.out|apply below_alloc|apply pw_below_drewN|apply below_drew1|refine below_set ?_ (IsS99.ge HI201.out))|exact HB.out))) hk_),(IsS99.fresh (by repeat (first|(with_reducible first|exact HI201.out|apply IsS99.alloc|apply IsS99.drewN|apply IsS99.drew|apply IsS99.set_1)|exact HI201.out)) k_ hk_)⟩)) (below_size (by repeat (first|(with_reducible first|exact HB.out|apply below_alloc|apply pw_below_drewN|apply below_drew1|refine below_set ?_ (IsS99.ge HI201.out))|exact HB.out))));have n1_:=Aside0.mk (hb);have n2_:=Aside0.mk (hi);clear HB;clear HI201;have HO204:=n0_;have HB:=n1_;have HI201:=n2_;clear n0_ n1_ n2_;(try clear hb);(try clear hb2);(try clear hk);(try clear hi);(try clear ho0))|((with_reducible refine gate_callee (f:=65) rfl ?_);refine goesL_ (some 11) rfl rfl Tryd.func65 (by kernel_rfl) rfl #[.pointer (some ⟨g201,0,none⟩),.int .i64 5] rfl zar ?_;(with_reducible refine (spec_l12Rd_pick.calls g201 t199 t205 5 t206 t207 w _ ?side1 ?side2 A4.out).mono ?_);(case side1=>repeat (first|(with_reducible first|exact HI201.out|apply IsS99.alloc|apply IsS99.drewN|apply IsS99.drew|apply IsS99.set_1)|exact HI201.out));(case side2=>repeat (first|(with_reducible first|exact HB.out|apply below_alloc|apply pw_below_drewN|apply below_drew1|refine below_set ?_ (IsS99.ge HI201.out))|exact HB.out));rintro e w9 ⟨rfl,hi,hb,hk⟩;refine ⟨_,rfl,?_⟩;have n0_:=Aside0.mk (Kd.N_mono (Kd.N_keep (Kd.N_mono (ok:=fun k_=>(((w.heap.size≤k_))∧k_≠g201)) (zN HO204.out) (fun k_ hk_=>(⟨hk_,hk_.2⟩:_∧k_≠g201))) hk (fun _ h=>h.2)) (fun _ h=>h.1));have n1_:=Aside0.mk (hb);have n2_:=Aside0.mk (hi);clear HO204;clear HB;clear HI201;have HO204:=n0_;have HB:=n1_;have HI201:=n2_;clear n0_ n1_ n2_;(try clear hb);(try clear hb2);(try clear hk);(try clear hi);obtain ⟨Ao10,co10,eo10⟩:=Kd.N_slice HO204.out;subst eo10)|((with_reducible refine gate_callee (f:=80) rfl ?_);refine goesL_ (some 15) rfl rfl Tryd.func80 (by kernel_rfl) rfl #[.slice Ao10 t202.length co10] rfl zar ?_;(with_reducible refine (spec_l2Copy.calls k _ _ t202 t208 _ ?side1 ?side2 A6.out).mono ?_);(case side1=>exact zC (Kd.N_reads' HO204.out).2.2);(case side2=>exact (Kd.N_reads' HO204.out).2.1);rintro e w11 ⟨v209,rfl,ho0,hb⟩;refine ⟨_,rfl,?_⟩;have n0_:=Aside0.mk (Kd.N_elder' (zN HO204.out) (Kd.S_base ho0) hb);have n1_:=Aside0.mk (Kd.N_lower (Kd.N_mono (ok':=fun k_=>(w.heap.size≤k_)∧some k_≠(.slice Ao10 t202.length co10:Value).ownBlock∧k_≠g201) (Kd.S_N (Kd.S_bound ho0)) (fun k_ hk_=>⟨(Nat.le_trans (below_size (by repeat (first|(with_reducible first|exact HB.out|apply below_alloc|apply pw_below_drewN|apply below_drew1|refine below_set ?_ (IsS99.ge HI201.out))|exact HB.out))) hk_.2.1),(Kd.fresh' (Kd.N_lt (zN HO204.out)) k_ hk_.2.1),(IsS99.fresh (by repeat (first|(with_reducible first|exact HI201.out|apply IsS99.alloc|apply IsS99.drewN|apply IsS99.drew|apply IsS99.set_1)|exact HI201.out)) k_ hk_.2.1)⟩)) (below_size (by repeat (first|(with_reducible first|exact HB.out|apply below_alloc|apply pw_below_drewN|apply below_drew1|refine below_set ?_ (IsS99.ge HI201.out))|exact HB.out))));have n2_:=Aside0.mk (IsS99.below (by repeat (first|(with_reducible first|exact HI201.out|apply IsS99.alloc|apply IsS99.drewN|apply IsS99.drew|apply IsS99.set_1)|exact HI201.out)) hb);have n3_:=Aside0.mk (below_step (by repeat (first|(with_reducible first|exact HB.out|apply below_alloc|apply pw_below_drewN|apply below_drew1|refine below_set ?_ (IsS99.ge HI201.out))|exact HB.out)) hb);clear HO204;clear HI201;clear HB;have HO204:=n0_;have HO210:=n1_;have HI201:=n2_;have HB:=n3_;clear n0_ n1_ n2_ n3_;(try clear hb);(try clear hb2);(try clear hk);(try clear hi);(try clear ho0)))
  go_ret2
  exact ⟨_,_,by first|rfl|(simp [errW_none,errW_some] <;> rfl)|(simp [*,errW_none,errW_some] <;> rfl),by (with_reducible repeat (first|apply Kd.N_alloc|apply Kd.N_drewN|apply Kd.N_drew));exact Kd.N_mono HO204.out (fun _ hk=>⟨hk.1.1,hk.2⟩),by (with_reducible repeat (first|apply Kd.N_alloc|apply Kd.N_drewN|apply Kd.N_drew));exact Kd.N_mono HO210.out (fun _ hk=>⟨hk.1,hk.2.1⟩),by repeat (first|(with_reducible first|exact HB.out|apply below_alloc|apply pw_below_drewN|apply below_drew1|refine below_set ?_ (IsS99.ge HI201.out))|exact HB.out)⟩
 ·rw [if_neg c5] at H
  have c5b0:(t206 == 0)=false:=beq_eq_false_iff_ne.mpr c5
  have c5b1:(t206 != 0)=true:=bne_iff_ne.mpr c5
  replace H:=Option.bind_eq_some_iff.mp H
  obtain ⟨⟨t211,t214⟩,A120,H⟩:=H
  (try dsimp only at H)
  have A12:=Aside0.mk A120
  clear A120
  simp only [Option.some.injEq,Prod.mk.injEq] at H
  obtain ⟨rfl,rfl⟩:=H
  go_enter Tryd.func49,Tryd.ntmps49
  go_wp2_with (first|((with_reducible refine gate_callee (f:=59) rfl ?_);refine goesL_ (some 7) rfl rfl Tryd.func59 (by kernel_rfl) rfl #[.slice A0 l0.length c0] rfl zar ?_;(with_reducible refine (spec_l12Open.calls _ _ l0 t199 t200 w _ ?side1 ?side2 ?side3 A2.out).mono ?_);(case side1=>exact zhb);(case side2=>exact HR0.out);(case side3=>exact HC0.out);rintro e w13 ⟨g201,rfl,hi,hb,hb2⟩;refine ⟨_,rfl,?_⟩;have n0_:=Aside0.mk (hb);have n1_:=Aside0.mk (hi);clear HB;have HB:=n0_;have HI201:=n1_;clear n0_ n1_;(try clear hb);(try clear hb2);(try clear hk);(try clear hi))|((with_reducible refine gate_callee (f:=79) rfl ?_);refine goesL_ (some 9) rfl rfl Tryd.func79 (by kernel_rfl) rfl #[.pointer (some ⟨g201,0,none⟩)] rfl zar ?_;(with_reducible refine (spec_l2Bent.calls k g201 t199 t200 t202 t205 w _ ?side1 ?side2 A3.out).mono ?_);(case side1=>repeat (first|(with_reducible first|exact HI201.out|apply IsS99.alloc|apply IsS99.drewN|apply IsS99.drew|apply IsS99.set_1)|exact HI201.out));(case side2=>repeat (first|(with_reducible first|exact HB.out|apply below_alloc|apply pw_below_drewN|apply below_drew1|refine below_set ?_ (IsS99.ge HI201.out))|exact HB.out));rintro e w14 ⟨v203,rfl,ho0,hi,hb,hk⟩;refine ⟨_,rfl,?_⟩;have n0_:=Aside0.mk (Kd.N_lower (Kd.N_mono (ok':=fun k_=>(w.heap.size≤k_)∧k_≠g201) ho0 (fun k_ hk_=>⟨(Nat.le_trans (below_size (by repeat (first|(with_reducible first|exact HB.out|apply below_alloc|apply pw_below_drewN|apply below_drew1|refine below_set ?_ (IsS99.ge HI201.out))|exact HB.out))) hk_),(IsS99.fresh (by repeat (first|(with_reducible first|exact HI201.out|apply IsS99.alloc|apply IsS99.drewN|apply IsS99.drew|apply IsS99.set_1)|exact HI201.out)) k_ hk_)⟩)) (below_size (by repeat (first|(with_reducible first|exact HB.out|apply below_alloc|apply pw_below_drewN|apply below_drew1|refine below_set ?_ (IsS99.ge HI201.out))|exact HB.out))));have n1_:=Aside0.mk (hb);have n2_:=Aside0.mk (hi);clear HB;clear HI201;have HO204:=n0_;have HB:=n1_;have HI201:=n2_;clear n0_ n1_ n2_;(try clear hb);(try clear hb2);(try clear hk);(try clear hi);(try clear ho0))|((with_reducible refine gate_callee (f:=65) rfl ?_);refine goesL_ (some 11) rfl rfl Tryd.func65 (by kernel_rfl) rfl #[.pointer (some ⟨g201,0,none⟩),.int .i64 5] rfl zar ?_;(with_reducible refine (spec_l12Rd_pick.calls g201 t199 t205 5 t206 t207 w _ ?side1 ?side2 A4.out).mono ?_);(case side1=>repeat (first|(with_reducible first|exact HI201.out|apply IsS99.alloc|apply IsS99.drewN|apply IsS99.drew|apply IsS99.set_1)|exact HI201.out));(case side2=>repeat (first|(with_reducible first|exact HB.out|apply below_alloc|apply pw_below_drewN|apply below_drew1|refine below_set ?_ (IsS99.ge HI201.out))|exact HB.out));rintro e w15 ⟨rfl,hi,hb,hk⟩;refine ⟨_,rfl,?_⟩;have n0_:=Aside0.mk (Kd.N_mono (Kd.N_keep (Kd.N_mono (ok:=fun k_=>(((w.heap.size≤k_))∧k_≠g201)) (zN HO204.out) (fun k_ hk_=>(⟨hk_,hk_.2⟩:_∧k_≠g201))) hk (fun _ h=>h.2)) (fun _ h=>h.1));have n1_:=Aside0.mk (hb);have n2_:=Aside0.mk (hi);clear HO204;clear HB;clear HI201;have HO204:=n0_;have HB:=n1_;have HI201:=n2_;clear n0_ n1_ n2_;(try clear hb);(try clear hb2);(try clear hk);(try clear hi))|((with_reducible refine gate_callee (f:=79) rfl ?_);refine goesL_ (some 18) rfl rfl Tryd.func79 (by kernel_rfl) rfl #[.pointer (some ⟨g201,0,none⟩)] rfl zar ?_;(with_reducible refine (spec_l2Bent.calls k g201 t199 t207 t211 t214 w _ ?side1 ?side2 A12.out).mono ?_);(case side1=>repeat (first|(with_reducible first|exact HI201.out|apply IsS99.alloc|apply IsS99.drewN|apply IsS99.drew|apply IsS99.set_1)|exact HI201.out));(case side2=>repeat (first|(with_reducible first|exact HB.out|apply below_alloc|apply pw_below_drewN|apply below_drew1|refine below_set ?_ (IsS99.ge HI201.out))|exact HB.out));rintro e w16 ⟨v212,rfl,ho0,hi,hb,hk⟩;refine ⟨_,rfl,?_⟩;have n0_:=Aside0.mk (Kd.N_mono (Kd.N_told (Kd.N_oldK (Kd.N_mono (ok:=fun k_=>(((w.heap.size≤k_))∧k_≠g201)) (zN HO204.out) (fun k_ hk_=>(⟨hk_,hk_.2⟩:_∧k_≠g201))) hk) (Kd.N_base ho0)) (fun _ h_=>h_.1));have n1_:=Aside0.mk (Kd.N_lower (Kd.N_mono (ok':=fun k_=>(w.heap.size≤k_)∧some k_≠(v203:Value).ownBlock∧k_≠g201) ho0 (fun k_ hk_=>⟨(Nat.le_trans (below_size (by repeat (first|(with_reducible first|exact HB.out|apply below_alloc|apply pw_below_drewN|apply below_drew1|refine below_set ?_ (IsS99.ge HI201.out))|exact HB.out))) hk_),(Kd.fresh' (Kd.N_lt (zN HO204.out)) k_ hk_),(IsS99.fresh (by repeat (first|(with_reducible first|exact HI201.out|apply IsS99.alloc|apply IsS99.drewN|apply IsS99.drew|apply IsS99.set_1)|exact HI201.out)) k_ hk_)⟩)) (below_size (by repeat (first|(with_reducible first|exact HB.out|apply below_alloc|apply pw_below_drewN|apply below_drew1|refine below_set ?_ (IsS99.ge HI201.out))|exact HB.out))));have n2_:=Aside0.mk (hb);have n3_:=Aside0.mk (hi);clear HO204;clear HB;clear HI201;have HO204:=n0_;have HO213:=n1_;have HB:=n2_;have HI201:=n3_;clear n0_ n1_ n2_ n3_;(try clear hb);(try clear hb2);(try clear hk);(try clear hi);(try clear ho0)))
  go_ret2
  exact ⟨_,_,by first|rfl|(simp [errW_none,errW_some] <;> rfl)|(simp [*,errW_none,errW_some] <;> rfl),by (with_reducible repeat (first|apply Kd.N_alloc|apply Kd.N_drewN|apply Kd.N_drew));exact Kd.N_mono HO204.out (fun _ hk=>⟨hk.1.1,hk.2⟩),by (with_reducible repeat (first|apply Kd.N_alloc|apply Kd.N_drewN|apply Kd.N_drew));exact Kd.N_mono HO213.out (fun _ hk=>⟨hk.1,hk.2.1⟩),by repeat (first|(with_reducible first|exact HB.out|apply below_alloc|apply pw_below_drewN|apply below_drew1|refine below_set ?_ (IsS99.ge HI201.out))|exact HB.out)⟩

/-! ### spec_DrawZSame: function 22 -/
def spec_DrawZSame.f (k:Nat) (l0:List Int):Option ((List (S53)) × (List (S53))):=(spec_l2Two.f k l0).bind fun bt215=>(some (bt215.1,bt215.2))
theorem spec_DrawZSame.mono : ∀ a0 k,LeO (spec_DrawZSame.f k a0) (spec_DrawZSame.f (k + 1) a0):=by
 intro a0 k
 unfold spec_DrawZSame.f
 repeat' first
   | (with_reducible exact spec_l2Two.mono _ _)
   | (with_reducible exact LeO.refl _)
   | (with_reducible exact LeO.none _)
   | (with_reducible refine LeO.ite ?_ ?_)
   | (with_reducible refine LeO.bind ?_ (fun _=>?_))
   | exact LeO.none _
   | refine LeO.ite ?_ ?_
   | refine LeO.bind ?_ (fun _=>?_)
set_option maxHeartbeats 8000000 in
set_option maxRecDepth 100000 in
theorem spec_DrawZSame.calls (k:Nat) (A0:Option Addr) (c0:Nat) (l0:List Int) (r1:List (S53)) (r2:List (S53)) (w:World) (hr0:Kd.C (Kd.int .u8) w A0 l0.length l0) (hc0:l0.length≤c0) (h:spec_DrawZSame.f k l0=some (r1,r2)) :
  Calls Tryd.prog 22 #[.slice A0 l0.length c0] w fun e w'=>∃ v0_ v1_:Value,e=.returned (.tuple #[v0_,v1_])∧Kd.N k53 53 w' w.heap.size (fun k_=>(w.heap.size≤k_)∧some k_≠(v1_:Value).ownBlock) v0_ r1∧Kd.N k53 53 w' w.heap.size (fun k_=>(w.heap.size≤k_)∧some k_≠(v0_:Value).ownBlock) v1_ r2∧Below w.heap.size w w':=by
 have HR0:=Aside0.mk hr0
 have HC0:=Aside0.mk hc0
 clear hr0 hc0
 have HB:=Aside0.mk (Below.refl w.heap.size w)
 have H:((spec_l2Two.f k l0).bind fun bt215=>(some (bt215.1,bt215.2)))=some (r1,r2):=h
 clear h
 replace H:=Option.bind_eq_some_iff.mp H
 obtain ⟨⟨t215,t218⟩,A20,H⟩:=H
 (try dsimp only at H)
 have A2:=Aside0.mk A20
 clear A20
 simp only [Option.some.injEq,Prod.mk.injEq] at H
 obtain ⟨rfl,rfl⟩:=H
 go_enter Tryd.func22,Tryd.ntmps22
 go_wp2_with (first|((with_reducible refine gate_callee (f:=49) rfl ?_);refine goesL_ (some 5) rfl rfl Tryd.func49 (by kernel_rfl) rfl #[.slice A0 l0.length c0] rfl zar ?_;(with_reducible refine (spec_l2Two.calls k _ _ l0 t215 t218 _ ?side1 ?side2 A2.out).mono ?_);(case side1=>exact zC HR0.out);(case side2=>exact HC0.out);rintro e w3 ⟨v216,v219,rfl,ho0,ho1,hb⟩;refine ⟨_,rfl,?_⟩;have n0_:=Aside0.mk (Kd.N_lower (Kd.N_mono (ok':=fun k_=>(w.heap.size≤k_)∧some k_≠(v219:Value).ownBlock) ho0 (fun k_ hk_=>⟨(Nat.le_trans (below_size zhb) hk_.1),hk_.2⟩)) (below_size zhb));have n1_:=Aside0.mk (Kd.N_lower (Kd.N_mono (ok':=fun k_=>(w.heap.size≤k_)∧some k_≠(v216:Value).ownBlock) ho1 (fun k_ hk_=>⟨(Nat.le_trans (below_size zhb) hk_.1),hk_.2⟩)) (below_size zhb));have n2_:=Aside0.mk (below_step zhb hb);clear HB;have HO217:=n0_;have HO220:=n1_;have HB:=n2_;clear n0_ n1_ n2_;(try clear hb);(try clear hb2);(try clear hk);(try clear hi);(try clear ho0);(try clear ho1)))
 go_ret2
 exact ⟨_,_,by first|rfl|(simp [errW_none,errW_some] <;> rfl)|(simp [*,errW_none,errW_some] <;> rfl),by (with_reducible repeat (first|apply Kd.N_alloc|apply Kd.N_drewN|apply Kd.N_drew));exact HO217.out,by (with_reducible repeat (first|apply Kd.N_alloc|apply Kd.N_drewN|apply Kd.N_drew));exact HO220.out,zhb⟩

-- NOT PRINTED: function 50 (slices_EqualFunc_impl_Item_impl_Item_impl_Item_impl_Item)

end Go.Proofs.YtgcplipimcbhlaaDoor.PFnZOrder
