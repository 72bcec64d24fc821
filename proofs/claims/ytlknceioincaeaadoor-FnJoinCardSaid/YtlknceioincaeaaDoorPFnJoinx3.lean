-- Written by wip/tools/pp.py, a program of this session over the kit's printer: not the kit's own print
import Derived.Test.YtlknceioincaeaaDoorPFnJoinx0
import Derived.Test.YtlknceioincaeaaDoorPFnJoinx1
import Derived.Test.YtlknceioincaeaaDoorPFnJoinx2
namespace Go.Proofs.YtlknceioincaeaaDoor.PFnJoin
open Go.RowKit Go.Proofs.YtlknceioincaeaaDoorW.PrintWords Go.Proofs.YtlknceioincaeaaDoorW.PrintLast Go.Proofs.YtlknceioincaeaaDoorW.PrintMore
attribute [local go_sem] max2_int min2_int max_two min_two max_three min_three max_four min_four   -- for this text's walks alone
set_option linter.unusedVariables false
set_option linter.unusedSimpArgs false

/-! ### spec_l12Rd_num: function 69 -/
def spec_l12Rd_num.f (s0_0:List Int) (s0_1:Int) (l1:List Int):Option (Int × Int):=(spec_l12Rd_pick.f s0_0 s0_1 (l1.length:Int)).bind fun bt119=>(if 0≤bt119.1 then (if bt119.1 < (l1.length:Int) then (some (rd l1 bt119.1,bt119.2)) else (none)) else (none))
set_option maxHeartbeats 8000000 in
set_option maxRecDepth 100000 in
theorem spec_l12Rd_num.calls (g:Nat) (s0_0:List Int) (s0_1:Int) (A1:Option Addr) (c1:Nat) (l1:List Int) (r1:Int) (r2:Int) (w0 w:World) (hI:IsS69 w0 w g s0_0 s0_1) (hB:Below w0.heap.size w0 w) (hr1:Kd.C (Kd.int .i64) w A1 l1.length l1) (hc1:l1.length≤c1) (hf1 : ∀ ad,A1=some ad→0 < l1.length→ad.block≠g) (h:spec_l12Rd_num.f s0_0 s0_1 l1=some (r1,r2)) :
  Calls Tryd.prog 69 #[.pointer (some ⟨g,0,none⟩),.slice A1 l1.length c1] w fun e w'=>e=.returned (.int .i64 r1)∧IsS69 w0 w' g s0_0 r2∧Below w0.heap.size w0 w'∧KeepBut w w' g none:=by
 have HR1:=Aside0.mk hr1
 have HC1:=Aside0.mk hc1
 clear hr1 hc1
 have HI0:=Aside0.mk hI
 have HK:=Aside0.mk (KeepBut.refl w g none)
 have HL:=Aside0.mk hB.size
 clear hI
 have HW0:=Aside0.mk hB.size
 have HB:=Aside0.mk hB
 clear hB
 have H:((spec_l12Rd_pick.f s0_0 s0_1 (l1.length:Int)).bind fun bt119=>(if 0≤bt119.1 then (if bt119.1 < (l1.length:Int) then (some (rd l1 bt119.1,bt119.2)) else (none)) else (none)))=some (r1,r2):=h
 clear h
 replace H:=Option.bind_eq_some_iff.mp H
 obtain ⟨⟨t119,t120⟩,A30,H⟩:=H
 (try dsimp only at H)
 have A3:=Aside0.mk A30
 clear A30
 by_cases c4:0≤t119
 rotate_left
 ·rw [if_neg c4] at H
  exact absurd H (by simp)

 rw [if_pos c4] at H
 have c4b0:decide (0≤t119)=true:=decide_eq_true c4
 clear c4
 by_cases c5:t119 < (l1.length:Int)
 rotate_left
 ·rw [if_neg c5] at H
  exact absurd H (by simp)
 rw [if_pos c5] at H
 have c5b0:decide (t119 < (l1.length:Int))=true:=decide_eq_true c5
 clear c5
 simp only [Option.some.injEq,Prod.mk.injEq] at H
 obtain ⟨rfl,rfl⟩:=H
 go_enter Tryd.func69,Tryd.ntmps69
 go_wp2_with (first|((with_reducible refine gate_callee (f:=22) rfl ?_);refine goesL_ (some 9) rfl rfl Tryd.func22 (by kernel_rfl) rfl #[.pointer (some ⟨g,0,none⟩),.int .i64 (l1.length:Int)] rfl zar ?_;(with_reducible refine (spec_l12Rd_pick.calls g s0_0 s0_1 (l1.length:Int) t119 t120 w0 _ ?side1 ?side2 A3.out).mono ?_);(case side1=>exact zi69);(case side2=>exact zg69);rintro e w6 ⟨rfl,hi,hb,hk⟩;refine ⟨_,rfl,?_⟩;have n0_:=Aside0.mk (KeepBut.trans zhk hk (.inl rfl));have n1_:=Aside0.mk (hb);have n2_:=Aside0.mk (hi);clear HK;clear HB;clear HI0;have HK:=n0_;have HB:=n1_;have HI0:=n2_;clear n0_ n1_ n2_;(try clear hb);(try clear hb2);(try clear hk);(try clear hi);have p121:0≤(t119:Int):=zod;have q121:t119 < (l1.length:Int):=zod;obtain ⟨ad121,e121,hx121_0⟩:=Kd.at_int HR1.out t119 p121 q121;cases e121;replace hx121_0:=keep_cell HK.out hx121_0 (by first|(rw [add_block];exact hf1 _ rfl (by omega))|exact hf1 _ rfl (by omega)|exact hf1 ad121 rfl (by omega));replace p121:=eq_true p121;replace q121:=eq_true q121))
 go_ret
 exact ⟨by first|rfl|(simp [errW_none,errW_some] <;> rfl)|(simp [*,errW_none,errW_some] <;> rfl),zi69,zg69,zhk⟩
/-! ### spec_l1Row: function 70 -/
def spec_l1Row.l0:Nat→Int→List Int→Int→List Int→Int→Option (List Int × Int)
 | 0,_,_,_,_,_=>none
 | k + 1,x1,x5,x6,x1000,x1001=>if x6 < x1 then ((spec_l12Rd_num.f x1000 x1001 (([0,1,2,3,1,2,(-1),5]:List Int))).bind fun bt128=>(if x5.length < 17592186044416 then (spec_l1Row.l0 k x1 (x5 ++ [bt128.1]) (wrap64 (x6 + 1)) x1000 bt128.2) else (none))) else (some (x5,x1001))
def spec_l1Row.f (k:Nat) (s0_0:List Int) (s0_1:Int) (a1:Int):Option (List Int × Int):=spec_l1Row.l0 k a1 (([]:List Int)) 0 s0_0 s0_1
theorem spec_l1Row.mono_l : ∀ k,(∀ y0 y1 y2 y3 y4,LeO (spec_l1Row.l0 k y0 y1 y2 y3 y4) (spec_l1Row.l0 (k + 1) y0 y1 y2 y3 y4))
 | 0=>fun _ _ _ _ _ r h=>by simp [spec_l1Row.l0] at h
 | k + 1=>by
  have ih0:=spec_l1Row.mono_l k
  ·intro y0 y1 y2 y3 y4
   unfold spec_l1Row.l0
   repeat' first
   | (with_reducible exact ih0 _ _ _ _ _)
   | (with_reducible exact LeO.refl _)
   | (with_reducible exact LeO.none _)
   | (with_reducible refine LeO.ite ?_ ?_)
   | (with_reducible refine LeO.bind ?_ (fun _=>?_))
   | exact LeO.none _
   | refine LeO.ite ?_ ?_
   | refine LeO.bind ?_ (fun _=>?_)
theorem spec_l1Row.mono : ∀ a0 a1 a2 k,LeO (spec_l1Row.f k a0 a1 a2) (spec_l1Row.f (k + 1) a0 a1 a2):=by
 intro a0 a1 a2 k
 have ih0:=spec_l1Row.mono_l k
 unfold spec_l1Row.f
 repeat' first
   | (with_reducible exact ih0 _ _ _ _ _)
   | (with_reducible exact LeO.refl _)
   | (with_reducible exact LeO.none _)
   | (with_reducible refine LeO.ite ?_ ?_)
   | (with_reducible refine LeO.bind ?_ (fun _=>?_))
   | exact LeO.none _
   | refine LeO.ite ?_ ?_
   | refine LeO.bind ?_ (fun _=>?_)
set_option maxHeartbeats 8000000 in
set_option maxRecDepth 100000 in
theorem spec_l1Row.calls (k:Nat) (g:Nat) (s0_0:List Int) (s0_1:Int) (a1:Int) (r1:List Int) (r2:Int) (w0 w:World) (hI:IsS69 w0 w g s0_0 s0_1) (hB:Below w0.heap.size w0 w) (h:spec_l1Row.f k s0_0 s0_1 a1=some (r1,r2)) :
  Calls Tryd.prog 70 #[.pointer (some ⟨g,0,none⟩),.int .i64 a1] w fun e w'=>∃ v0_:Value,e=.returned (v0_)∧Kd.R (Kd.int .i64) 3 w' w.heap.size (fun _=>True) v0_ r1∧IsS69 w0 w' g s0_0 r2∧Below w0.heap.size w0 w'∧KeepBut w w' g none:=by
 have HI0:=Aside0.mk hI
 have HK:=Aside0.mk (KeepBut.refl w g none)
 have HL:=Aside0.mk hB.size
 clear hI
 have HW0:=Aside0.mk hB.size
 have HB:=Aside0.mk hB
 clear hB
 have H:(spec_l1Row.l0 k a1 (([]:List Int)) 0 s0_0 s0_1)=some (r1,r2):=h
 clear h
 obtain ⟨y122,hy122⟩ : ∃ y_:List Int,y_=(([]:List Int)):=⟨_,rfl⟩
 replace H:(spec_l1Row.l0 k a1 y122 0 s0_0 s0_1)=some (r1,r2):=by first|(rw [hy122];with_reducible exact H)|(have H2_:=(Option.bind_some _ _).symm.trans H;rw [hy122];with_reducible exact H2_)|(have H2_:=(Option.bind_some _ _).symm.trans H;with_reducible exact H2_)|with_reducible exact H|(rw [hy122];exact H)|exact H
 have Ny122:=Aside0.mk hy122
 clear hy122
 have H':=Aside0.mk H
 clear H
 go_enter Tryd.func70,Tryd.ntmps70
 go_wp2_with (first|((with_reducible refine gate_dst (N:=7) rfl ?_);refine Kd.R_lit (Kd.int .i64) _ 3 ?hg (N:=7) ?hd (xs:=([]:List Int)) (inner:=[]) (ok:=fun _=>True) (okp:=fun _=>True) ?hr ?hp (fun _ hk=>hk) trivial (Below.refl _ _) (Nat.le_refl _) (by simp) ?_;(case hd=>rfl);(case hg=>rfl);(case hr=>first|(go_simp;done)|(go_simp;rfl));(case hp=>exact (Reps.none _ _));intro v123 w3 ho4 hb hg_ hnew_;clear hg_ hnew_;(first|rw [← Ny122.out] at ho4|(simp only [Int.reduceToNat] at ho4;rw [← Ny122.out] at ho4));have n0_:=Aside0.mk (Kd.R_lower ho4 (keep_size (w:=w) (g:=g) (row:=none) zhk));have n1_:=Aside0.mk (IsS69.below zi69 hb);have n2_:=Aside0.mk (KeepBut.trans zhk (KeepBut.of_below hb g none) (.inl rfl));have n3_:=Aside0.mk (below_step zg69 hb);clear HI0;clear HK;clear HB;have HO124:=n0_;have HI0:=n1_;have HK:=n2_;have HB:=n3_;clear n0_ n1_ n2_ n3_;clear hb ho4))
 go_loopg [5,6] k (fun kq v5 v6 w'=>∃ (x5_1:List Int) (x6_1:Int) (x1001_1:Int),v6=.int .i64 x6_1∧Aside0 (spec_l1Row.l0 kq a1 x5_1 x6_1 s0_0 x1001_1=some (r1,r2))∧Aside0 (kq≤k)∧Aside0 (Kd.R (Kd.int .i64) 3 w' w.heap.size (fun _=>True) v5 x5_1)∧Aside0 (IsS69 w0 w' g s0_0 x1001_1)∧Aside0 (KeepBut w w' g none)∧Aside0 (Below w0.heap.size w0 w'))
 case atStart=>exact ⟨(y122),(0),(s0_1),(by first|rfl|(simp;done)|(simp [*];done)),H',⟨Nat.le_refl _⟩,⟨by (with_reducible repeat (first|apply Kd.R_alloc|apply Kd.R_drewN|apply Kd.R_drew));exact HO124.out⟩,⟨zi69⟩,⟨zhk⟩,⟨zg69⟩⟩
 case round =>
  clear H'
  try clear p2
  obtain ⟨x5_1,x6_1,x1001_1,rfl,HA,HK1,HO_5,HI0,HK,HB⟩:=hrel
  cases gk with
  | zero=>exact absurd HA.out (by simp [spec_l1Row.l0])
  | succ k1 =>
   have H:=HA.out
   clear HA
   simp only [spec_l1Row.l0] at H
   by_cases c5:x6_1 < a1
   rotate_left
   ·rw [if_neg c5] at H
    have c5b0:decide (x6_1 < a1)=false:=decide_eq_false c5
    clear c5
    simp only [Option.some.injEq,Prod.mk.injEq] at H
    obtain ⟨rfl,rfl⟩:=H
    go_wp2
    go_ret
    exact ⟨_,by first|rfl|(simp [errW_none,errW_some] <;> rfl)|(simp [*,errW_none,errW_some] <;> rfl),by (with_reducible repeat (first|apply Kd.R_alloc|apply Kd.R_drewN|apply Kd.R_drew));exact HO_5.out,zi69,zg69,zhk⟩

   rw [if_pos c5] at H
   have c5b0:decide (x6_1 < a1)=true:=decide_eq_true c5
   clear c5
   obtain ⟨y125,hy125⟩ : ∃ y_:List Int,y_=(([0,1,2,3,1,2,(-1),5]:List Int)):=⟨_,rfl⟩
   replace H:((spec_l12Rd_num.f s0_0 x1001_1 y125).bind fun bt128=>(if x5_1.length < 17592186044416 then (spec_l1Row.l0 k1 a1 (x5_1 ++ [bt128.1]) (wrap64 (x6_1 + 1)) s0_0 bt128.2) else (none)))=some (r1,r2):=by first|(rw [hy125];with_reducible exact H)|(have H2_:=(Option.bind_some _ _).symm.trans H;rw [hy125];with_reducible exact H2_)|(have H2_:=(Option.bind_some _ _).symm.trans H;with_reducible exact H2_)|with_reducible exact H|(rw [hy125];exact H)|exact H
   have Ny125:=Aside0.mk hy125
   clear hy125
   replace H:=Option.bind_eq_some_iff.mp H
   obtain ⟨⟨t128,t129⟩,A60,H⟩:=H
   (try dsimp only at H)
   have A6:=Aside0.mk A60
   clear A60
   by_cases c7:x5_1.length < 17592186044416
   rotate_left
   ·rw [if_neg c7] at H
    exact absurd H (by simp)
   rw [if_pos c7] at H
   have LMc7:=Aside0.mk c7
   clear c7
   obtain ⟨y130,hy130⟩ : ∃ y_:List Int,y_=(x5_1 ++ [t128]):=⟨_,rfl⟩
   replace H:(spec_l1Row.l0 k1 a1 y130 (wrap64 (x6_1 + 1)) s0_0 t129)=some (r1,r2):=by first|(rw [hy130];with_reducible exact H)|(have H2_:=(Option.bind_some _ _).symm.trans H;rw [hy130];with_reducible exact H2_)|(have H2_:=(Option.bind_some _ _).symm.trans H;with_reducible exact H2_)|with_reducible exact H|(rw [hy130];exact H)|exact H
   have Ny130:=Aside0.mk hy130
   clear hy130
   have H':=Aside0.mk H
   clear H
   go_wp2_with (first|((with_reducible refine gate_dst (N:=15) rfl ?_);refine Kd.R_lit (Kd.int .i64) _ 3 ?hg (N:=15) ?hd (xs:=([0,1,2,3,1,2,(-1),5]:List Int)) (inner:=[.int .i64 0,.int .i64 1,.int .i64 2,.int .i64 3,.int .i64 1,.int .i64 2,.int .i64 (-1),.int .i64 5]) (ok:=fun _=>True) (okp:=fun _=>True) ?hr ?hp (fun _ hk=>hk) trivial (Below.refl _ _) (Nat.le_refl _) (by simp) ?_;(case hd=>rfl);(case hg=>rfl);(case hr=>first|(go_simp;done)|(go_simp;rfl));(case hp=>exact (Reps.one (show Kd.M (Kd.int .i64) _ _ _ 0 [.int .i64 0] from rfl) (Reps.one (show Kd.M (Kd.int .i64) _ _ _ 1 [.int .i64 1] from rfl) (Reps.one (show Kd.M (Kd.int .i64) _ _ _ 2 [.int .i64 2] from rfl) (Reps.one (show Kd.M (Kd.int .i64) _ _ _ 3 [.int .i64 3] from rfl) (Reps.one (show Kd.M (Kd.int .i64) _ _ _ 1 [.int .i64 1] from rfl) (Reps.one (show Kd.M (Kd.int .i64) _ _ _ 2 [.int .i64 2] from rfl) (Reps.one (show Kd.M (Kd.int .i64) _ _ _ (-1) [.int .i64 (-1)] from rfl) (Reps.one (show Kd.M (Kd.int .i64) _ _ _ 5 [.int .i64 5] from rfl) (Reps.none _ _))))))))));intro v126 w8 ho9 hb hg_ hnew_;clear hg_ hnew_;(first|rw [← Ny125.out] at ho9|(simp only [Int.reduceToNat] at ho9;rw [← Ny125.out] at ho9));have n0_:=Aside0.mk (Kd.R_elder' (by (with_reducible repeat (first|apply Kd.R_alloc|apply Kd.R_drewN|apply Kd.R_drew));exact HO_5.out) (Kd.R_base ho9) hb);have n1_:=Aside0.mk (Kd.R_lower (Kd.R_new' ho9 (Kd.R_lt (by (with_reducible repeat (first|apply Kd.R_alloc|apply Kd.R_drewN|apply Kd.R_drew));exact HO_5.out))) (keep_size (w:=w) (g:=g) (row:=none) zhk));have n2_:=Aside0.mk (IsS69.below zi69 hb);have n3_:=Aside0.mk (KeepBut.trans zhk (KeepBut.of_below hb g none) (.inl rfl));have n4_:=Aside0.mk (below_step zg69 hb);clear HO_5;clear HI0;clear HK;clear HB;have HO_5:=n0_;have HO127:=n1_;have HI0:=n2_;have HK:=n3_;have HB:=n4_;clear n0_ n1_ n2_ n3_ n4_;clear hb ho9;obtain ⟨Ao10,co10,eo10⟩:=Kd.R_slice HO127.out;subst eo10)|((with_reducible refine gate_callee (f:=69) rfl ?_);refine goesL_ (some 16) rfl rfl Tryd.func69 (by kernel_rfl) rfl #[.pointer (some ⟨g,0,none⟩),.slice Ao10 y125.length co10] rfl zar ?_;(with_reducible refine (spec_l12Rd_num.calls g s0_0 x1001_1 _ _ y125 t128 t129 w0 _ ?side1 ?side2 ?side3 ?side4 ?side5 A6.out).mono ?_);(case side1=>exact zi69);(case side2=>exact zg69);(case side3=>repeat (first|exact (Kd.R_reads' HO127.out).2.2|(with_reducible refine Kd.C_alloc ?_ _)|(with_reducible refine Kd.C_drewN ?_ _)|(with_reducible refine Kd.C_drew ?_)));(case side4=>exact (Kd.R_reads' HO127.out).2.1);(case side5=>exact far_slice (IsS69.own_ne HI0.out HO127.out (by decide)));rintro e w11 ⟨rfl,hi,hb,hk⟩;refine ⟨_,rfl,?_⟩;have n0_:=Aside0.mk (Kd.R_mono (Kd.R_keep (IsS69.apart (show IsS69 w0 _ g s0_0 x1001_1 from zi69) (by (with_reducible repeat (first|apply Kd.R_alloc|apply Kd.R_drewN|apply Kd.R_drew));exact HO_5.out) (by decide)) hk (fun _ h=>h.2)) (fun _ h=>h.1));have n1_:=Aside0.mk (Kd.R_mono (Kd.R_keep (IsS69.apart (show IsS69 w0 _ g s0_0 x1001_1 from zi69) (by (with_reducible repeat (first|apply Kd.R_alloc|apply Kd.R_drewN|apply Kd.R_drew));exact HO127.out) (by decide)) hk (fun _ h=>h.2)) (fun _ h=>h.1));have n2_:=Aside0.mk (KeepBut.trans zhk hk (.inl rfl));have n3_:=Aside0.mk (hb);have n4_:=Aside0.mk (hi);clear HO_5;clear HO127;clear HK;clear HB;clear HI0;have HO_5:=n0_;have HO127:=n1_;have HK:=n2_;have HB:=n3_;have HI0:=n4_;clear n0_ n1_ n2_ n3_ n4_;(try clear hb);(try clear hb2);(try clear hk);(try clear hi))|((with_reducible refine gate_builtin (b:=.append) (xs:=#[.tmp 13,.tmp 17]) rfl ?_);at_builtin;refine Kd.R_append (Kd.int .i64) w.heap.size rfl (.tmp 13) (.tmp 17) 29 3 (.int .i64 0) 8 rfl Tryd.underlying29 info3 rfl (by decide) (by omega) u5 x5_1 t128 [.int .i64 t128] (fun k_=>some k_≠(.slice Ao10 y125.length co10:Value).ownBlock) (fun _=>False) rfl rfl ?aP (fun _ hk=>hk.elim) ?aF ?aO (Below.refl _ _) ?aS ?aL ?_;(case aP=>exact rfl);(case aF=>exact (fun k_ hk=>Kd.fresh' (Kd.R_lt (by (with_reducible repeat (first|apply Kd.R_alloc|apply Kd.R_drewN|apply Kd.R_drew));exact HO127.out)) k_ hk));(case aO=>exact (by (with_reducible repeat (first|apply Kd.R_alloc|apply Kd.R_drewN|apply Kd.R_drew));exact Kd.R_mono HO_5.out (fun _ hk=>hk.2)));(case aS=>exact (keep_size (w:=w) (g:=g) (row:=none) zhk));(case aL=>have:=LMc7.out;omega);intro v131 w12 ho hb hg hat;rw [← Ny130.out] at ho;have n0_:=Aside0.mk (IsS69.grown zi69 hg (IsS69.own_ne HI0.out HO_5.out (by decide)));have n1_:=Aside0.mk (Kd.R_after (ok:=(fun _=>True)) (by (with_reducible repeat (first|apply Kd.R_alloc|apply Kd.R_drewN|apply Kd.R_drew));exact HO127.out) hg hat);have n2_:=Aside0.mk (below_weaken zg69 HL.out hb);have n3_:=Aside0.mk (KeepBut.trans zhk (KeepBut.of_grown hg g) (Kd.R_base2 HO_5.out));have n4_:=Aside0.mk (ho);clear HI0;clear HO127;clear HB;clear HK;clear HO_5;have HI0:=n0_;have HO127:=n1_;have HB:=n2_;have HK:=n3_;have HO132:=n4_;clear n0_ n1_ n2_ n3_ n4_;clear ho hb hg hat))
   go_roundg k1
   case measure=>have:=HK1.out;omega
   case rel=>exact ⟨(y130),(wrap64 (x6_1 + 1)),(t129),(by first|rfl|(simp;done)|(simp [*];done)),H',⟨by have:=HK1.out;omega⟩,⟨by (with_reducible repeat (first|apply Kd.R_alloc|apply Kd.R_drewN|apply Kd.R_drew));exact Kd.R_mono HO132.out (fun _ hk=>trivial)⟩,⟨zi69⟩,⟨zhk⟩,⟨zg69⟩⟩
/-! ### spec_l2Z: function 48 -/
def spec_l2Z.l0:Nat→Int→List (S31)→Int→List Int→Int→Option ((List (S31)) × Int)
 | 0,_,_,_,_,_=>none
 | k + 1,x1,x7,x8,x1000,x1001=>if x8 > 0 then ((spec_l1Row.f k x1000 x1001 x1).bind fun bt138=>((spec_l12Rd_num.f x1000 bt138.2 (([1,1,1,2,(-1),3,(-2)]:List Int))).bind fun bt145=>((spec_l2Put.f k x7 bt138.1 bt145.1).bind fun t147=>(spec_l2Z.l0 k x1 t147 (wrap64 (x8 - 1)) x1000 bt145.2)))) else (some (x7,x1001))
def spec_l2Z.f (k:Nat) (s0_0:List Int) (s0_1:Int) (a1:Int) (a2:Int):Option ((List (S31)) × Int):=(spec_l12Rd_pick.f s0_0 s0_1 (wrap64 (a2 + 1))).bind fun bt136=>(spec_l2Z.l0 k a1 (([]:List (S31))) bt136.1 s0_0 bt136.2)
theorem spec_l2Z.mono_l : ∀ k,(∀ y0 y1 y2 y3 y4,LeO (spec_l2Z.l0 k y0 y1 y2 y3 y4) (spec_l2Z.l0 (k + 1) y0 y1 y2 y3 y4))
 | 0=>fun _ _ _ _ _ r h=>by simp [spec_l2Z.l0] at h
 | k + 1=>by
  have ih0:=spec_l2Z.mono_l k
  ·intro y0 y1 y2 y3 y4
   unfold spec_l2Z.l0
   repeat' first
   | (with_reducible exact ih0 _ _ _ _ _)
   | (with_reducible exact spec_l1Row.mono _ _ _ _)
   | (with_reducible exact spec_l2Put.mono _ _ _ _)
   | (with_reducible exact LeO.refl _)
   | (with_reducible exact LeO.none _)
   | (with_reducible refine LeO.ite ?_ ?_)
   | (with_reducible refine LeO.bind ?_ (fun _=>?_))
   | exact LeO.none _
   | refine LeO.ite ?_ ?_
   | refine LeO.bind ?_ (fun _=>?_)
theorem spec_l2Z.mono : ∀ a0 a1 a2 a3 k,LeO (spec_l2Z.f k a0 a1 a2 a3) (spec_l2Z.f (k + 1) a0 a1 a2 a3):=by
 intro a0 a1 a2 a3 k
 have ih0:=spec_l2Z.mono_l k
 unfold spec_l2Z.f
 repeat' first
   | (with_reducible exact ih0 _ _ _ _ _)
   | (with_reducible exact spec_l1Row.mono _ _ _ _)
   | (with_reducible exact spec_l2Put.mono _ _ _ _)
   | (with_reducible exact LeO.refl _)
   | (with_reducible exact LeO.none _)
   | (with_reducible refine LeO.ite ?_ ?_)
   | (with_reducible refine LeO.bind ?_ (fun _=>?_))
   | exact LeO.none _
   | refine LeO.ite ?_ ?_
   | refine LeO.bind ?_ (fun _=>?_)
set_option maxHeartbeats 8000000 in
set_option maxRecDepth 100000 in
theorem spec_l2Z.calls (k:Nat) (g:Nat) (s0_0:List Int) (s0_1:Int) (a1:Int) (a2:Int) (r1:List (S31)) (r2:Int) (w0 w:World) (hI:IsS69 w0 w g s0_0 s0_1) (hB:Below w0.heap.size w0 w) (h:spec_l2Z.f k s0_0 s0_1 a1 a2=some (r1,r2)) :
  Calls Tryd.prog 48 #[.pointer (some ⟨g,0,none⟩),.int .i64 a1,.int .i64 a2] w fun e w'=>∃ v0_:Value,e=.returned (v0_)∧Kd.N k31 31 w' w.heap.size (fun k_=>(w.heap.size≤k_)) v0_ r1∧IsS69 w0 w' g s0_0 r2∧Below w0.heap.size w0 w'∧KeepBut w w' g none:=by
 have HI0:=Aside0.mk hI
 have HK:=Aside0.mk (KeepBut.refl w g none)
 have HL:=Aside0.mk hB.size
 clear hI
 have HW0:=Aside0.mk hB.size
 have HB:=Aside0.mk hB
 clear hB
 have H:((spec_l12Rd_pick.f s0_0 s0_1 (wrap64 (a2 + 1))).bind fun bt136=>(spec_l2Z.l0 k a1 (([]:List (S31))) bt136.1 s0_0 bt136.2))=some (r1,r2):=h
 clear h
 obtain ⟨y133,hy133⟩ : ∃ y_:List (S31),y_=(([]:List (S31))):=⟨_,rfl⟩
 replace H:((spec_l12Rd_pick.f s0_0 s0_1 (wrap64 (a2 + 1))).bind fun bt136=>(spec_l2Z.l0 k a1 y133 bt136.1 s0_0 bt136.2))=some (r1,r2):=by first|(rw [hy133];with_reducible exact H)|(have H2_:=(Option.bind_some _ _).symm.trans H;rw [hy133];with_reducible exact H2_)|(have H2_:=(Option.bind_some _ _).symm.trans H;with_reducible exact H2_)|with_reducible exact H|(rw [hy133];exact H)|exact H
 have Ny133:=Aside0.mk hy133
 clear hy133
 replace H:=Option.bind_eq_some_iff.mp H
 obtain ⟨⟨t136,t137⟩,A40,H⟩:=H
 (try dsimp only at H)
 have A4:=Aside0.mk A40
 clear A40
 have H':=Aside0.mk H
 clear H
 go_enter Tryd.func48,Tryd.ntmps48
 go_wp2_with (first|((with_reducible refine gate_dst (N:=9) rfl ?_);refine Kd.N_lit k31 _ 31 ?hg (N':=9) ?hd (xs:=([]:List (S31))) (inner:=[]) (ok:=(fun k_=>(w.heap.size≤k_)∧k_≠g)) (okp:=(fun k_=>(w.heap.size≤k_)∧k_≠g)) ?hr ?hp (fun _ hk=>hk) ((show ∀ k_,w.heap.size≤k_→(fun k_=>(w.heap.size≤k_)∧k_≠g) k_ from fun k_ hk=>⟨(Nat.le_trans (keep_size (w:=w) (g:=g) (row:=none) zhk) hk),IsS69.fresh zi69 k_ hk⟩) _ (Nat.le_refl _)) (Below.refl _ _) (Nat.le_refl _) (by simp) ?_;(case hd=>rfl);(case hg=>rfl);(case hr=>first|(go_simp;done)|(go_simp;rfl));(case hp=>exact (Reps.none _ _));intro v134 w5 ho6 hb hg_ hnew_;clear hg_ hnew_;(first|rw [← Ny133.out] at ho6|(simp only [Int.reduceToNat] at ho6;rw [← Ny133.out] at ho6));have n0_:=Aside0.mk (Kd.N_lower ho6 (keep_size (w:=w) (g:=g) (row:=none) zhk));have n1_:=Aside0.mk (IsS69.below zi69 hb);have n2_:=Aside0.mk (KeepBut.trans zhk (KeepBut.of_below hb g none) (.inl rfl));have n3_:=Aside0.mk (below_step zg69 hb);clear HI0;clear HK;clear HB;have HO135:=n0_;have HI0:=n1_;have HK:=n2_;have HB:=n3_;clear n0_ n1_ n2_ n3_;clear hb ho6)|((with_reducible refine gate_callee (f:=22) rfl ?_);refine goesL_ (some 13) rfl rfl Tryd.func22 (by kernel_rfl) rfl #[.pointer (some ⟨g,0,none⟩),.int .i64 (wrap64 (a2 + 1))] rfl zar ?_;(with_reducible refine (spec_l12Rd_pick.calls g s0_0 s0_1 (wrap64 (a2 + 1)) t136 t137 w0 _ ?side1 ?side2 A4.out).mono ?_);(case side1=>exact zi69);(case side2=>exact zg69);rintro e w7 ⟨rfl,hi,hb,hk⟩;refine ⟨_,rfl,?_⟩;have n0_:=Aside0.mk (Kd.N_mono (Kd.N_keep (Kd.N_mono (ok:=fun k_=>(((w.heap.size≤k_))∧k_≠g)) (zN HO135.out) (fun k_ hk_=>(⟨hk_,hk_.2⟩:_∧k_≠g))) hk (fun _ h=>h.2)) (fun _ h=>h.1));have n1_:=Aside0.mk (KeepBut.trans zhk hk (.inl rfl));have n2_:=Aside0.mk (hb);have n3_:=Aside0.mk (hi);clear HO135;clear HK;clear HB;clear HI0;have HO135:=n0_;have HK:=n1_;have HB:=n2_;have HI0:=n3_;clear n0_ n1_ n2_ n3_;(try clear hb);(try clear hb2);(try clear hk);(try clear hi)))
 go_loopg [7,8] k (fun kq v7 v8 w'=>∃ (x7_1:List (S31)) (x8_1:Int) (x1001_1:Int),v8=.int .i64 x8_1∧Aside0 (spec_l2Z.l0 kq a1 x7_1 x8_1 s0_0 x1001_1=some (r1,r2))∧Aside0 (kq≤k)∧Aside0 (Kd.N k31 31 w' w.heap.size (fun k_=>(w.heap.size≤k_)∧k_≠g) v7 x7_1)∧Aside0 (IsS69 w0 w' g s0_0 x1001_1)∧Aside0 (KeepBut w w' g none)∧Aside0 (Below w0.heap.size w0 w'))
 case atStart=>exact ⟨(y133),(t136),(t137),(by first|rfl|(simp;done)|(simp [*];done)),H',⟨Nat.le_refl _⟩,⟨by (with_reducible repeat (first|apply Kd.N_alloc|apply Kd.N_drewN|apply Kd.N_drew));exact HO135.out⟩,⟨zi69⟩,⟨zhk⟩,⟨zg69⟩⟩
 case round =>
  clear H'
  try clear c2
  try clear p2
  try clear c4
  try clear p6
  obtain ⟨x7_1,x8_1,x1001_1,rfl,HA,HK1,HO_7,HI0,HK,HB⟩:=hrel
  cases gk with
  | zero=>exact absurd HA.out (by simp [spec_l2Z.l0])
  | succ k1 =>
   have H:=HA.out
   clear HA
   simp only [spec_l2Z.l0] at H
   by_cases c8:x8_1 > 0
   rotate_left
   ·rw [if_neg c8] at H
    have c8b0:decide (0 < x8_1)=false:=decide_eq_false c8
    clear c8
    simp only [Option.some.injEq,Prod.mk.injEq] at H
    obtain ⟨rfl,rfl⟩:=H
    go_wp2
    go_ret
    exact ⟨_,by first|rfl|(simp [errW_none,errW_some] <;> rfl)|(simp [*,errW_none,errW_some] <;> rfl),by (with_reducible repeat (first|apply Kd.N_alloc|apply Kd.N_drewN|apply Kd.N_drew));exact Kd.N_mono HO_7.out (fun _ hk=>hk.1),zi69,zg69,zhk⟩

   rw [if_pos c8] at H
   have c8b0:decide (0 < x8_1)=true:=decide_eq_true c8
   clear c8
   replace H:=Option.bind_eq_some_iff.mp H
   obtain ⟨⟨t138,t141⟩,A90,H⟩:=H
   (try dsimp only at H)
   have A9:=Aside0.mk A90
   clear A90
   obtain ⟨y142,hy142⟩ : ∃ y_:List Int,y_=(([1,1,1,2,(-1),3,(-2)]:List Int)):=⟨_,rfl⟩
   replace H:((spec_l12Rd_num.f s0_0 t141 y142).bind fun bt145=>((spec_l2Put.f k1 x7_1 t138 bt145.1).bind fun t147=>(spec_l2Z.l0 k1 a1 t147 (wrap64 (x8_1 - 1)) s0_0 bt145.2)))=some (r1,r2):=by first|(rw [hy142];with_reducible exact H)|(have H2_:=(Option.bind_some _ _).symm.trans H;rw [hy142];with_reducible exact H2_)|(have H2_:=(Option.bind_some _ _).symm.trans H;with_reducible exact H2_)|with_reducible exact H|(rw [hy142];exact H)|exact H
   have Ny142:=Aside0.mk hy142
   clear hy142
   replace H:=Option.bind_eq_some_iff.mp H
   obtain ⟨⟨t145,t146⟩,A100,H⟩:=H
   (try dsimp only at H)
   have A10:=Aside0.mk A100
   clear A100
   replace H:=Option.bind_eq_some_iff.mp H
   obtain ⟨t147,A110,H⟩:=H
   (try dsimp only at H)
   have A11:=Aside0.mk A110
   clear A110
   have H':=Aside0.mk H
   clear H
   go_wp2_with (first|((with_reducible refine gate_callee (f:=70) rfl ?_);refine goesL_ (some 21) rfl rfl Tryd.func70 (by kernel_rfl) rfl #[.pointer (some ⟨g,0,none⟩),.int .i64 a1] rfl zar ?_;(with_reducible refine (spec_l1Row.calls k1 g s0_0 x1001_1 a1 t138 t141 w0 _ ?side1 ?side2 A9.out).mono ?_);(case side1=>exact zi69);(case side2=>exact zg69);rintro e w12 ⟨v139,rfl,ho0,hi,hb,hk⟩;refine ⟨_,rfl,?_⟩;have n0_:=Aside0.mk (Kd.N_mono (Kd.N_told (Kd.N_oldK (Kd.N_mono (ok:=fun k_=>(((w.heap.size≤k_))∧k_≠g)) (zN HO_7.out) (fun k_ hk_=>(⟨hk_,hk_.2⟩:_∧k_≠g))) hk) (Kd.R_base ho0)) (fun _ h_=>h_.1));have n1_:=Aside0.mk (Kd.R_lower (Kd.R_newM (M:=fun k_=>(w.heap.size≤k_)) ho0 (keep_size (w:=w) (g:=g) (row:=none) zhk) (fun k_ h_=>h_)) (keep_size (w:=w) (g:=g) (row:=none) zhk));have n2_:=Aside0.mk (KeepBut.trans zhk hk (.inl rfl));have n3_:=Aside0.mk (hb);have n4_:=Aside0.mk (hi);clear HO_7;clear HK;clear HB;clear HI0;have HO_7:=n0_;have HO140:=n1_;have HK:=n2_;have HB:=n3_;have HI0:=n4_;clear n0_ n1_ n2_ n3_ n4_;(try clear hb);(try clear hb2);(try clear hk);(try clear hi);(try clear ho0))|((with_reducible refine gate_dst (N:=23) rfl ?_);refine Kd.R_lit (Kd.int .i64) _ 3 ?hg (N:=23) ?hd (xs:=([1,1,1,2,(-1),3,(-2)]:List Int)) (inner:=[.int .i64 1,.int .i64 1,.int .i64 1,.int .i64 2,.int .i64 (-1),.int .i64 3,.int .i64 (-2)]) (ok:=fun _=>True) (okp:=fun _=>True) ?hr ?hp (fun _ hk=>hk) trivial (Below.refl _ _) (Nat.le_refl _) (by simp) ?_;(case hd=>rfl);(case hg=>rfl);(case hr=>first|(go_simp;done)|(go_simp;rfl));(case hp=>exact (Reps.one (show Kd.M (Kd.int .i64) _ _ _ 1 [.int .i64 1] from rfl) (Reps.one (show Kd.M (Kd.int .i64) _ _ _ 1 [.int .i64 1] from rfl) (Reps.one (show Kd.M (Kd.int .i64) _ _ _ 1 [.int .i64 1] from rfl) (Reps.one (show Kd.M (Kd.int .i64) _ _ _ 2 [.int .i64 2] from rfl) (Reps.one (show Kd.M (Kd.int .i64) _ _ _ (-1) [.int .i64 (-1)] from rfl) (Reps.one (show Kd.M (Kd.int .i64) _ _ _ 3 [.int .i64 3] from rfl) (Reps.one (show Kd.M (Kd.int .i64) _ _ _ (-2) [.int .i64 (-2)] from rfl) (Reps.none _ _)))))))));intro v143 w13 ho14 hb hg_ hnew_;clear hg_ hnew_;(first|rw [← Ny142.out] at ho14|(simp only [Int.reduceToNat] at ho14;rw [← Ny142.out] at ho14));have n0_:=Aside0.mk (Kd.N_elder' (zN HO_7.out) (Kd.R_base ho14) hb);have n1_:=Aside0.mk (Kd.R_elder' (by (with_reducible repeat (first|apply Kd.R_alloc|apply Kd.R_drewN|apply Kd.R_drew));exact HO140.out) (Kd.R_base ho14) hb);have n2_:=Aside0.mk (Kd.R_lower (Kd.R_new' (Kd.R_newM (M:=fun k_=>(w.heap.size≤k_)) ho14 (keep_size (w:=w) (g:=g) (row:=none) zhk) (fun k_ h_=>h_)) (Kd.R_lt (by (with_reducible repeat (first|apply Kd.R_alloc|apply Kd.R_drewN|apply Kd.R_drew));exact HO140.out))) (keep_size (w:=w) (g:=g) (row:=none) zhk));have n3_:=Aside0.mk (IsS69.below zi69 hb);have n4_:=Aside0.mk (KeepBut.trans zhk (KeepBut.of_below hb g none) (.inl rfl));have n5_:=Aside0.mk (below_step zg69 hb);clear HO_7;clear HO140;clear HI0;clear HK;clear HB;have HO_7:=n0_;have HO140:=n1_;have HO144:=n2_;have HI0:=n3_;have HK:=n4_;have HB:=n5_;clear n0_ n1_ n2_ n3_ n4_ n5_;clear hb ho14;obtain ⟨Ao15,co15,eo15⟩:=Kd.R_slice HO144.out;subst eo15)|((with_reducible refine gate_callee (f:=69) rfl ?_);refine goesL_ (some 24) rfl rfl Tryd.func69 (by kernel_rfl) rfl #[.pointer (some ⟨g,0,none⟩),.slice Ao15 y142.length co15] rfl zar ?_;(with_reducible refine (spec_l12Rd_num.calls g s0_0 t141 _ _ y142 t145 t146 w0 _ ?side1 ?side2 ?side3 ?side4 ?side5 A10.out).mono ?_);(case side1=>exact zi69);(case side2=>exact zg69);(case side3=>repeat (first|exact (Kd.R_reads' HO144.out).2.2|(with_reducible refine Kd.C_alloc ?_ _)|(with_reducible refine Kd.C_drewN ?_ _)|(with_reducible refine Kd.C_drew ?_)));(case side4=>exact (Kd.R_reads' HO144.out).2.1);(case side5=>exact far_slice (IsS69.own_ne HI0.out HO144.out (by decide)));rintro e w16 ⟨rfl,hi,hb,hk⟩;refine ⟨_,rfl,?_⟩;have n0_:=Aside0.mk (Kd.N_mono (Kd.N_keep (Kd.N_mono (ok:=fun k_=>(((((w.heap.size≤k_))∧k_≠g)∧some k_≠(v139:Value).ownBlock)∧some k_≠(.slice Ao15 y142.length co15:Value).ownBlock)) (zN HO_7.out) (fun k_ hk_=>(⟨hk_,hk_.1.1.2⟩:_∧k_≠g))) hk (fun _ h=>h.2)) (fun _ h=>h.1));have n1_:=Aside0.mk (Kd.R_mono (Kd.R_keep (IsS69.apart (show IsS69 w0 _ g s0_0 t141 from zi69) (by (with_reducible repeat (first|apply Kd.R_alloc|apply Kd.R_drewN|apply Kd.R_drew));exact HO140.out) (by decide)) hk (fun _ h=>h.2)) (fun _ h=>h.1));have n2_:=Aside0.mk (Kd.R_mono (Kd.R_keep (IsS69.apart (show IsS69 w0 _ g s0_0 t141 from zi69) (by (with_reducible repeat (first|apply Kd.R_alloc|apply Kd.R_drewN|apply Kd.R_drew));exact HO144.out) (by decide)) hk (fun _ h=>h.2)) (fun _ h=>h.1));have n3_:=Aside0.mk (KeepBut.trans zhk hk (.inl rfl));have n4_:=Aside0.mk (hb);have n5_:=Aside0.mk (hi);clear HO_7;clear HO140;clear HO144;clear HK;clear HB;clear HI0;have HO_7:=n0_;have HO140:=n1_;have HO144:=n2_;have HK:=n3_;have HB:=n4_;have HI0:=n5_;clear n0_ n1_ n2_ n3_ n4_ n5_;(try clear hb);(try clear hb2);(try clear hk);(try clear hi);obtain ⟨Ao17,co17,eo17⟩:=Kd.N_slice HO_7.out;subst eo17;obtain ⟨Ao18,co18,eo18⟩:=Kd.R_slice HO140.out;subst eo18)|((with_reducible refine gate_callee (f:=58) rfl ?_);refine goesL_ (some 25) rfl rfl Tryd.func58 (by kernel_rfl) rfl #[.slice Ao17 x7_1.length co17,.slice Ao18 t138.length co18,.int .i64 t145] rfl zar ?_;(refine (spec_l2Put.calls k1 w.heap.size (fun k_=>(w.heap.size≤k_)∧some k_≠(.slice Ao18 t138.length co18:Value).ownBlock∧some k_≠(.slice Ao15 y142.length co15:Value).ownBlock∧k_≠g) (.slice Ao17 x7_1.length co17) x7_1 _ _ t138 t145 t147 ?w0_ _ ?side1 ?side2 ?side3 ?side4 ?side5 ?side6 A11.out).mono ?_);(case side1=>exact (keep_size (w:=w) (g:=g) (row:=none) zhk));(case side2=>exact (Below.refl _ _));(case side3=>exact (by (with_reducible repeat (first|apply Kd.N_alloc|apply Kd.N_drewN|apply Kd.N_drew));exact Kd.N_mono HO_7.out (fun _ hk=>⟨hk.1.1.1,⟨hk.1.2,⟨hk.2,hk.1.1.2⟩⟩⟩)));(case side4=>exact (fun k_ hk=>⟨(Nat.le_trans (keep_size (w:=w) (g:=g) (row:=none) zhk) hk),Kd.fresh' (Kd.R_lt (by (with_reducible repeat (first|apply Kd.R_alloc|apply Kd.R_drewN|apply Kd.R_drew));exact HO140.out)) k_ hk,Kd.fresh' (Kd.R_lt (by (with_reducible repeat (first|apply Kd.R_alloc|apply Kd.R_drewN|apply Kd.R_drew));exact HO144.out)) k_ hk,IsS69.fresh zi69 k_ hk⟩));(case side5=>repeat (first|exact (Kd.R_reads' HO140.out).2.2|(with_reducible refine Kd.C_alloc ?_ _)|(with_reducible refine Kd.C_drewN ?_ _)|(with_reducible refine Kd.C_drew ?_)));(case side6=>exact (Kd.R_reads' HO140.out).2.1);rintro e w19 ⟨v148,rfl,ho,hb,hg,hat⟩;refine ⟨_,rfl,?_⟩;have n0_:=Aside0.mk (IsS69.grown zi69 hg (IsS69.own_neN HI0.out HO_7.out (by decide)));have n1_:=Aside0.mk (Kd.R_over' (by (with_reducible repeat (first|apply Kd.R_alloc|apply Kd.R_drewN|apply Kd.R_drew));exact HO140.out) (Kd.N_typed (zN HO_7.out)) (by decide) hg);have n2_:=Aside0.mk (Kd.R_over' (by (with_reducible repeat (first|apply Kd.R_alloc|apply Kd.R_drewN|apply Kd.R_drew));exact HO144.out) (Kd.N_typed (zN HO_7.out)) (by decide) hg);have n3_:=Aside0.mk (below_weaken zg69 HL.out hb);have n4_:=Aside0.mk (KeepBut.trans zhk (KeepBut.of_grown hg g) (Kd.N_base2 HO_7.out));have n5_:=Aside0.mk (ho);clear HI0;clear HO140;clear HO144;clear HB;clear HK;clear HO_7;have HI0:=n0_;have HO140:=n1_;have HO144:=n2_;have HB:=n3_;have HK:=n4_;have HO149:=n5_;clear n0_ n1_ n2_ n3_ n4_ n5_;clear ho hb hg hat))
   go_roundg k1
   case measure=>have:=HK1.out;omega
   case rel=>exact ⟨(t147),(wrap64 (x8_1 - 1)),(t146),(by first|rfl|(simp;done)|(simp [*];done)),H',⟨by have:=HK1.out;omega⟩,⟨by (with_reducible repeat (first|apply Kd.N_alloc|apply Kd.N_drewN|apply Kd.N_drew));exact Kd.N_mono HO149.out (fun _ hk=>⟨hk.1,hk.2.2.2⟩)⟩,⟨zi69⟩,⟨zhk⟩,⟨zg69⟩⟩
/-! ### spec_l2Bent: function 47 -/
def spec_l2Bent.l0:Nat→List (S31)→Int→List Int→Int→Option ((List (S31)) × Int)
 | 0,_,_,_,_=>none
 | k + 1,x3,x5,x1000,x1001=>if x5 < 101 then ((spec_l2Put.f k x3 (([wrap64 (10 + x5)]:List Int)) 1).bind fun t177=>(spec_l2Bent.l0 k t177 (wrap64 (x5 + 1)) x1000 x1001)) else (some (x3,x1001))
def spec_l2Bent.f (k:Nat) (s0_0:List Int) (s0_1:Int):Option ((List (S31)) × Int):=(spec_l12Rd_pick.f s0_0 s0_1 3).bind fun bt150=>((spec_l2Z.f k s0_0 bt150.2 (wrap64 (1 + bt150.1)) 6).bind fun bt152=>(if (bt152.1.length:Int)=0 then (some (bt152.1,bt152.2)) else ((spec_l12Rd_pick.f s0_0 bt152.2 (bt152.1.length:Int)).bind fun bt156=>((spec_l12Rd_pick.f s0_0 bt156.2 40).bind fun bt158=>(if bt158.1=0 then ((spec_l12Rd_num.f s0_0 bt158.2 (([0,10000,10001,(-10000)]:List Int))).bind fun bt163=>(if 0≤bt156.1 then (if bt156.1 < (bt152.1.length:Int) then (some ((bt152.1.set (bt156.1:Int).toNat (⟨(rd_T31 bt152.1 bt156.1).f0,bt163.1⟩:S31)),bt163.2)) else (none)) else (none))) else (if bt158.1=1 then (if 0≤bt156.1 then (if bt156.1 < (bt152.1.length:Int) then (some ((bt152.1.set (bt156.1:Int).toNat (⟨(([]:List Int)),(rd_T31 bt152.1 bt156.1).f1⟩:S31)),bt158.2)) else (none)) else (none)) else (if bt158.1=2 then (if 0 < (bt152.1.length:Int) then (if bt152.1.length < 4398046511104 then (some ((bt152.1 ++ [(⟨(rd_T31 bt152.1 0).f0,(rd_T31 bt152.1 0).f1⟩:S31)]),bt158.2)) else (none)) else (none)) else (if bt158.1=3 then (spec_l2Bent.l0 k bt152.1 0 s0_0 bt158.2) else (some (bt152.1,bt158.2))))))))))
theorem spec_l2Bent.mono_l : ∀ k,(∀ y0 y1 y2 y3,LeO (spec_l2Bent.l0 k y0 y1 y2 y3) (spec_l2Bent.l0 (k + 1) y0 y1 y2 y3))
 | 0=>fun _ _ _ _ r h=>by simp [spec_l2Bent.l0] at h
 | k + 1=>by
  have ih0:=spec_l2Bent.mono_l k
  ·intro y0 y1 y2 y3
   unfold spec_l2Bent.l0
   repeat' first
   | (with_reducible exact ih0 _ _ _ _)
   | (with_reducible exact spec_l2Put.mono _ _ _ _)
   | (with_reducible exact spec_l2Z.mono _ _ _ _ _)
   | (with_reducible exact LeO.refl _)
   | (with_reducible exact LeO.none _)
   | (with_reducible refine LeO.ite ?_ ?_)
   | (with_reducible refine LeO.bind ?_ (fun _=>?_))
   | exact LeO.none _
   | refine LeO.ite ?_ ?_
   | refine LeO.bind ?_ (fun _=>?_)
theorem spec_l2Bent.mono : ∀ a0 a1 k,LeO (spec_l2Bent.f k a0 a1) (spec_l2Bent.f (k + 1) a0 a1):=by
 intro a0 a1 k
 have ih0:=spec_l2Bent.mono_l k
 unfold spec_l2Bent.f
 repeat' first
   | (with_reducible exact ih0 _ _ _ _)
   | (with_reducible exact spec_l2Put.mono _ _ _ _)
   | (with_reducible exact spec_l2Z.mono _ _ _ _ _)
   | (with_reducible exact LeO.refl _)
   | (with_reducible exact LeO.none _)
   | (with_reducible refine LeO.ite ?_ ?_)
   | (with_reducible refine LeO.bind ?_ (fun _=>?_))
   | exact LeO.none _
   | refine LeO.ite ?_ ?_
   | refine LeO.bind ?_ (fun _=>?_)
set_option maxHeartbeats 8000000 in
set_option maxRecDepth 100000 in
theorem spec_l2Bent.calls (k:Nat) (g:Nat) (s0_0:List Int) (s0_1:Int) (r1:List (S31)) (r2:Int) (w0 w:World) (hI:IsS69 w0 w g s0_0 s0_1) (hB:Below w0.heap.size w0 w) (h:spec_l2Bent.f k s0_0 s0_1=some (r1,r2)) :
  Calls Tryd.prog 47 #[.pointer (some ⟨g,0,none⟩)] w fun e w'=>∃ v0_:Value,e=.returned (v0_)∧Kd.N k31 31 w' w.heap.size (fun k_=>(w.heap.size≤k_)) v0_ r1∧IsS69 w0 w' g s0_0 r2∧Below w0.heap.size w0 w'∧KeepBut w w' g none:=by
 have hu31:=Tryd.underlying31
 have HI0:=Aside0.mk hI
 have HK:=Aside0.mk (KeepBut.refl w g none)
 have HL:=Aside0.mk hB.size
 clear hI
 have HW0:=Aside0.mk hB.size
 have HB:=Aside0.mk hB
 clear hB
 have H:((spec_l12Rd_pick.f s0_0 s0_1 3).bind fun bt150=>((spec_l2Z.f k s0_0 bt150.2 (wrap64 (1 + bt150.1)) 6).bind fun bt152=>(if (bt152.1.length:Int)=0 then (some (bt152.1,bt152.2)) else ((spec_l12Rd_pick.f s0_0 bt152.2 (bt152.1.length:Int)).bind fun bt156=>((spec_l12Rd_pick.f s0_0 bt156.2 40).bind fun bt158=>(if bt158.1=0 then ((spec_l12Rd_num.f s0_0 bt158.2 (([0,10000,10001,(-10000)]:List Int))).bind fun bt163=>(if 0≤bt156.1 then (if bt156.1 < (bt152.1.length:Int) then (some ((bt152.1.set (bt156.1:Int).toNat (⟨(rd_T31 bt152.1 bt156.1).f0,bt163.1⟩:S31)),bt163.2)) else (none)) else (none))) else (if bt158.1=1 then (if 0≤bt156.1 then (if bt156.1 < (bt152.1.length:Int) then (some ((bt152.1.set (bt156.1:Int).toNat (⟨(([]:List Int)),(rd_T31 bt152.1 bt156.1).f1⟩:S31)),bt158.2)) else (none)) else (none)) else (if bt158.1=2 then (if 0 < (bt152.1.length:Int) then (if bt152.1.length < 4398046511104 then (some ((bt152.1 ++ [(⟨(rd_T31 bt152.1 0).f0,(rd_T31 bt152.1 0).f1⟩:S31)]),bt158.2)) else (none)) else (none)) else (if bt158.1=3 then (spec_l2Bent.l0 k bt152.1 0 s0_0 bt158.2) else (some (bt152.1,bt158.2)))))))))))=some (r1,r2):=h
 clear h
 replace H:=Option.bind_eq_some_iff.mp H
 obtain ⟨⟨t150,t151⟩,A20,H⟩:=H
 (try dsimp only at H)
 have A2:=Aside0.mk A20
 clear A20
 replace H:=Option.bind_eq_some_iff.mp H
 obtain ⟨⟨t152,t155⟩,A30,H⟩:=H
 (try dsimp only at H)
 have A3:=Aside0.mk A30
 clear A30
 by_cases c4:(t152.length:Int)=0
 ·rw [if_pos c4] at H
  have c4b0:((t152.length:Int) == 0)=true:=beq_iff_eq.mpr c4
  have c4b1:((t152.length:Int) != 0)=false:=bne_eq_false_iff_eq.mpr c4
  clear c4
  simp only [Option.some.injEq,Prod.mk.injEq] at H
  obtain ⟨rfl,rfl⟩:=H
  go_enter Tryd.func47,Tryd.ntmps47
  go_wp2_with (first|((with_reducible refine gate_callee (f:=22) rfl ?_);refine goesL_ (some 8) rfl rfl Tryd.func22 (by kernel_rfl) rfl #[.pointer (some ⟨g,0,none⟩),.int .i64 3] rfl zar ?_;(with_reducible refine (spec_l12Rd_pick.calls g s0_0 s0_1 3 t150 t151 w0 _ ?side1 ?side2 A2.out).mono ?_);(case side1=>exact zi69);(case side2=>exact zg69);rintro e w5 ⟨rfl,hi,hb,hk⟩;refine ⟨_,rfl,?_⟩;have n0_:=Aside0.mk (KeepBut.trans zhk hk (.inl rfl));have n1_:=Aside0.mk (hb);have n2_:=Aside0.mk (hi);clear HK;clear HB;clear HI0;have HK:=n0_;have HB:=n1_;have HI0:=n2_;clear n0_ n1_ n2_;(try clear hb);(try clear hb2);(try clear hk);(try clear hi))|((with_reducible refine gate_callee (f:=48) rfl ?_);refine goesL_ (some 10) rfl rfl Tryd.func48 (by kernel_rfl) rfl #[.pointer (some ⟨g,0,none⟩),.int .i64 (wrap64 (1 + t150)),.int .i64 6] rfl zar ?_;(with_reducible refine (spec_l2Z.calls k g s0_0 t151 (wrap64 (1 + t150)) 6 t152 t155 w0 _ ?side1 ?side2 A3.out).mono ?_);(case side1=>exact zi69);(case side2=>exact zg69);rintro e w6 ⟨v153,rfl,ho0,hi,hb,hk⟩;refine ⟨_,rfl,?_⟩;have n0_:=Aside0.mk (Kd.N_lower (Kd.N_mono (ok':=fun k_=>(w.heap.size≤k_)∧k_≠g) ho0 (fun k_ hk_=>⟨(Nat.le_trans (keep_size (w:=w) (g:=g) (row:=none) zhk) hk_),(IsS69.fresh zi69 k_ hk_)⟩)) (keep_size (w:=w) (g:=g) (row:=none) zhk));have n1_:=Aside0.mk (KeepBut.trans zhk hk (.inl rfl));have n2_:=Aside0.mk (hb);have n3_:=Aside0.mk (hi);clear HK;clear HB;clear HI0;have HO154:=n0_;have HK:=n1_;have HB:=n2_;have HI0:=n3_;clear n0_ n1_ n2_ n3_;(try clear hb);(try clear hb2);(try clear hk);(try clear hi);(try clear ho0);obtain ⟨Ao7,co7,eo7⟩:=Kd.N_slice HO154.out;subst eo7))
  go_ret
  exact ⟨_,by first|rfl|(simp [errW_none,errW_some] <;> rfl)|(simp [*,errW_none,errW_some] <;> rfl),by (with_reducible repeat (first|apply Kd.N_alloc|apply Kd.N_drewN|apply Kd.N_drew));exact Kd.N_mono HO154.out (fun _ hk=>hk.1),zi69,zg69,zhk⟩
 rw [if_neg c4] at H
 have c4b0:((t152.length:Int) == 0)=false:=beq_eq_false_iff_ne.mpr c4
 have c4b1:((t152.length:Int) != 0)=true:=bne_iff_ne.mpr c4
 have c4b2 : ¬ (t152 = []):=fun h_=>c4 (by rw [h_];rfl)
 replace H:=Option.bind_eq_some_iff.mp H
 obtain ⟨⟨t156,t157⟩,A80,H⟩:=H
 (try dsimp only at H)
 have A8:=Aside0.mk A80
 clear A80
 replace H:=Option.bind_eq_some_iff.mp H
 obtain ⟨⟨t158,t159⟩,A90,H⟩:=H
 (try dsimp only at H)
 have A9:=Aside0.mk A90
 clear A90
 by_cases c10:t158=0
 ·rw [if_pos c10] at H
  have c10b0:(t158 == 0)=true:=beq_iff_eq.mpr c10
  have c10b1:(t158 != 0)=false:=bne_eq_false_iff_eq.mpr c10
  clear c10
  obtain ⟨y160,hy160⟩ : ∃ y_:List Int,y_=(([0,10000,10001,(-10000)]:List Int)):=⟨_,rfl⟩
  replace H:((spec_l12Rd_num.f s0_0 t159 y160).bind fun bt163=>(if 0≤t156 then (if t156 < (t152.length:Int) then (some ((t152.set (t156:Int).toNat (⟨(rd_T31 t152 t156).f0,bt163.1⟩:S31)),bt163.2)) else (none)) else (none)))=some (r1,r2):=by first|(rw [hy160];with_reducible exact H)|(have H2_:=(Option.bind_some _ _).symm.trans H;rw [hy160];with_reducible exact H2_)|(have H2_:=(Option.bind_some _ _).symm.trans H;with_reducible exact H2_)|with_reducible exact H|(rw [hy160];exact H)|exact H
  have Ny160:=Aside0.mk hy160
  clear hy160
  replace H:=Option.bind_eq_some_iff.mp H
  obtain ⟨⟨t163,t164⟩,A110,H⟩:=H
  (try dsimp only at H)
  have A11:=Aside0.mk A110
  clear A110
  by_cases c12:0≤t156
  rotate_left
  ·rw [if_neg c12] at H
   exact absurd H (by simp)
  rw [if_pos c12] at H
  have c12b0:decide (0≤t156)=true:=decide_eq_true c12
  clear c12
  by_cases c13:t156 < (t152.length:Int)
  rotate_left
  ·rw [if_neg c13] at H
   exact absurd H (by simp)
  rw [if_pos c13] at H
  have c13b0:decide (t156 < (t152.length:Int))=true:=decide_eq_true c13
  clear c13
  obtain ⟨y165,hy165⟩ : ∃ y_:List (S31),y_=(t152.set (t156:Int).toNat (⟨(rd_T31 t152 t156).f0,t163⟩:S31)):=⟨_,rfl⟩
  replace H:(some (y165,t164))=some (r1,r2):=by first|(rw [hy165];with_reducible exact H)|(have H2_:=(Option.bind_some _ _).symm.trans H;rw [hy165];with_reducible exact H2_)|(have H2_:=(Option.bind_some _ _).symm.trans H;with_reducible exact H2_)|with_reducible exact H|(rw [hy165];exact H)|exact H
  have Ny165:=Aside0.mk hy165
  clear hy165
  simp only [Option.some.injEq,Prod.mk.injEq] at H
  obtain ⟨rfl,rfl⟩:=H
  go_enter Tryd.func47,Tryd.ntmps47
  go_wp2_with (first|((with_reducible refine gate_callee (f:=22) rfl ?_);refine goesL_ (some 8) rfl rfl Tryd.func22 (by kernel_rfl) rfl #[.pointer (some ⟨g,0,none⟩),.int .i64 3] rfl zar ?_;(with_reducible refine (spec_l12Rd_pick.calls g s0_0 s0_1 3 t150 t151 w0 _ ?side1 ?side2 A2.out).mono ?_);(case side1=>exact zi69);(case side2=>exact zg69);rintro e w15 ⟨rfl,hi,hb,hk⟩;refine ⟨_,rfl,?_⟩;have n0_:=Aside0.mk (KeepBut.trans zhk hk (.inl rfl));have n1_:=Aside0.mk (hb);have n2_:=Aside0.mk (hi);clear HK;clear HB;clear HI0;have HK:=n0_;have HB:=n1_;have HI0:=n2_;clear n0_ n1_ n2_;(try clear hb);(try clear hb2);(try clear hk);(try clear hi))|((with_reducible refine gate_callee (f:=48) rfl ?_);refine goesL_ (some 10) rfl rfl Tryd.func48 (by kernel_rfl) rfl #[.pointer (some ⟨g,0,none⟩),.int .i64 (wrap64 (1 + t150)),.int .i64 6] rfl zar ?_;(with_reducible refine (spec_l2Z.calls k g s0_0 t151 (wrap64 (1 + t150)) 6 t152 t155 w0 _ ?side1 ?side2 A3.out).mono ?_);(case side1=>exact zi69);(case side2=>exact zg69);rintro e w16 ⟨v153,rfl,ho0,hi,hb,hk⟩;refine ⟨_,rfl,?_⟩;have n0_:=Aside0.mk (Kd.N_lower (Kd.N_mono (ok':=fun k_=>(w.heap.size≤k_)∧k_≠g) ho0 (fun k_ hk_=>⟨(Nat.le_trans (keep_size (w:=w) (g:=g) (row:=none) zhk) hk_),(IsS69.fresh zi69 k_ hk_)⟩)) (keep_size (w:=w) (g:=g) (row:=none) zhk));have n1_:=Aside0.mk (KeepBut.trans zhk hk (.inl rfl));have n2_:=Aside0.mk (hb);have n3_:=Aside0.mk (hi);clear HK;clear HB;clear HI0;have HO154:=n0_;have HK:=n1_;have HB:=n2_;have HI0:=n3_;clear n0_ n1_ n2_ n3_;(try clear hb);(try clear hb2);(try clear hk);(try clear hi);(try clear ho0);obtain ⟨Ao17,co17,eo17⟩:=Kd.N_slice HO154.out;subst eo17)|((with_reducible refine gate_callee (f:=22) rfl ?_);refine goesL_ (some 18) rfl rfl Tryd.func22 (by kernel_rfl) rfl #[.pointer (some ⟨g,0,none⟩),.int .i64 (t152.length:Int)] rfl zar ?_;(with_reducible refine (spec_l12Rd_pick.calls g s0_0 t155 (t152.length:Int) t156 t157 w0 _ ?side1 ?side2 A8.out).mono ?_);(case side1=>exact zi69);(case side2=>exact zg69);rintro e w18 ⟨rfl,hi,hb,hk⟩;refine ⟨_,rfl,?_⟩;have n0_:=Aside0.mk (Kd.N_mono (Kd.N_keep (Kd.N_mono (ok:=fun k_=>(((w.heap.size≤k_))∧k_≠g)) (zN HO154.out) (fun k_ hk_=>(⟨hk_,hk_.2⟩:_∧k_≠g))) hk (fun _ h=>h.2)) (fun _ h=>h.1));have n1_:=Aside0.mk (KeepBut.trans zhk hk (.inl rfl));have n2_:=Aside0.mk (hb);have n3_:=Aside0.mk (hi);clear HO154;clear HK;clear HB;clear HI0;have HO154:=n0_;have HK:=n1_;have HB:=n2_;have HI0:=n3_;clear n0_ n1_ n2_ n3_;(try clear hb);(try clear hb2);(try clear hk);(try clear hi))|((with_reducible refine gate_callee (f:=22) rfl ?_);refine goesL_ (some 20) rfl rfl Tryd.func22 (by kernel_rfl) rfl #[.pointer (some ⟨g,0,none⟩),.int .i64 40] rfl zar ?_;(with_reducible refine (spec_l12Rd_pick.calls g s0_0 t157 40 t158 t159 w0 _ ?side1 ?side2 A9.out).mono ?_);(case side1=>exact zi69);(case side2=>exact zg69);rintro e w19 ⟨rfl,hi,hb,hk⟩;refine ⟨_,rfl,?_⟩;have n0_:=Aside0.mk (Kd.N_mono (Kd.N_keep (Kd.N_mono (ok:=fun k_=>(((w.heap.size≤k_))∧k_≠g)) (zN HO154.out) (fun k_ hk_=>(⟨hk_,hk_.2⟩:_∧k_≠g))) hk (fun _ h=>h.2)) (fun _ h=>h.1));have n1_:=Aside0.mk (KeepBut.trans zhk hk (.inl rfl));have n2_:=Aside0.mk (hb);have n3_:=Aside0.mk (hi);clear HO154;clear HK;clear HB;clear HI0;have HO154:=n0_;have HK:=n1_;have HB:=n2_;have HI0:=n3_;clear n0_ n1_ n2_ n3_;(try clear hb);(try clear hb2);(try clear hk);(try clear hi))|((with_reducible refine gate_dst (N:=26) rfl ?_);refine Kd.R_lit (Kd.int .i64) _ 3 ?hg (N:=26) ?hd (xs:=([0,10000,10001,(-10000)]:List Int)) (inner:=[.int .i64 0,.int .i64 10000,.int .i64 10001,.int .i64 (-10000)]) (ok:=fun _=>True) (okp:=fun _=>True) ?hr ?hp (fun _ hk=>hk) trivial (Below.refl _ _) (Nat.le_refl _) (by simp) ?_;(case hd=>rfl);(case hg=>rfl);(case hr=>first|(go_simp;done)|(go_simp;rfl));(case hp=>exact (Reps.one (show Kd.M (Kd.int .i64) _ _ _ 0 [.int .i64 0] from rfl) (Reps.one (show Kd.M (Kd.int .i64) _ _ _ 10000 [.int .i64 10000] from rfl) (Reps.one (show Kd.M (Kd.int .i64) _ _ _ 10001 [.int .i64 10001] from rfl) (Reps.one (show Kd.M (Kd.int .i64) _ _ _ (-10000) [.int .i64 (-10000)] from rfl) (Reps.none _ _))))));intro v161 w20 ho21 hb hg_ hnew_;clear hg_ hnew_;(first|rw [← Ny160.out] at ho21|(simp only [Int.reduceToNat] at ho21;rw [← Ny160.out] at ho21));have n0_:=Aside0.mk (Kd.N_elder' (zN HO154.out) (Kd.R_base ho21) hb);have n1_:=Aside0.mk (Kd.R_lower (Kd.R_newM (M:=fun k_=>(w.heap.size≤k_)) ho21 (keep_size (w:=w) (g:=g) (row:=none) zhk) (fun k_ h_=>h_)) (keep_size (w:=w) (g:=g) (row:=none) zhk));have n2_:=Aside0.mk (IsS69.below zi69 hb);have n3_:=Aside0.mk (KeepBut.trans zhk (KeepBut.of_below hb g none) (.inl rfl));have n4_:=Aside0.mk (below_step zg69 hb);clear HO154;clear HI0;clear HK;clear HB;have HO154:=n0_;have HO162:=n1_;have HI0:=n2_;have HK:=n3_;have HB:=n4_;clear n0_ n1_ n2_ n3_ n4_;clear hb ho21;obtain ⟨Ao22,co22,eo22⟩:=Kd.R_slice HO162.out;subst eo22)|((with_reducible refine gate_callee (f:=69) rfl ?_);refine goesL_ (some 27) rfl rfl Tryd.func69 (by kernel_rfl) rfl #[.pointer (some ⟨g,0,none⟩),.slice Ao22 y160.length co22] rfl zar ?_;(with_reducible refine (spec_l12Rd_num.calls g s0_0 t159 _ _ y160 t163 t164 w0 _ ?side1 ?side2 ?side3 ?side4 ?side5 A11.out).mono ?_);(case side1=>exact zi69);(case side2=>exact zg69);(case side3=>repeat (first|exact (Kd.R_reads' HO162.out).2.2|(with_reducible refine Kd.C_alloc ?_ _)|(with_reducible refine Kd.C_drewN ?_ _)|(with_reducible refine Kd.C_drew ?_)));(case side4=>exact (Kd.R_reads' HO162.out).2.1);(case side5=>exact far_slice (IsS69.own_ne HI0.out HO162.out (by decide)));rintro e w23 ⟨rfl,hi,hb,hk⟩;refine ⟨_,rfl,?_⟩;have n0_:=Aside0.mk (Kd.N_mono (Kd.N_keep (Kd.N_mono (ok:=fun k_=>((((w.heap.size≤k_))∧k_≠g)∧some k_≠(.slice Ao22 y160.length co22:Value).ownBlock)) (zN HO154.out) (fun k_ hk_=>(⟨hk_,hk_.1.2⟩:_∧k_≠g))) hk (fun _ h=>h.2)) (fun _ h=>h.1));have n1_:=Aside0.mk (Kd.R_mono (Kd.R_keep (IsS69.apart (show IsS69 w0 _ g s0_0 t159 from zi69) (by (with_reducible repeat (first|apply Kd.R_alloc|apply Kd.R_drewN|apply Kd.R_drew));exact HO162.out) (by decide)) hk (fun _ h=>h.2)) (fun _ h=>h.1));have n2_:=Aside0.mk (KeepBut.trans zhk hk (.inl rfl));have n3_:=Aside0.mk (hb);have n4_:=Aside0.mk (hi);clear HO154;clear HO162;clear HK;clear HB;clear HI0;have HO154:=n0_;have HO162:=n1_;have HK:=n2_;have HB:=n3_;have HI0:=n4_;clear n0_ n1_ n2_ n3_ n4_;(try clear hb);(try clear hb2);(try clear hk);(try clear hi);have p14:0≤(t156:Int):=zod;have q14:(t156:Int) < ((t152.length:Int):Int):=zod;obtain ⟨go14,co14,eo14,gb14,gl14,cl14,HG14⟩:=Kd.N_form HO154.out (by omega);(first|cases eo14|(injection eo14 with ea_ en_ ec_;(first|subst ea_|(injection ea_ with ea_;subst ea_));subst ec_;clear en_));have GB14:=Aside0.mk gb14;have GG14:=Aside0.mk HG14;clear gb14 gl14 HG14;obtain ⟨ce14,hcl14,hM14,hcc14,hfr14⟩:=Kd.N_elem HO154.out z31 (t156:Int) p14 q14;obtain ⟨ua14_0,uc14_0,rfl,ul14_0,ge14_0⟩:=k31_openF hM14;have hx14_0:w23.cell? ⟨go14,(t156:Int).toNat * 2,none⟩=some (.slice ua14_0 ((rd_T31 t152 t156).f0).length uc14_0):=hcc14 0 _ rfl;have hx14_1:w23.cell? ⟨go14,(t156:Int).toNat * 2 + 1,none⟩=some (.int .i64 ((rd_T31 t152 t156).f1)):=hcc14 1 _ rfl;have hf14_0:w23.frozen? ⟨go14,(t156:Int).toNat * 2,none⟩=false:=hfr14 0;have hf14_1:w23.frozen? ⟨go14,(t156:Int).toNat * 2 + 1,none⟩=false:=hfr14 1;clear hcl14 hcc14 hfr14 hM14;replace p14:=eq_true p14;replace q14:=eq_true q14;have n_:=Aside0.mk (Kd.N_mono (ok':=(fun k_=>(w.heap.size≤k_)∧some k_≠(.slice Ao22 y160.length co22:Value).ownBlock)) HO154.out (fun k_ hk=>⟨hk.1.1,hk.2⟩));clear HO154;have HO154:=n_;clear n_;have HX24:=Aside0.mk (show Kd.N k31 31 w23 w.heap.size (fun k_=>(w.heap.size≤k_)∧some k_≠(.slice Ao22 y160.length co22:Value).ownBlock) (.slice (some ⟨go14,0,none⟩) t152.length co17) t152 from (zN HO154.out));obtain ⟨ce24,hcl24,hM24,hcc24,hfr24⟩:=Kd.N_elem HX24.out z31 (t156:Int) (zod) (by have h_:(t156:Int) < ((t152.length:Int):Int):=zod;first|exact h_|(have e_:=(Kd.N_reads' HO154.out).1;omega)|simpa using h_);obtain ⟨ua24_0,uc24_0,rfl,ul24_0,ge24_0⟩:=k31_openF hM24;have HP24:=Kd.N_seg HX24.out (t156:Int) (zod) (by have h_:(t156:Int) < ((t152.length:Int):Int):=zod;first|exact h_|(have e_:=(Kd.N_reads' HO154.out).1;omega)|simpa using h_) (seg:=[.int .i64 t163]) (j:=1) hcl24 hcc24 (show 2≤2 from by decide) (x':=(⟨(rd_T31 t152 t156).f0,t163⟩:S31)) (k31_mkF _ _ (⟨(rd_T31 t152 t156).f0,t163⟩:S31) ul24_0 ge24_0) (fun _ hk=>hk);have hx24_1:=hcc24 1 _ rfl;(try simp only [show (k31).sz=2 from rfl,Nat.mul_one,Nat.add_zero] at hx24_1);have hf24_1:=hfr24 1;(try simp only [show (k31).sz=2 from rfl,Nat.mul_one,Nat.add_zero] at hf24_1);clear hcl24 hcc24 hfr24 hM24)|((with_reducible refine gate_store (t:=3) (p:=29) rfl ?_);refine store_event (t:=3) (p:=29) (v:=?vo_w25) (w1:=(w23.setCell ⟨go14,(t156:Int).toNat * 2 + 1,none⟩ (.int .i64 t163))) ?hg ?ho ?hn ?hr ?_;(case ho=>rfl);(case hg=>rfl);(case hn=>rfl);(case hr=>first|(go_simp;done)|(go_simp;rfl));intro w25 hw;have hg:w23.grownBy w25 (some go14):=(by rw [hw];exact HP24.2);have hp_:Kd.N k31 31 w25 w.heap.size (fun k_=>(w.heap.size≤k_)∧some k_≠(.slice Ao22 y160.length co22:Value).ownBlock) (.slice (some ⟨go14,0,none⟩) t152.length co17) y165:=(by rw [hw,Ny165.out];exact HP24.1);clear HP24;have n0_:=Aside0.mk (IsS69.grown zi69 hg (IsS69.own_neN HI0.out HO154.out (by decide)));have n1_:=Aside0.mk (hp_);have n2_:=Aside0.mk (Kd.R_over' (v:=(.slice (some ⟨go14,0,none⟩) t152.length co17)) (by (with_reducible repeat (first|apply Kd.R_alloc|apply Kd.R_drewN|apply Kd.R_drew));exact HO162.out) (Kd.N_typed HO154.out) (by decide) hg);have n3_:=Aside0.mk ((by rw [hw];exact below_set (HB.out) (Nat.le_trans HL.out GB14.out):Below w0.heap.size w0 w25));have n4_:=Aside0.mk (KeepBut.trans zhk (KeepBut.of_grown hg g) (Kd.N_base2 HO154.out));clear HI0;clear HO154;clear HO162;clear HB;clear HK;have HI0:=n0_;have HO154:=n1_;have HO162:=n2_;have HB:=n3_;have HK:=n4_;clear n0_ n1_ n2_ n3_ n4_;clear hg hw hp_))
  go_ret
  exact ⟨_,by first|rfl|(simp [errW_none,errW_some] <;> rfl)|(simp [*,errW_none,errW_some] <;> rfl),by (with_reducible repeat (first|apply Kd.N_alloc|apply Kd.N_drewN|apply Kd.N_drew));exact Kd.N_mono HO154.out (fun _ hk=>hk.1),zi69,zg69,zhk⟩
 rw [if_neg c10] at H
 have c10b0:(t158 == 0)=false:=beq_eq_false_iff_ne.mpr c10
 have c10b1:(t158 != 0)=true:=bne_iff_ne.mpr c10
 by_cases c26:t158=1
 ·rw [if_pos c26] at H
  have c26b0:(t158 == 1)=true:=beq_iff_eq.mpr c26
  have c26b1:(t158 != 1)=false:=bne_eq_false_iff_eq.mpr c26
  clear c26
  obtain ⟨y166,hy166⟩ : ∃ y_:List Int,y_=(([]:List Int)):=⟨_,rfl⟩
  replace H:(if 0≤t156 then (if t156 < (t152.length:Int) then (some ((t152.set (t156:Int).toNat (⟨y166,(rd_T31 t152 t156).f1⟩:S31)),t159)) else (none)) else (none))=some (r1,r2):=by first|(rw [hy166];with_reducible exact H)|(have H2_:=(Option.bind_some _ _).symm.trans H;rw [hy166];with_reducible exact H2_)|(have H2_:=(Option.bind_some _ _).symm.trans H;with_reducible exact H2_)|with_reducible exact H|(rw [hy166];exact H)|exact H
  have Ny166:=Aside0.mk hy166
  clear hy166
  by_cases c27:0≤t156
  rotate_left
  ·rw [if_neg c27] at H
   exact absurd H (by simp)
  rw [if_pos c27] at H
  have c27b0:decide (0≤t156)=true:=decide_eq_true c27
  clear c27
  by_cases c28:t156 < (t152.length:Int)
  rotate_left
  ·rw [if_neg c28] at H
   exact absurd H (by simp)
  rw [if_pos c28] at H
  have c28b0:decide (t156 < (t152.length:Int))=true:=decide_eq_true c28
  clear c28
  obtain ⟨y169,hy169⟩ : ∃ y_:List (S31),y_=(t152.set (t156:Int).toNat (⟨y166,(rd_T31 t152 t156).f1⟩:S31)):=⟨_,rfl⟩
  replace H:(some (y169,t159))=some (r1,r2):=by first|(rw [hy169];with_reducible exact H)|(have H2_:=(Option.bind_some _ _).symm.trans H;rw [hy169];with_reducible exact H2_)|(have H2_:=(Option.bind_some _ _).symm.trans H;with_reducible exact H2_)|with_reducible exact H|(rw [hy169];exact H)|exact H
  have Ny169:=Aside0.mk hy169
  clear hy169
  simp only [Option.some.injEq,Prod.mk.injEq] at H
  obtain ⟨rfl,rfl⟩:=H
  go_enter Tryd.func47,Tryd.ntmps47
  go_wp2_with (first|((with_reducible refine gate_callee (f:=22) rfl ?_);refine goesL_ (some 8) rfl rfl Tryd.func22 (by kernel_rfl) rfl #[.pointer (some ⟨g,0,none⟩),.int .i64 3] rfl zar ?_;(with_reducible refine (spec_l12Rd_pick.calls g s0_0 s0_1 3 t150 t151 w0 _ ?side1 ?side2 A2.out).mono ?_);(case side1=>exact zi69);(case side2=>exact zg69);rintro e w30 ⟨rfl,hi,hb,hk⟩;refine ⟨_,rfl,?_⟩;have n0_:=Aside0.mk (KeepBut.trans zhk hk (.inl rfl));have n1_:=Aside0.mk (hb);have n2_:=Aside0.mk (hi);clear HK;clear HB;clear HI0;have HK:=n0_;have HB:=n1_;have HI0:=n2_;clear n0_ n1_ n2_;(try clear hb);(try clear hb2);(try clear hk);(try clear hi))|((with_reducible refine gate_callee (f:=48) rfl ?_);refine goesL_ (some 10) rfl rfl Tryd.func48 (by kernel_rfl) rfl #[.pointer (some ⟨g,0,none⟩),.int .i64 (wrap64 (1 + t150)),.int .i64 6] rfl zar ?_;(with_reducible refine (spec_l2Z.calls k g s0_0 t151 (wrap64 (1 + t150)) 6 t152 t155 w0 _ ?side1 ?side2 A3.out).mono ?_);(case side1=>exact zi69);(case side2=>exact zg69);rintro e w31 ⟨v153,rfl,ho0,hi,hb,hk⟩;refine ⟨_,rfl,?_⟩;have n0_:=Aside0.mk (Kd.N_lower (Kd.N_mono (ok':=fun k_=>(w.heap.size≤k_)∧k_≠g) ho0 (fun k_ hk_=>⟨(Nat.le_trans (keep_size (w:=w) (g:=g) (row:=none) zhk) hk_),(IsS69.fresh zi69 k_ hk_)⟩)) (keep_size (w:=w) (g:=g) (row:=none) zhk));have n1_:=Aside0.mk (KeepBut.trans zhk hk (.inl rfl));have n2_:=Aside0.mk (hb);have n3_:=Aside0.mk (hi);clear HK;clear HB;clear HI0;have HO154:=n0_;have HK:=n1_;have HB:=n2_;have HI0:=n3_;clear n0_ n1_ n2_ n3_;(try clear hb);(try clear hb2);(try clear hk);(try clear hi);(try clear ho0);obtain ⟨Ao32,co32,eo32⟩:=Kd.N_slice HO154.out;subst eo32)|((with_reducible refine gate_callee (f:=22) rfl ?_);refine goesL_ (some 18) rfl rfl Tryd.func22 (by kernel_rfl) rfl #[.pointer (some ⟨g,0,none⟩),.int .i64 (t152.length:Int)] rfl zar ?_;(with_reducible refine (spec_l12Rd_pick.calls g s0_0 t155 (t152.length:Int) t156 t157 w0 _ ?side1 ?side2 A8.out).mono ?_);(case side1=>exact zi69);(case side2=>exact zg69);rintro e w33 ⟨rfl,hi,hb,hk⟩;refine ⟨_,rfl,?_⟩;have n0_:=Aside0.mk (Kd.N_mono (Kd.N_keep (Kd.N_mono (ok:=fun k_=>(((w.heap.size≤k_))∧k_≠g)) (zN HO154.out) (fun k_ hk_=>(⟨hk_,hk_.2⟩:_∧k_≠g))) hk (fun _ h=>h.2)) (fun _ h=>h.1));have n1_:=Aside0.mk (KeepBut.trans zhk hk (.inl rfl));have n2_:=Aside0.mk (hb);have n3_:=Aside0.mk (hi);clear HO154;clear HK;clear HB;clear HI0;have HO154:=n0_;have HK:=n1_;have HB:=n2_;have HI0:=n3_;clear n0_ n1_ n2_ n3_;(try clear hb);(try clear hb2);(try clear hk);(try clear hi))|((with_reducible refine gate_callee (f:=22) rfl ?_);refine goesL_ (some 20) rfl rfl Tryd.func22 (by kernel_rfl) rfl #[.pointer (some ⟨g,0,none⟩),.int .i64 40] rfl zar ?_;(with_reducible refine (spec_l12Rd_pick.calls g s0_0 t157 40 t158 t159 w0 _ ?side1 ?side2 A9.out).mono ?_);(case side1=>exact zi69);(case side2=>exact zg69);rintro e w34 ⟨rfl,hi,hb,hk⟩;refine ⟨_,rfl,?_⟩;have n0_:=Aside0.mk (Kd.N_mono (Kd.N_keep (Kd.N_mono (ok:=fun k_=>(((w.heap.size≤k_))∧k_≠g)) (zN HO154.out) (fun k_ hk_=>(⟨hk_,hk_.2⟩:_∧k_≠g))) hk (fun _ h=>h.2)) (fun _ h=>h.1));have n1_:=Aside0.mk (KeepBut.trans zhk hk (.inl rfl));have n2_:=Aside0.mk (hb);have n3_:=Aside0.mk (hi);clear HO154;clear HK;clear HB;clear HI0;have HO154:=n0_;have HK:=n1_;have HB:=n2_;have HI0:=n3_;clear n0_ n1_ n2_ n3_;(try clear hb);(try clear hb2);(try clear hk);(try clear hi))|((with_reducible refine gate_dst (N:=34) rfl ?_);refine Kd.R_lit (Kd.int .i64) _ 3 ?hg (N:=34) ?hd (xs:=([]:List Int)) (inner:=[]) (ok:=fun _=>True) (okp:=fun _=>True) ?hr ?hp (fun _ hk=>hk) trivial (Below.refl _ _) (Nat.le_refl _) (by simp) ?_;(case hd=>rfl);(case hg=>rfl);(case hr=>first|(go_simp;done)|(go_simp;rfl));(case hp=>exact (Reps.none _ _));intro v167 w35 ho36 hb hg_ hnew_;clear hg_ hnew_;(first|rw [← Ny166.out] at ho36|(simp only [Int.reduceToNat] at ho36;rw [← Ny166.out] at ho36));have n0_:=Aside0.mk (Kd.N_elder' (zN HO154.out) (Kd.R_base ho36) hb);have n1_:=Aside0.mk (Kd.R_lower (Kd.R_newM (M:=fun k_=>(w.heap.size≤k_)) ho36 (keep_size (w:=w) (g:=g) (row:=none) zhk) (fun k_ h_=>h_)) (keep_size (w:=w) (g:=g) (row:=none) zhk));have n2_:=Aside0.mk (IsS69.below zi69 hb);have n3_:=Aside0.mk (KeepBut.trans zhk (KeepBut.of_below hb g none) (.inl rfl));have n4_:=Aside0.mk (below_step zg69 hb);clear HO154;clear HI0;clear HK;clear HB;have HO154:=n0_;have HO168:=n1_;have HI0:=n2_;have HK:=n3_;have HB:=n4_;clear n0_ n1_ n2_ n3_ n4_;clear hb ho36;have p29:0≤(t156:Int):=zod;have q29:(t156:Int) < ((t152.length:Int):Int):=zod;obtain ⟨go29,co29,eo29,gb29,gl29,cl29,HG29⟩:=Kd.N_form HO154.out (by omega);(first|cases eo29|(injection eo29 with ea_ en_ ec_;(first|subst ea_|(injection ea_ with ea_;subst ea_));subst ec_;clear en_));have GB29:=Aside0.mk gb29;have GG29:=Aside0.mk HG29;clear gb29 gl29 HG29;obtain ⟨ce29,hcl29,hM29,hcc29,hfr29⟩:=Kd.N_elem HO154.out z31 (t156:Int) p29 q29;obtain ⟨ua29_0,uc29_0,rfl,ul29_0,ge29_0⟩:=k31_openF hM29;have hx29_0:w35.cell? ⟨go29,(t156:Int).toNat * 2,none⟩=some (.slice ua29_0 ((rd_T31 t152 t156).f0).length uc29_0):=hcc29 0 _ rfl;have hx29_1:w35.cell? ⟨go29,(t156:Int).toNat * 2 + 1,none⟩=some (.int .i64 ((rd_T31 t152 t156).f1)):=hcc29 1 _ rfl;have hf29_0:w35.frozen? ⟨go29,(t156:Int).toNat * 2,none⟩=false:=hfr29 0;have hf29_1:w35.frozen? ⟨go29,(t156:Int).toNat * 2 + 1,none⟩=false:=hfr29 1;clear hcl29 hcc29 hfr29 hM29;replace p29:=eq_true p29;replace q29:=eq_true q29;obtain ⟨Ao39,co39,eo39⟩:=Kd.R_slice HO168.out;subst eo39;have n_:=Aside0.mk (Kd.N_mono (ok':=(fun k_=>(w.heap.size≤k_)∧some k_≠(.slice Ao39 y166.length co39:Value).ownBlock)) HO154.out (fun k_ hk=>⟨hk.1.1,hk.2⟩));clear HO154;have HO154:=n_;clear n_;have HX37:=Aside0.mk (show Kd.N k31 31 w35 w.heap.size (fun k_=>(w.heap.size≤k_)) (.slice (some ⟨go29,0,none⟩) t152.length co32) t152 from (by (with_reducible repeat (first|apply Kd.N_alloc|apply Kd.N_drewN|apply Kd.N_drew));exact Kd.N_mono HO154.out (fun _ hk=>hk.1)));obtain ⟨ce37,hcl37,hM37,hcc37,hfr37⟩:=Kd.N_elem HX37.out z31 (t156:Int) (zod) (by have h_:(t156:Int) < ((t152.length:Int):Int):=zod;first|exact h_|(have e_:=(Kd.N_reads' HO154.out).1;omega)|simpa using h_);obtain ⟨ua37_0,uc37_0,rfl,ul37_0,ge37_0⟩:=k31_openF hM37;have HP37:=Kd.N_seg HX37.out (t156:Int) (zod) (by have h_:(t156:Int) < ((t152.length:Int):Int):=zod;first|exact h_|(have e_:=(Kd.N_reads' HO154.out).1;omega)|simpa using h_) (seg:=[.slice Ao39 y166.length co39]) (j:=0) hcl37 hcc37 (show 1≤2 from by decide) (x':=(⟨y166,(rd_T31 t152 t156).f1⟩:S31)) (k31_mkF _ _ (⟨y166,(rd_T31 t152 t156).f1⟩:S31) (Kd.R_reads' (Kd.R_mono (ok':=(fun k_=>((fun k_=>(w.heap.size≤k_))) k_∧k_≠go29)) (Kd.R_apart' (HO168.out) (Kd.N_typed HO154.out) (by decide)) (fun k_ hk=>⟨hk.1.1,fun e_=>(hk.2) (by rw [e_];rfl)⟩))).2.1 (Kd.R_F (Kd.R_mono (ok':=(fun k_=>((fun k_=>(w.heap.size≤k_))) k_∧k_≠go29)) (Kd.R_apart' (HO168.out) (Kd.N_typed HO154.out) (by decide)) (fun k_ hk=>⟨hk.1.1,fun e_=>(hk.2) (by rw [e_];rfl)⟩)))) (fun _ hk=>hk);have hx37_0:=hcc37 0 _ rfl;(try simp only [show (k31).sz=2 from rfl,Nat.mul_one,Nat.add_zero] at hx37_0);have hf37_0:=hfr37 0;(try simp only [show (k31).sz=2 from rfl,Nat.mul_one,Nat.add_zero] at hf37_0);clear hcl37 hcc37 hfr37 hM37)|((with_reducible refine gate_store (t:=29) (p:=36) rfl ?_);refine store_event (t:=29) (p:=36) (v:=?vo_w38) (w1:=(w35.setCell ⟨go29,(t156:Int).toNat * 2,none⟩ (.slice Ao39 y166.length co39))) ?hg ?ho ?hn ?hr ?_;(case ho=>rfl);(case hg=>rfl);(case hn=>rfl);(case hr=>first|(go_simp;done)|(go_simp;rfl)|(obtain ⟨A0_,c0_,e0_⟩:=Kd.R_slice HO168.out;subst e0_;(first|(go_simp;done)|(go_simp;rfl))));intro w38 hw;have hg:w35.grownBy w38 (some go29):=(by rw [hw];exact HP37.2);have hp_:Kd.N k31 31 w38 w.heap.size (fun k_=>(w.heap.size≤k_)) (.slice (some ⟨go29,0,none⟩) t152.length co32) y169:=(by rw [hw,Ny169.out];exact HP37.1);clear HP37;have n0_:=Aside0.mk (IsS69.grown zi69 hg (IsS69.own_neN HI0.out HO154.out (by decide)));have n1_:=Aside0.mk (hp_);have n2_:=Aside0.mk ((by rw [hw];exact below_set (HB.out) (Nat.le_trans HL.out GB29.out):Below w0.heap.size w0 w38));have n3_:=Aside0.mk (KeepBut.trans zhk (KeepBut.of_grown hg g) (Kd.N_base2 HO154.out));clear HI0;clear HO154;clear HB;clear HK;clear HO168;have HI0:=n0_;have HO154:=n1_;have HB:=n2_;have HK:=n3_;clear n0_ n1_ n2_ n3_;clear hg hw hp_))
  go_ret
  exact ⟨_,by first|rfl|(simp [errW_none,errW_some] <;> rfl)|(simp [*,errW_none,errW_some] <;> rfl),by (with_reducible repeat (first|apply Kd.N_alloc|apply Kd.N_drewN|apply Kd.N_drew));exact HO154.out,zi69,zg69,zhk⟩
 rw [if_neg c26] at H
 have c26b0:(t158 == 1)=false:=beq_eq_false_iff_ne.mpr c26
 have c26b1:(t158 != 1)=true:=bne_iff_ne.mpr c26
 by_cases c40:t158=2
 ·rw [if_pos c40] at H
  have c40b0:(t158 == 2)=true:=beq_iff_eq.mpr c40
  have c40b1:(t158 != 2)=false:=bne_eq_false_iff_eq.mpr c40
  clear c40
  by_cases c41:0 < (t152.length:Int)
  rotate_left
  ·rw [if_neg c41] at H
   exact absurd H (by simp)
  rw [if_pos c41] at H
  have c41b0:decide (0 < (t152.length:Int))=true:=decide_eq_true c41
  have c41b1:decide (0 < t152.length)=true:=decide_eq_true (by omega)
  clear c41
  by_cases c42:t152.length < 4398046511104
  rotate_left
  ·rw [if_neg c42] at H
   exact absurd H (by simp)
  rw [if_pos c42] at H
  have LMc42:=Aside0.mk c42
  clear c42
  obtain ⟨y171,hy171⟩ : ∃ y_:List (S31),y_=(t152 ++ [(⟨(rd_T31 t152 0).f0,(rd_T31 t152 0).f1⟩:S31)]):=⟨_,rfl⟩
  replace H:(some (y171,t159))=some (r1,r2):=by first|(rw [hy171];with_reducible exact H)|(have H2_:=(Option.bind_some _ _).symm.trans H;rw [hy171];with_reducible exact H2_)|(have H2_:=(Option.bind_some _ _).symm.trans H;with_reducible exact H2_)|with_reducible exact H|(rw [hy171];exact H)|exact H
  have Ny171:=Aside0.mk hy171
  clear hy171
  simp only [Option.some.injEq,Prod.mk.injEq] at H
  obtain ⟨rfl,rfl⟩:=H
  go_enter Tryd.func47,Tryd.ntmps47
  go_wp2_with (first|((with_reducible refine gate_callee (f:=22) rfl ?_);refine goesL_ (some 8) rfl rfl Tryd.func22 (by kernel_rfl) rfl #[.pointer (some ⟨g,0,none⟩),.int .i64 3] rfl zar ?_;(with_reducible refine (spec_l12Rd_pick.calls g s0_0 s0_1 3 t150 t151 w0 _ ?side1 ?side2 A2.out).mono ?_);(case side1=>exact zi69);(case side2=>exact zg69);rintro e w43 ⟨rfl,hi,hb,hk⟩;refine ⟨_,rfl,?_⟩;have n0_:=Aside0.mk (KeepBut.trans zhk hk (.inl rfl));have n1_:=Aside0.mk (hb);have n2_:=Aside0.mk (hi);clear HK;clear HB;clear HI0;have HK:=n0_;have HB:=n1_;have HI0:=n2_;clear n0_ n1_ n2_;(try clear hb);(try clear hb2);(try clear hk);(try clear hi))|((with_reducible refine gate_callee (f:=48) rfl ?_);refine goesL_ (some 10) rfl rfl Tryd.func48 (by kernel_rfl) rfl #[.pointer (some ⟨g,0,none⟩),.int .i64 (wrap64 (1 + t150)),.int .i64 6] rfl zar ?_;(with_reducible refine (spec_l2Z.calls k g s0_0 t151 (wrap64 (1 + t150)) 6 t152 t155 w0 _ ?side1 ?side2 A3.out).mono ?_);(case side1=>exact zi69);(case side2=>exact zg69);rintro e w44 ⟨v153,rfl,ho0,hi,hb,hk⟩;refine ⟨_,rfl,?_⟩;have n0_:=Aside0.mk (Kd.N_lower (Kd.N_mono (ok':=fun k_=>(w.heap.size≤k_)∧k_≠g) ho0 (fun k_ hk_=>⟨(Nat.le_trans (keep_size (w:=w) (g:=g) (row:=none) zhk) hk_),(IsS69.fresh zi69 k_ hk_)⟩)) (keep_size (w:=w) (g:=g) (row:=none) zhk));have n1_:=Aside0.mk (KeepBut.trans zhk hk (.inl rfl));have n2_:=Aside0.mk (hb);have n3_:=Aside0.mk (hi);clear HK;clear HB;clear HI0;have HO154:=n0_;have HK:=n1_;have HB:=n2_;have HI0:=n3_;clear n0_ n1_ n2_ n3_;(try clear hb);(try clear hb2);(try clear hk);(try clear hi);(try clear ho0);obtain ⟨Ao45,co45,eo45⟩:=Kd.N_slice HO154.out;subst eo45)|((with_reducible refine gate_callee (f:=22) rfl ?_);refine goesL_ (some 18) rfl rfl Tryd.func22 (by kernel_rfl) rfl #[.pointer (some ⟨g,0,none⟩),.int .i64 (t152.length:Int)] rfl zar ?_;(with_reducible refine (spec_l12Rd_pick.calls g s0_0 t155 (t152.length:Int) t156 t157 w0 _ ?side1 ?side2 A8.out).mono ?_);(case side1=>exact zi69);(case side2=>exact zg69);rintro e w46 ⟨rfl,hi,hb,hk⟩;refine ⟨_,rfl,?_⟩;have n0_:=Aside0.mk (Kd.N_mono (Kd.N_keep (Kd.N_mono (ok:=fun k_=>(((w.heap.size≤k_))∧k_≠g)) (zN HO154.out) (fun k_ hk_=>(⟨hk_,hk_.2⟩:_∧k_≠g))) hk (fun _ h=>h.2)) (fun _ h=>h.1));have n1_:=Aside0.mk (KeepBut.trans zhk hk (.inl rfl));have n2_:=Aside0.mk (hb);have n3_:=Aside0.mk (hi);clear HO154;clear HK;clear HB;clear HI0;have HO154:=n0_;have HK:=n1_;have HB:=n2_;have HI0:=n3_;clear n0_ n1_ n2_ n3_;(try clear hb);(try clear hb2);(try clear hk);(try clear hi))|((with_reducible refine gate_callee (f:=22) rfl ?_);refine goesL_ (some 20) rfl rfl Tryd.func22 (by kernel_rfl) rfl #[.pointer (some ⟨g,0,none⟩),.int .i64 40] rfl zar ?_;(with_reducible refine (spec_l12Rd_pick.calls g s0_0 t157 40 t158 t159 w0 _ ?side1 ?side2 A9.out).mono ?_);(case side1=>exact zi69);(case side2=>exact zg69);rintro e w47 ⟨rfl,hi,hb,hk⟩;refine ⟨_,rfl,?_⟩;have n0_:=Aside0.mk (Kd.N_mono (Kd.N_keep (Kd.N_mono (ok:=fun k_=>(((w.heap.size≤k_))∧k_≠g)) (zN HO154.out) (fun k_ hk_=>(⟨hk_,hk_.2⟩:_∧k_≠g))) hk (fun _ h=>h.2)) (fun _ h=>h.1));have n1_:=Aside0.mk (KeepBut.trans zhk hk (.inl rfl));have n2_:=Aside0.mk (hb);have n3_:=Aside0.mk (hi);clear HO154;clear HK;clear HB;clear HI0;have HO154:=n0_;have HK:=n1_;have HB:=n2_;have HI0:=n3_;clear n0_ n1_ n2_ n3_;(try clear hb);(try clear hb2);(try clear hk);(try clear hi);have p170:0≤(0:Int):=(by omega);have q170:0 < (t152.length:Int):=zod;obtain ⟨ad170,A170_0,c170_0,e170,hx170_0,hx170_1,hl170_0,hi170_0⟩:=at_T31 (Kd.N_reads' HO154.out).2.2 0 p170 q170;cases e170;obtain ⟨ce170,hce170,hMe170,hcc170⟩:=Kd.N_get HO154.out z31 0 p170 (by first|exact q170|exact zod|(have e_:=(Kd.N_reads' HO154.out).1;omega));obtain ⟨ua170_0,uc170_0,rfl,ul170_0,ge170_0⟩:=k31_openF hMe170;have hv170_0:=hcc170 0 _ rfl;rw [Nat.add_zero] at hv170_0;replace hv170_0:=Option.some.inj (hv170_0.symm.trans hx170_0);injection hv170_0 with hva_ hvn_ hvc_;rw [hva_] at ge170_0;rw [hvc_] at ul170_0;have HL170_0:=Aside0.mk (show Kd.V (Kd.int .i64) 3 _ w.heap.size _ _ ((rd_T31 t152 0).f0) from Kd.V_mk ul170_0 ge170_0);clear hva_ hvn_ hvc_ ge170_0 ul170_0;clear hcc170 hce170;have qi170:(0 < t152.length)=True:=eq_true (by omega);(try rw [show ((0:Int)).toNat=0 from rfl] at hx170_0);(try rw [show 0 * 2=0 from rfl] at hx170_0);(try rw [Addr.add_zero'] at hx170_0);(try rw [show ((0:Int)).toNat=0 from rfl] at hx170_1);(try rw [show 0 * 2=0 from rfl] at hx170_1);(try rw [Addr.add_zero'] at hx170_1);have HR170_0:=Aside0.mk hi170_0;have HC170_0:=Aside0.mk hl170_0;clear hi170_0 hl170_0;replace p170:=eq_true p170;replace q170:=eq_true q170)|((with_reducible refine gate_builtin (b:=.append) (xs:=#[.tmp 39,.tmp 43]) rfl ?_);at_builtin;refine Kd.N_append k31 w.heap.size rfl (.tmp 39) (.tmp 43) 23 31 (.agg #[(.slice none 0 0),(.int .i64 0)]) 32 rfl Tryd.underlying23 info31 rfl (by decide) (by omega) (.slice (some ad170) t152.length co45) t152 (⟨(rd_T31 t152 0).f0,(rd_T31 t152 0).f1⟩:S31) [.slice A170_0 ((rd_T31 t152 0).f0).length c170_0,.int .i64 ((rd_T31 t152 0).f1)] (fun k_=>(w.heap.size≤k_)∧k_≠g) (fun k_=>((fun k_=>(w.heap.size≤k_)∧k_≠g)) k_∧some k_≠(.slice (some ad170) t152.length co45:Value).ownBlock) rfl rfl ?aP (fun _ hk=>hk) ?aF ?aO (Below.refl _ _) ?aS ?aL ?_;(case aP=>exact (k31_mkF _ _ (⟨(rd_T31 t152 0).f0,(rd_T31 t152 0).f1⟩:S31) (Kd.V_reads' (Kd.V_mono (ok':=(fun k_=>((fun k_=>(w.heap.size≤k_)∧k_≠g)) k_∧some k_≠(.slice (some ad170) t152.length co45:Value).ownBlock)) (HL170_0.out) (fun k_ hk=>⟨⟨hk.1.1,hk.1.2⟩,hk.2⟩))).2.1 (Kd.V_F (Kd.V_mono (ok':=(fun k_=>((fun k_=>(w.heap.size≤k_)∧k_≠g)) k_∧some k_≠(.slice (some ad170) t152.length co45:Value).ownBlock)) (HL170_0.out) (fun k_ hk=>⟨⟨hk.1.1,hk.1.2⟩,hk.2⟩)))));(case aF=>exact (fun k_ hk=>⟨(Nat.le_trans (keep_size (w:=w) (g:=g) (row:=none) zhk) hk),IsS69.fresh zi69 k_ hk⟩));(case aO=>exact (zN HO154.out));(case aS=>exact (keep_size (w:=w) (g:=g) (row:=none) zhk));(case aL=>have:=LMc42.out;omega);intro v172 w48 ho hb hg hat;rw [← Ny171.out] at ho;have n0_:=Aside0.mk (IsS69.grown zi69 hg (IsS69.own_neN HI0.out HO154.out (by decide)));have n1_:=Aside0.mk (Kd.V_afterv (ok:=(fun k_=>(w.heap.size≤k_)∧k_≠g)) (zV HL170_0.out) hg hat);have n2_:=Aside0.mk (below_weaken zg69 HL.out hb);have n3_:=Aside0.mk (KeepBut.trans zhk (KeepBut.of_grown hg g) (Kd.N_base2 HO154.out));have n4_:=Aside0.mk (ho);clear HI0;clear HL170_0;clear HB;clear HK;clear HO154;have HI0:=n0_;have HL170_0:=n1_;have HB:=n2_;have HK:=n3_;have HO173:=n4_;clear n0_ n1_ n2_ n3_ n4_;clear ho hb hg hat))
  go_ret
  exact ⟨_,by first|rfl|(simp [errW_none,errW_some] <;> rfl)|(simp [*,errW_none,errW_some] <;> rfl),by (with_reducible repeat (first|apply Kd.N_alloc|apply Kd.N_drewN|apply Kd.N_drew));exact Kd.N_mono HO173.out (fun _ hk=>hk.1),zi69,zg69,zhk⟩
 rw [if_neg c40] at H
 have c40b0:(t158 == 2)=false:=beq_eq_false_iff_ne.mpr c40
 have c40b1:(t158 != 2)=true:=bne_iff_ne.mpr c40
 by_cases c49:t158=3
 rotate_left
 ·rw [if_neg c49] at H
  have c49b0:(t158 == 3)=false:=beq_eq_false_iff_ne.mpr c49
  have c49b1:(t158 != 3)=true:=bne_iff_ne.mpr c49
  simp only [Option.some.injEq,Prod.mk.injEq] at H
  obtain ⟨rfl,rfl⟩:=H
  go_enter Tryd.func47,Tryd.ntmps47
  go_wp2_with (first|((with_reducible refine gate_callee (f:=22) rfl ?_);refine goesL_ (some 8) rfl rfl Tryd.func22 (by kernel_rfl) rfl #[.pointer (some ⟨g,0,none⟩),.int .i64 3] rfl zar ?_;(with_reducible refine (spec_l12Rd_pick.calls g s0_0 s0_1 3 t150 t151 w0 _ ?side1 ?side2 A2.out).mono ?_);(case side1=>exact zi69);(case side2=>exact zg69);rintro e w62 ⟨rfl,hi,hb,hk⟩;refine ⟨_,rfl,?_⟩;have n0_:=Aside0.mk (KeepBut.trans zhk hk (.inl rfl));have n1_:=Aside0.mk (hb);have n2_:=Aside0.mk (hi);clear HK;clear HB;clear HI0;have HK:=n0_;have HB:=n1_;have HI0:=n2_;clear n0_ n1_ n2_;(try clear hb);(try clear hb2);(try clear hk);(try clear hi))|((with_reducible refine gate_callee (f:=48) rfl ?_);refine goesL_ (some 10) rfl rfl Tryd.func48 (by kernel_rfl) rfl #[.pointer (some ⟨g,0,none⟩),.int .i64 (wrap64 (1 + t150)),.int .i64 6] rfl zar ?_;(with_reducible refine (spec_l2Z.calls k g s0_0 t151 (wrap64 (1 + t150)) 6 t152 t155 w0 _ ?side1 ?side2 A3.out).mono ?_);(case side1=>exact zi69);(case side2=>exact zg69);rintro e w63 ⟨v153,rfl,ho0,hi,hb,hk⟩;refine ⟨_,rfl,?_⟩;have n0_:=Aside0.mk (Kd.N_lower (Kd.N_mono (ok':=fun k_=>(w.heap.size≤k_)∧k_≠g) ho0 (fun k_ hk_=>⟨(Nat.le_trans (keep_size (w:=w) (g:=g) (row:=none) zhk) hk_),(IsS69.fresh zi69 k_ hk_)⟩)) (keep_size (w:=w) (g:=g) (row:=none) zhk));have n1_:=Aside0.mk (KeepBut.trans zhk hk (.inl rfl));have n2_:=Aside0.mk (hb);have n3_:=Aside0.mk (hi);clear HK;clear HB;clear HI0;have HO154:=n0_;have HK:=n1_;have HB:=n2_;have HI0:=n3_;clear n0_ n1_ n2_ n3_;(try clear hb);(try clear hb2);(try clear hk);(try clear hi);(try clear ho0);obtain ⟨Ao64,co64,eo64⟩:=Kd.N_slice HO154.out;subst eo64)|((with_reducible refine gate_callee (f:=22) rfl ?_);refine goesL_ (some 18) rfl rfl Tryd.func22 (by kernel_rfl) rfl #[.pointer (some ⟨g,0,none⟩),.int .i64 (t152.length:Int)] rfl zar ?_;(with_reducible refine (spec_l12Rd_pick.calls g s0_0 t155 (t152.length:Int) t156 t157 w0 _ ?side1 ?side2 A8.out).mono ?_);(case side1=>exact zi69);(case side2=>exact zg69);rintro e w65 ⟨rfl,hi,hb,hk⟩;refine ⟨_,rfl,?_⟩;have n0_:=Aside0.mk (Kd.N_mono (Kd.N_keep (Kd.N_mono (ok:=fun k_=>(((w.heap.size≤k_))∧k_≠g)) (zN HO154.out) (fun k_ hk_=>(⟨hk_,hk_.2⟩:_∧k_≠g))) hk (fun _ h=>h.2)) (fun _ h=>h.1));have n1_:=Aside0.mk (KeepBut.trans zhk hk (.inl rfl));have n2_:=Aside0.mk (hb);have n3_:=Aside0.mk (hi);clear HO154;clear HK;clear HB;clear HI0;have HO154:=n0_;have HK:=n1_;have HB:=n2_;have HI0:=n3_;clear n0_ n1_ n2_ n3_;(try clear hb);(try clear hb2);(try clear hk);(try clear hi))|((with_reducible refine gate_callee (f:=22) rfl ?_);refine goesL_ (some 20) rfl rfl Tryd.func22 (by kernel_rfl) rfl #[.pointer (some ⟨g,0,none⟩),.int .i64 40] rfl zar ?_;(with_reducible refine (spec_l12Rd_pick.calls g s0_0 t157 40 t158 t159 w0 _ ?side1 ?side2 A9.out).mono ?_);(case side1=>exact zi69);(case side2=>exact zg69);rintro e w66 ⟨rfl,hi,hb,hk⟩;refine ⟨_,rfl,?_⟩;have n0_:=Aside0.mk (Kd.N_mono (Kd.N_keep (Kd.N_mono (ok:=fun k_=>(((w.heap.size≤k_))∧k_≠g)) (zN HO154.out) (fun k_ hk_=>(⟨hk_,hk_.2⟩:_∧k_≠g))) hk (fun _ h=>h.2)) (fun _ h=>h.1));have n1_:=Aside0.mk (KeepBut.trans zhk hk (.inl rfl));have n2_:=Aside0.mk (hb);have n3_:=Aside0.mk (hi);clear HO154;clear HK;clear HB;clear HI0;have HO154:=n0_;have HK:=n1_;have HB:=n2_;have HI0:=n3_;clear n0_ n1_ n2_ n3_;(try clear hb);(try clear hb2);(try clear hk);(try clear hi)))
  go_ret
  exact ⟨_,by first|rfl|(simp [errW_none,errW_some] <;> rfl)|(simp [*,errW_none,errW_some] <;> rfl),by (with_reducible repeat (first|apply Kd.N_alloc|apply Kd.N_drewN|apply Kd.N_drew));exact Kd.N_mono HO154.out (fun _ hk=>hk.1),zi69,zg69,zhk⟩

 rw [if_pos c49] at H
 have c49b0:(t158 == 3)=true:=beq_iff_eq.mpr c49
 have c49b1:(t158 != 3)=false:=bne_eq_false_iff_eq.mpr c49
 clear c49
 have H':=Aside0.mk H
 clear H
 go_enter Tryd.func47,Tryd.ntmps47
 go_wp2_with (first|((with_reducible refine gate_callee (f:=22) rfl ?_);refine goesL_ (some 8) rfl rfl Tryd.func22 (by kernel_rfl) rfl #[.pointer (some ⟨g,0,none⟩),.int .i64 3] rfl zar ?_;(with_reducible refine (spec_l12Rd_pick.calls g s0_0 s0_1 3 t150 t151 w0 _ ?side1 ?side2 A2.out).mono ?_);(case side1=>exact zi69);(case side2=>exact zg69);rintro e w50 ⟨rfl,hi,hb,hk⟩;refine ⟨_,rfl,?_⟩;have n0_:=Aside0.mk (KeepBut.trans zhk hk (.inl rfl));have n1_:=Aside0.mk (hb);have n2_:=Aside0.mk (hi);clear HK;clear HB;clear HI0;have HK:=n0_;have HB:=n1_;have HI0:=n2_;clear n0_ n1_ n2_;(try clear hb);(try clear hb2);(try clear hk);(try clear hi))|((with_reducible refine gate_callee (f:=48) rfl ?_);refine goesL_ (some 10) rfl rfl Tryd.func48 (by kernel_rfl) rfl #[.pointer (some ⟨g,0,none⟩),.int .i64 (wrap64 (1 + t150)),.int .i64 6] rfl zar ?_;(with_reducible refine (spec_l2Z.calls k g s0_0 t151 (wrap64 (1 + t150)) 6 t152 t155 w0 _ ?side1 ?side2 A3.out).mono ?_);(case side1=>exact zi69);(case side2=>exact zg69);rintro e w51 ⟨v153,rfl,ho0,hi,hb,hk⟩;refine ⟨_,rfl,?_⟩;have n0_:=Aside0.mk (Kd.N_lower (Kd.N_mono (ok':=fun k_=>(w.heap.size≤k_)∧k_≠g) ho0 (fun k_ hk_=>⟨(Nat.le_trans (keep_size (w:=w) (g:=g) (row:=none) zhk) hk_),(IsS69.fresh zi69 k_ hk_)⟩)) (keep_size (w:=w) (g:=g) (row:=none) zhk));have n1_:=Aside0.mk (KeepBut.trans zhk hk (.inl rfl));have n2_:=Aside0.mk (hb);have n3_:=Aside0.mk (hi);clear HK;clear HB;clear HI0;have HO154:=n0_;have HK:=n1_;have HB:=n2_;have HI0:=n3_;clear n0_ n1_ n2_ n3_;(try clear hb);(try clear hb2);(try clear hk);(try clear hi);(try clear ho0);obtain ⟨Ao52,co52,eo52⟩:=Kd.N_slice HO154.out;subst eo52)|((with_reducible refine gate_callee (f:=22) rfl ?_);refine goesL_ (some 18) rfl rfl Tryd.func22 (by kernel_rfl) rfl #[.pointer (some ⟨g,0,none⟩),.int .i64 (t152.length:Int)] rfl zar ?_;(with_reducible refine (spec_l12Rd_pick.calls g s0_0 t155 (t152.length:Int) t156 t157 w0 _ ?side1 ?side2 A8.out).mono ?_);(case side1=>exact zi69);(case side2=>exact zg69);rintro e w53 ⟨rfl,hi,hb,hk⟩;refine ⟨_,rfl,?_⟩;have n0_:=Aside0.mk (Kd.N_mono (Kd.N_keep (Kd.N_mono (ok:=fun k_=>(((w.heap.size≤k_))∧k_≠g)) (zN HO154.out) (fun k_ hk_=>(⟨hk_,hk_.2⟩:_∧k_≠g))) hk (fun _ h=>h.2)) (fun _ h=>h.1));have n1_:=Aside0.mk (KeepBut.trans zhk hk (.inl rfl));have n2_:=Aside0.mk (hb);have n3_:=Aside0.mk (hi);clear HO154;clear HK;clear HB;clear HI0;have HO154:=n0_;have HK:=n1_;have HB:=n2_;have HI0:=n3_;clear n0_ n1_ n2_ n3_;(try clear hb);(try clear hb2);(try clear hk);(try clear hi))|((with_reducible refine gate_callee (f:=22) rfl ?_);refine goesL_ (some 20) rfl rfl Tryd.func22 (by kernel_rfl) rfl #[.pointer (some ⟨g,0,none⟩),.int .i64 40] rfl zar ?_;(with_reducible refine (spec_l12Rd_pick.calls g s0_0 t157 40 t158 t159 w0 _ ?side1 ?side2 A9.out).mono ?_);(case side1=>exact zi69);(case side2=>exact zg69);rintro e w54 ⟨rfl,hi,hb,hk⟩;refine ⟨_,rfl,?_⟩;have n0_:=Aside0.mk (Kd.N_mono (Kd.N_keep (Kd.N_mono (ok:=fun k_=>(((w.heap.size≤k_))∧k_≠g)) (zN HO154.out) (fun k_ hk_=>(⟨hk_,hk_.2⟩:_∧k_≠g))) hk (fun _ h=>h.2)) (fun _ h=>h.1));have n1_:=Aside0.mk (KeepBut.trans zhk hk (.inl rfl));have n2_:=Aside0.mk (hb);have n3_:=Aside0.mk (hi);clear HO154;clear HK;clear HB;clear HI0;have HO154:=n0_;have HK:=n1_;have HB:=n2_;have HI0:=n3_;clear n0_ n1_ n2_ n3_;(try clear hb);(try clear hb2);(try clear hk);(try clear hi)))
 go_loopg [3,5] k (fun kq v3 v5 w'=>∃ (x3_1:List (S31)) (x5_1:Int),v5=.int .i64 x5_1∧Aside0 (spec_l2Bent.l0 kq x3_1 x5_1 s0_0 t159=some (r1,r2))∧Aside0 (kq≤k)∧Aside0 (Kd.N k31 31 w' w.heap.size (fun k_=>(w.heap.size≤k_)∧k_≠g) v3 x3_1)∧Aside0 (IsS69 w0 w' g s0_0 t159)∧Aside0 (KeepBut w w' g none)∧Aside0 (Below w0.heap.size w0 w'))
 case atStart=>exact ⟨(t152),(0),(by first|rfl|(simp;done)|(simp [*];done)),H',⟨Nat.le_refl _⟩,⟨by (with_reducible repeat (first|apply Kd.N_alloc|apply Kd.N_drewN|apply Kd.N_drew));exact HO154.out⟩,⟨zi69⟩,⟨zhk⟩,⟨zg69⟩⟩
 case round =>
  clear H'
  try clear c1
  try clear p1
  try clear q1
  try clear hx1
  try clear qi1
  try clear hf1
  try clear c2
  try clear p2
  try clear q2
  try clear hx2
  try clear hf2
  try clear c3
  try clear hx3
  try clear hf3
  try clear c4
  try clear c4b0
  try clear c4b1
  try clear c4b2
  try clear c6
  try clear p6
  try clear c10
  try clear c10b0
  try clear c10b1
  try clear c12
  try clear c12b0
  try clear c13
  try clear c13b0
  try clear c14
  try clear p14
  try clear q14
  try clear hx14
  try clear hf14
  try clear c17
  try clear p17
  try clear q17
  try clear hx17
  try clear qi17
  try clear c22
  try clear c24
  try clear hx24
  try clear hf24
  try clear c26
  try clear c26b0
  try clear c26b1
  try clear c27
  try clear c27b0
  try clear c28
  try clear c28b0
  try clear c29
  try clear p29
  try clear q29
  try clear hx29
  try clear hf29
  try clear c37
  try clear hx37
  try clear hf37
  try clear c40
  try clear c40b0
  try clear c40b1
  try clear c41
  try clear c41b0
  try clear c41b1
  try clear c42
  try clear c47
  try clear c48
  try clear c49
  try clear c49b0
  try clear c49b1
  try clear hx14_0
  try clear hx14_1
  try clear hx170_0
  try clear hx170_1
  try clear hx24_1
  try clear hx29_0
  try clear hx29_1
  try clear hx37_0
  try clear p14
  try clear p170
  try clear p29
  try clear q14
  try clear q170
  try clear q29
  obtain ⟨x3_1,x5_1,rfl,HA,HK1,HO_3,HI0,HK,HB⟩:=hrel
  cases gk with
  | zero=>exact absurd HA.out (by simp [spec_l2Bent.l0])
  | succ k1 =>
   have H:=HA.out
   clear HA
   simp only [spec_l2Bent.l0] at H
   by_cases c55:x5_1 < 101
   rotate_left
   ·rw [if_neg c55] at H
    have c55b0:decide (x5_1 < 101)=false:=decide_eq_false c55
    clear c55
    simp only [Option.some.injEq,Prod.mk.injEq] at H
    obtain ⟨rfl,rfl⟩:=H
    go_wp2
    go_ret
    exact ⟨_,by first|rfl|(simp [errW_none,errW_some] <;> rfl)|(simp [*,errW_none,errW_some] <;> rfl),by (with_reducible repeat (first|apply Kd.N_alloc|apply Kd.N_drewN|apply Kd.N_drew));exact Kd.N_mono HO_3.out (fun _ hk=>hk.1),zi69,zg69,zhk⟩
   rw [if_pos c55] at H
   have c55b0:decide (x5_1 < 101)=true:=decide_eq_true c55
   clear c55
   obtain ⟨y174,hy174⟩ : ∃ y_:List Int,y_=(([wrap64 (10 + x5_1)]:List Int)):=⟨_,rfl⟩
   replace H:((spec_l2Put.f k1 x3_1 y174 1).bind fun t177=>(spec_l2Bent.l0 k1 t177 (wrap64 (x5_1 + 1)) s0_0 t159))=some (r1,r2):=by first|(rw [hy174];with_reducible exact H)|(have H2_:=(Option.bind_some _ _).symm.trans H;rw [hy174];with_reducible exact H2_)|(have H2_:=(Option.bind_some _ _).symm.trans H;with_reducible exact H2_)|with_reducible exact H|(rw [hy174];exact H)|exact H
   have Ny174:=Aside0.mk hy174
   clear hy174
   replace H:=Option.bind_eq_some_iff.mp H
   obtain ⟨t177,A560,H⟩:=H
   (try dsimp only at H)
   have A56:=Aside0.mk A560
   clear A560
   have H':=Aside0.mk H
   clear H
   go_wp2_with (first|((with_reducible refine gate_dst (N:=54) rfl ?_);refine Kd.R_lit (Kd.int .i64) _ 3 ?hg (N:=54) ?hd (xs:=([wrap64 (10 + x5_1)]:List Int)) (inner:=[.int .i64 (wrap64 (10 + x5_1))]) (ok:=fun _=>True) (okp:=fun _=>True) ?hr ?hp (fun _ hk=>hk) trivial (Below.refl _ _) (Nat.le_refl _) (by simp) ?_;(case hd=>rfl);(case hg=>rfl);(case hr=>first|(go_simp;done)|(go_simp;rfl));(case hp=>exact (Reps.one (show Kd.M (Kd.int .i64) _ _ _ (wrap64 (10 + x5_1)) [.int .i64 (wrap64 (10 + x5_1))] from rfl) (Reps.none _ _)));intro v175 w57 ho58 hb hg_ hnew_;clear hg_ hnew_;(first|rw [← Ny174.out] at ho58|(simp only [Int.reduceToNat] at ho58;rw [← Ny174.out] at ho58));have n0_:=Aside0.mk (Kd.N_elder' (zN HO_3.out) (Kd.R_base ho58) hb);have n1_:=Aside0.mk (Kd.R_lower (Kd.R_newM (M:=fun k_=>(w.heap.size≤k_)) ho58 (keep_size (w:=w) (g:=g) (row:=none) zhk) (fun k_ h_=>h_)) (keep_size (w:=w) (g:=g) (row:=none) zhk));have n2_:=Aside0.mk (IsS69.below zi69 hb);have n3_:=Aside0.mk (KeepBut.trans zhk (KeepBut.of_below hb g none) (.inl rfl));have n4_:=Aside0.mk (below_step zg69 hb);clear HO_3;clear HI0;clear HK;clear HB;have HO_3:=n0_;have HO176:=n1_;have HI0:=n2_;have HK:=n3_;have HB:=n4_;clear n0_ n1_ n2_ n3_ n4_;clear hb ho58;obtain ⟨Ao59,co59,eo59⟩:=Kd.N_slice HO_3.out;subst eo59;obtain ⟨Ao60,co60,eo60⟩:=Kd.R_slice HO176.out;subst eo60)|((with_reducible refine gate_callee (f:=58) rfl ?_);refine goesL_ (some 55) rfl rfl Tryd.func58 (by kernel_rfl) rfl #[.slice Ao59 x3_1.length co59,.slice Ao60 y174.length co60,.int .i64 1] rfl zar ?_;(refine (spec_l2Put.calls k1 w.heap.size (fun k_=>(w.heap.size≤k_)∧some k_≠(.slice Ao60 y174.length co60:Value).ownBlock∧k_≠g) (.slice Ao59 x3_1.length co59) x3_1 _ _ y174 1 t177 ?w0_ _ ?side1 ?side2 ?side3 ?side4 ?side5 ?side6 A56.out).mono ?_);(case side1=>exact (keep_size (w:=w) (g:=g) (row:=none) zhk));(case side2=>exact (Below.refl _ _));(case side3=>exact (by (with_reducible repeat (first|apply Kd.N_alloc|apply Kd.N_drewN|apply Kd.N_drew));exact Kd.N_mono HO_3.out (fun _ hk=>⟨hk.1.1,⟨hk.2,hk.1.2⟩⟩)));(case side4=>exact (fun k_ hk=>⟨(Nat.le_trans (keep_size (w:=w) (g:=g) (row:=none) zhk) hk),Kd.fresh' (Kd.R_lt (by (with_reducible repeat (first|apply Kd.R_alloc|apply Kd.R_drewN|apply Kd.R_drew));exact HO176.out)) k_ hk,IsS69.fresh zi69 k_ hk⟩));(case side5=>repeat (first|exact (Kd.R_reads' HO176.out).2.2|(with_reducible refine Kd.C_alloc ?_ _)|(with_reducible refine Kd.C_drewN ?_ _)|(with_reducible refine Kd.C_drew ?_)));(case side6=>exact (Kd.R_reads' HO176.out).2.1);rintro e w61 ⟨v178,rfl,ho,hb,hg,hat⟩;refine ⟨_,rfl,?_⟩;have n0_:=Aside0.mk (IsS69.grown zi69 hg (IsS69.own_neN HI0.out HO_3.out (by decide)));have n1_:=Aside0.mk (Kd.R_over' (by (with_reducible repeat (first|apply Kd.R_alloc|apply Kd.R_drewN|apply Kd.R_drew));exact HO176.out) (Kd.N_typed (zN HO_3.out)) (by decide) hg);have n2_:=Aside0.mk (below_weaken zg69 HL.out hb);have n3_:=Aside0.mk (KeepBut.trans zhk (KeepBut.of_grown hg g) (Kd.N_base2 HO_3.out));have n4_:=Aside0.mk (ho);clear HI0;clear HO176;clear HB;clear HK;clear HO_3;have HI0:=n0_;have HO176:=n1_;have HB:=n2_;have HK:=n3_;have HO179:=n4_;clear n0_ n1_ n2_ n3_ n4_;clear ho hb hg hat))
   go_roundg k1
   case measure=>have:=HK1.out;omega
   case rel=>exact ⟨(t177),(wrap64 (x5_1 + 1)),(by first|rfl|(simp;done)|(simp [*];done)),H',⟨by have:=HK1.out;omega⟩,⟨by (with_reducible repeat (first|apply Kd.N_alloc|apply Kd.N_drewN|apply Kd.N_drew));exact Kd.N_mono HO179.out (fun _ hk=>⟨hk.1,hk.2.2⟩)⟩,⟨zi69⟩,⟨zhk⟩,⟨zg69⟩⟩
/-! ### spec_l5Wide: function 21 -/
def spec_l5Wide.f (k:Nat) (s0_0:List Int) (s0_1:Int):Option ((List (S31)) × Int × Int):=(spec_l12Rd_pick.f s0_0 s0_1 3).bind fun bt180=>((spec_l12Rd_pick.f s0_0 bt180.2 20).bind fun bt182=>(if bt182.1=0 then ((spec_l2Bent.f k s0_0 bt182.2).bind fun bt184=>(some (bt184.1,wrap64 (1 + bt180.1),bt184.2))) else ((spec_l2Z.f k s0_0 bt182.2 (wrap64 (1 + bt180.1)) 7).bind fun bt188=>(some (bt188.1,wrap64 (1 + bt180.1),bt188.2)))))
theorem spec_l5Wide.mono : ∀ a0 a1 k,LeO (spec_l5Wide.f k a0 a1) (spec_l5Wide.f (k + 1) a0 a1):=by
 intro a0 a1 k
 unfold spec_l5Wide.f
 repeat' first
   | (with_reducible exact spec_l2Bent.mono _ _ _)
   | (with_reducible exact spec_l2Z.mono _ _ _ _ _)
   | (with_reducible exact LeO.refl _)
   | (with_reducible exact LeO.none _)
   | (with_reducible refine LeO.ite ?_ ?_)
   | (with_reducible refine LeO.bind ?_ (fun _=>?_))
   | exact LeO.none _
   | refine LeO.ite ?_ ?_
   | refine LeO.bind ?_ (fun _=>?_)
set_option maxHeartbeats 8000000 in
set_option maxRecDepth 100000 in
theorem spec_l5Wide.calls (k:Nat) (g:Nat) (s0_0:List Int) (s0_1:Int) (r1:List (S31)) (r2:Int) (r3:Int) (w0 w:World) (hI:IsS69 w0 w g s0_0 s0_1) (hB:Below w0.heap.size w0 w) (h:spec_l5Wide.f k s0_0 s0_1=some (r1,r2,r3)) :
  Calls Tryd.prog 21 #[.pointer (some ⟨g,0,none⟩)] w fun e w'=>∃ v0_:Value,e=.returned (.tuple #[v0_,.int .i64 r2])∧Kd.N k31 31 w' w.heap.size (fun k_=>(w.heap.size≤k_)) v0_ r1∧IsS69 w0 w' g s0_0 r3∧Below w0.heap.size w0 w'∧KeepBut w w' g none:=by
 have HI0:=Aside0.mk hI
 have HK:=Aside0.mk (KeepBut.refl w g none)
 have HL:=Aside0.mk hB.size
 clear hI
 have HW0:=Aside0.mk hB.size
 have HB:=Aside0.mk hB
 clear hB
 have H:((spec_l12Rd_pick.f s0_0 s0_1 3).bind fun bt180=>((spec_l12Rd_pick.f s0_0 bt180.2 20).bind fun bt182=>(if bt182.1=0 then ((spec_l2Bent.f k s0_0 bt182.2).bind fun bt184=>(some (bt184.1,wrap64 (1 + bt180.1),bt184.2))) else ((spec_l2Z.f k s0_0 bt182.2 (wrap64 (1 + bt180.1)) 7).bind fun bt188=>(some (bt188.1,wrap64 (1 + bt180.1),bt188.2))))))=some (r1,r2,r3):=h
 clear h
 replace H:=Option.bind_eq_some_iff.mp H
 obtain ⟨⟨t180,t181⟩,A20,H⟩:=H
 (try dsimp only at H)
 have A2:=Aside0.mk A20
 clear A20
 replace H:=Option.bind_eq_some_iff.mp H
 obtain ⟨⟨t182,t183⟩,A30,H⟩:=H
 (try dsimp only at H)
 have A3:=Aside0.mk A30
 clear A30
 by_cases c4:t182=0
 ·rw [if_pos c4] at H
  have c4b0:(t182 == 0)=true:=beq_iff_eq.mpr c4
  have c4b1:(t182 != 0)=false:=bne_eq_false_iff_eq.mpr c4
  clear c4
  replace H:=Option.bind_eq_some_iff.mp H
  obtain ⟨⟨t184,t187⟩,A50,H⟩:=H
  (try dsimp only at H)
  have A5:=Aside0.mk A50
  clear A50
  simp only [Option.some.injEq,Prod.mk.injEq] at H
  obtain ⟨rfl,rfl,rfl⟩:=H
  go_enter Tryd.func21,Tryd.ntmps21
  go_wp2_with (first|((with_reducible refine gate_callee (f:=22) rfl ?_);refine goesL_ (some 6) rfl rfl Tryd.func22 (by kernel_rfl) rfl #[.pointer (some ⟨g,0,none⟩),.int .i64 3] rfl zar ?_;(with_reducible refine (spec_l12Rd_pick.calls g s0_0 s0_1 3 t180 t181 w0 _ ?side1 ?side2 A2.out).mono ?_);(case side1=>exact zi69);(case side2=>exact zg69);rintro e w6 ⟨rfl,hi,hb,hk⟩;refine ⟨_,rfl,?_⟩;have n0_:=Aside0.mk (KeepBut.trans zhk hk (.inl rfl));have n1_:=Aside0.mk (hb);have n2_:=Aside0.mk (hi);clear HK;clear HB;clear HI0;have HK:=n0_;have HB:=n1_;have HI0:=n2_;clear n0_ n1_ n2_;(try clear hb);(try clear hb2);(try clear hk);(try clear hi))|((with_reducible refine gate_callee (f:=22) rfl ?_);refine goesL_ (some 9) rfl rfl Tryd.func22 (by kernel_rfl) rfl #[.pointer (some ⟨g,0,none⟩),.int .i64 20] rfl zar ?_;(with_reducible refine (spec_l12Rd_pick.calls g s0_0 t181 20 t182 t183 w0 _ ?side1 ?side2 A3.out).mono ?_);(case side1=>exact zi69);(case side2=>exact zg69);rintro e w7 ⟨rfl,hi,hb,hk⟩;refine ⟨_,rfl,?_⟩;have n0_:=Aside0.mk (KeepBut.trans zhk hk (.inl rfl));have n1_:=Aside0.mk (hb);have n2_:=Aside0.mk (hi);clear HK;clear HB;clear HI0;have HK:=n0_;have HB:=n1_;have HI0:=n2_;clear n0_ n1_ n2_;(try clear hb);(try clear hb2);(try clear hk);(try clear hi))|((with_reducible refine gate_callee (f:=47) rfl ?_);refine goesL_ (some 12) rfl rfl Tryd.func47 (by kernel_rfl) rfl #[.pointer (some ⟨g,0,none⟩)] rfl zar ?_;(with_reducible refine (spec_l2Bent.calls k g s0_0 t183 t184 t187 w0 _ ?side1 ?side2 A5.out).mono ?_);(case side1=>exact zi69);(case side2=>exact zg69);rintro e w8 ⟨v185,rfl,ho0,hi,hb,hk⟩;refine ⟨_,rfl,?_⟩;have n0_:=Aside0.mk (Kd.N_lower (Kd.N_mono (ok':=fun k_=>(w.heap.size≤k_)∧k_≠g) ho0 (fun k_ hk_=>⟨(Nat.le_trans (keep_size (w:=w) (g:=g) (row:=none) zhk) hk_),(IsS69.fresh zi69 k_ hk_)⟩)) (keep_size (w:=w) (g:=g) (row:=none) zhk));have n1_:=Aside0.mk (KeepBut.trans zhk hk (.inl rfl));have n2_:=Aside0.mk (hb);have n3_:=Aside0.mk (hi);clear HK;clear HB;clear HI0;have HO186:=n0_;have HK:=n1_;have HB:=n2_;have HI0:=n3_;clear n0_ n1_ n2_ n3_;(try clear hb);(try clear hb2);(try clear hk);(try clear hi);(try clear ho0)))
  go_ret2
  exact ⟨_,by first|rfl|(simp [errW_none,errW_some] <;> rfl)|(simp [*,errW_none,errW_some] <;> rfl),by (with_reducible repeat (first|apply Kd.N_alloc|apply Kd.N_drewN|apply Kd.N_drew));exact Kd.N_mono HO186.out (fun _ hk=>hk.1),zi69,zg69,zhk⟩
 rw [if_neg c4] at H
 have c4b0:(t182 == 0)=false:=beq_eq_false_iff_ne.mpr c4
 have c4b1:(t182 != 0)=true:=bne_iff_ne.mpr c4
 replace H:=Option.bind_eq_some_iff.mp H
 obtain ⟨⟨t188,t191⟩,A90,H⟩:=H
 (try dsimp only at H)
 have A9:=Aside0.mk A90
 clear A90
 simp only [Option.some.injEq,Prod.mk.injEq] at H
 obtain ⟨rfl,rfl,rfl⟩:=H
 go_enter Tryd.func21,Tryd.ntmps21
 go_wp2_with (first|((with_reducible refine gate_callee (f:=22) rfl ?_);refine goesL_ (some 6) rfl rfl Tryd.func22 (by kernel_rfl) rfl #[.pointer (some ⟨g,0,none⟩),.int .i64 3] rfl zar ?_;(with_reducible refine (spec_l12Rd_pick.calls g s0_0 s0_1 3 t180 t181 w0 _ ?side1 ?side2 A2.out).mono ?_);(case side1=>exact zi69);(case side2=>exact zg69);rintro e w10 ⟨rfl,hi,hb,hk⟩;refine ⟨_,rfl,?_⟩;have n0_:=Aside0.mk (KeepBut.trans zhk hk (.inl rfl));have n1_:=Aside0.mk (hb);have n2_:=Aside0.mk (hi);clear HK;clear HB;clear HI0;have HK:=n0_;have HB:=n1_;have HI0:=n2_;clear n0_ n1_ n2_;(try clear hb);(try clear hb2);(try clear hk);(try clear hi))|((with_reducible refine gate_callee (f:=22) rfl ?_);refine goesL_ (some 9) rfl rfl Tryd.func22 (by kernel_rfl) rfl #[.pointer (some ⟨g,0,none⟩),.int .i64 20] rfl zar ?_;(with_reducible refine (spec_l12Rd_pick.calls g s0_0 t181 20 t182 t183 w0 _ ?side1 ?side2 A3.out).mono ?_);(case side1=>exact zi69);(case side2=>exact zg69);rintro e w11 ⟨rfl,hi,hb,hk⟩;refine ⟨_,rfl,?_⟩;have n0_:=Aside0.mk (KeepBut.trans zhk hk (.inl rfl));have n1_:=Aside0.mk (hb);have n2_:=Aside0.mk (hi);clear HK;clear HB;clear HI0;have HK:=n0_;have HB:=n1_;have HI0:=n2_;clear n0_ n1_ n2_;(try clear hb);(try clear hb2);(try clear hk);(try clear hi))|((with_reducible refine gate_callee (f:=48) rfl ?_);refine goesL_ (some 16) rfl rfl Tryd.func48 (by kernel_rfl) rfl #[.pointer (some ⟨g,0,none⟩),.int .i64 (wrap64 (1 + t180)),.int .i64 7] rfl zar ?_;(with_reducible refine (spec_l2Z.calls k g s0_0 t183 (wrap64 (1 + t180)) 7 t188 t191 w0 _ ?side1 ?side2 A9.out).mono ?_);(case side1=>exact zi69);(case side2=>exact zg69);rintro e w12 ⟨v189,rfl,ho0,hi,hb,hk⟩;refine ⟨_,rfl,?_⟩;have n0_:=Aside0.mk (Kd.N_lower (Kd.N_mono (ok':=fun k_=>(w.heap.size≤k_)∧k_≠g) ho0 (fun k_ hk_=>⟨(Nat.le_trans (keep_size (w:=w) (g:=g) (row:=none) zhk) hk_),(IsS69.fresh zi69 k_ hk_)⟩)) (keep_size (w:=w) (g:=g) (row:=none) zhk));have n1_:=Aside0.mk (KeepBut.trans zhk hk (.inl rfl));have n2_:=Aside0.mk (hb);have n3_:=Aside0.mk (hi);clear HK;clear HB;clear HI0;have HO190:=n0_;have HK:=n1_;have HB:=n2_;have HI0:=n3_;clear n0_ n1_ n2_ n3_;(try clear hb);(try clear hb2);(try clear hk);(try clear hi);(try clear ho0)))
 go_ret2
 exact ⟨_,by first|rfl|(simp [errW_none,errW_some] <;> rfl)|(simp [*,errW_none,errW_some] <;> rfl),by (with_reducible repeat (first|apply Kd.N_alloc|apply Kd.N_drewN|apply Kd.N_drew));exact Kd.N_mono HO190.out (fun _ hk=>hk.1),zi69,zg69,zhk⟩

/-! ### spec_DrawJoinOf: function 7 -/
def spec_DrawJoinOf.f (k:Nat) (l0:List Int):Option ((List (S31)) × (List (S31)) × Int × Int):=(spec_l12Open.f l0).bind fun bt192=>((spec_l5Wide.f k bt192.1 bt192.2).bind fun bt195=>((spec_l5Wide.f k bt192.1 bt195.2.2).bind fun bt200=>((spec_l12Rd_pick.f bt192.1 bt200.2.2 bt195.2.1).bind fun bt205=>((spec_l12Rd_pick.f bt192.1 bt205.2 20).bind fun bt207=>((spec_l12Rd_pick.f bt192.1 bt207.2 bt200.2.1).bind fun bt209=>((spec_l12Rd_pick.f bt192.1 bt209.2 20).bind fun bt211=>(some (bt195.1,bt200.1,wrap64 (bt205.1 + (wrap64 (Int.tdiv bt207.1 19))),wrap64 (bt209.1 - (wrap64 (Int.tdiv bt211.1 19)))))))))))
theorem spec_DrawJoinOf.mono : ∀ a0 k,LeO (spec_DrawJoinOf.f k a0) (spec_DrawJoinOf.f (k + 1) a0):=by
 intro a0 k
 unfold spec_DrawJoinOf.f
 repeat' first
   | (with_reducible exact spec_l5Wide.mono _ _ _)
   | (with_reducible exact LeO.refl _)
   | (with_reducible exact LeO.none _)
   | (with_reducible refine LeO.ite ?_ ?_)
   | (with_reducible refine LeO.bind ?_ (fun _=>?_))
   | exact LeO.none _
   | refine LeO.ite ?_ ?_
   | refine LeO.bind ?_ (fun _=>?_)
set_option maxHeartbeats 8000000 in
set_option maxRecDepth 100000 in
theorem spec_DrawJoinOf.calls (k:Nat) (A0:Option Addr) (c0:Nat) (l0:List Int) (r1:List (S31)) (r2:List (S31)) (r3:Int) (r4:Int) (w:World) (hr0:Kd.C (Kd.int .u8) w A0 l0.length l0) (hc0:l0.length≤c0) (h:spec_DrawJoinOf.f k l0=some (r1,r2,r3,r4)) :
  Calls Tryd.prog 7 #[.slice A0 l0.length c0] w fun e w'=>∃ v0_ v1_:Value,e=.returned (.tuple #[v0_,v1_,.int .i64 r3,.int .i64 r4])∧Kd.N k31 31 w' w.heap.size (fun k_=>(w.heap.size≤k_)∧some k_≠(v1_:Value).ownBlock) v0_ r1∧Kd.N k31 31 w' w.heap.size (fun k_=>(w.heap.size≤k_)∧some k_≠(v0_:Value).ownBlock) v1_ r2∧Below w.heap.size w w':=by
 have HR0:=Aside0.mk hr0
 have HC0:=Aside0.mk hc0
 clear hr0 hc0
 have HB:=Aside0.mk (Below.refl w.heap.size w)
 have H:((spec_l12Open.f l0).bind fun bt192=>((spec_l5Wide.f k bt192.1 bt192.2).bind fun bt195=>((spec_l5Wide.f k bt192.1 bt195.2.2).bind fun bt200=>((spec_l12Rd_pick.f bt192.1 bt200.2.2 bt195.2.1).bind fun bt205=>((spec_l12Rd_pick.f bt192.1 bt205.2 20).bind fun bt207=>((spec_l12Rd_pick.f bt192.1 bt207.2 bt200.2.1).bind fun bt209=>((spec_l12Rd_pick.f bt192.1 bt209.2 20).bind fun bt211=>(some (bt195.1,bt200.1,wrap64 (bt205.1 + (wrap64 (Int.tdiv bt207.1 19))),wrap64 (bt209.1 - (wrap64 (Int.tdiv bt211.1 19))))))))))))=some (r1,r2,r3,r4):=h
 clear h
 replace H:=Option.bind_eq_some_iff.mp H
 obtain ⟨⟨t192,t193⟩,A20,H⟩:=H
 (try dsimp only at H)
 have A2:=Aside0.mk A20
 clear A20
 replace H:=Option.bind_eq_some_iff.mp H
 obtain ⟨⟨t195,t198,t199⟩,A30,H⟩:=H
 (try dsimp only at H)
 have A3:=Aside0.mk A30
 clear A30
 replace H:=Option.bind_eq_some_iff.mp H
 obtain ⟨⟨t200,t203,t204⟩,A40,H⟩:=H
 (try dsimp only at H)
 have A4:=Aside0.mk A40
 clear A40
 replace H:=Option.bind_eq_some_iff.mp H
 obtain ⟨⟨t205,t206⟩,A50,H⟩:=H
 (try dsimp only at H)
 have A5:=Aside0.mk A50
 clear A50
 replace H:=Option.bind_eq_some_iff.mp H
 obtain ⟨⟨t207,t208⟩,A60,H⟩:=H
 (try dsimp only at H)
 have A6:=Aside0.mk A60
 clear A60
 replace H:=Option.bind_eq_some_iff.mp H
 obtain ⟨⟨t209,t210⟩,A70,H⟩:=H
 (try dsimp only at H)
 have A7:=Aside0.mk A70
 clear A70
 replace H:=Option.bind_eq_some_iff.mp H
 obtain ⟨⟨t211,t212⟩,A80,H⟩:=H
 (try dsimp only at H)
 have A8:=Aside0.mk A80
 clear A80
 simp only [Option.some.injEq,Prod.mk.injEq] at H
 obtain ⟨rfl,rfl,rfl,rfl⟩:=H
 go_enter Tryd.func7,Tryd.ntmps7
 go_wp2_with (first|((with_reducible refine gate_callee (f:=20) rfl ?_);refine goesL_ (some 12) rfl rfl Tryd.func20 (by kernel_rfl) rfl #[.slice A0 l0.length c0] rfl zar ?_;(with_reducible refine (spec_l12Open.calls _ _ l0 t192 t193 w _ ?side1 ?side2 ?side3 A2.out).mono ?_);(case side1=>exact zhb);(case side2=>exact HR0.out);(case side3=>exact HC0.out);rintro e w9 ⟨g194,rfl,hi,hb,hb2⟩;refine ⟨_,rfl,?_⟩;have n0_:=Aside0.mk (hb);have n1_:=Aside0.mk (hi);clear HB;have HB:=n0_;have HI194:=n1_;clear n0_ n1_;(try clear hb);(try clear hb2);(try clear hk);(try clear hi))|((with_reducible refine gate_callee (f:=21) rfl ?_);refine goesL_ (some 15) rfl rfl Tryd.func21 (by kernel_rfl) rfl #[.pointer (some ⟨g194,0,none⟩)] rfl zar ?_;(with_reducible refine (spec_l5Wide.calls k g194 t192 t193 t195 t198 t199 w _ ?side1 ?side2 A3.out).mono ?_);(case side1=>repeat (first|(with_reducible first|exact HI194.out|apply IsS69.alloc|apply IsS69.drewN|apply IsS69.drew|apply IsS69.set_1)|exact HI194.out));(case side2=>repeat (first|(with_reducible first|exact HB.out|apply below_alloc|apply pw_below_drewN|apply below_drew1|refine below_set ?_ (IsS69.ge HI194.out))|exact HB.out));rintro e w10 ⟨v196,rfl,ho0,hi,hb,hk⟩;refine ⟨_,rfl,?_⟩;have n0_:=Aside0.mk (Kd.N_lower (Kd.N_mono (ok':=fun k_=>(w.heap.size≤k_)∧k_≠g194) ho0 (fun k_ hk_=>⟨(Nat.le_trans (below_size (by repeat (first|(with_reducible first|exact HB.out|apply below_alloc|apply pw_below_drewN|apply below_drew1|refine below_set ?_ (IsS69.ge HI194.out))|exact HB.out))) hk_),(IsS69.fresh (by repeat (first|(with_reducible first|exact HI194.out|apply IsS69.alloc|apply IsS69.drewN|apply IsS69.drew|apply IsS69.set_1)|exact HI194.out)) k_ hk_)⟩)) (below_size (by repeat (first|(with_reducible first|exact HB.out|apply below_alloc|apply pw_below_drewN|apply below_drew1|refine below_set ?_ (IsS69.ge HI194.out))|exact HB.out))));have n1_:=Aside0.mk (hb);have n2_:=Aside0.mk (hi);clear HB;clear HI194;have HO197:=n0_;have HB:=n1_;have HI194:=n2_;clear n0_ n1_ n2_;(try clear hb);(try clear hb2);(try clear hk);(try clear hi);(try clear ho0))|((with_reducible refine gate_callee (f:=21) rfl ?_);refine goesL_ (some 20) rfl rfl Tryd.func21 (by kernel_rfl) rfl #[.pointer (some ⟨g194,0,none⟩)] rfl zar ?_;(with_reducible refine (spec_l5Wide.calls k g194 t192 t199 t200 t203 t204 w _ ?side1 ?side2 A4.out).mono ?_);(case side1=>repeat (first|(with_reducible first|exact HI194.out|apply IsS69.alloc|apply IsS69.drewN|apply IsS69.drew|apply IsS69.set_1)|exact HI194.out));(case side2=>repeat (first|(with_reducible first|exact HB.out|apply below_alloc|apply pw_below_drewN|apply below_drew1|refine below_set ?_ (IsS69.ge HI194.out))|exact HB.out));rintro e w11 ⟨v201,rfl,ho0,hi,hb,hk⟩;refine ⟨_,rfl,?_⟩;have n0_:=Aside0.mk (Kd.N_mono (Kd.N_told (Kd.N_oldK (Kd.N_mono (ok:=fun k_=>(((w.heap.size≤k_))∧k_≠g194)) (zN HO197.out) (fun k_ hk_=>(⟨hk_,hk_.2⟩:_∧k_≠g194))) hk) (Kd.N_base ho0)) (fun _ h_=>h_.1));have n1_:=Aside0.mk (Kd.N_lower (Kd.N_mono (ok':=fun k_=>(w.heap.size≤k_)∧some k_≠(v196:Value).ownBlock∧k_≠g194) ho0 (fun k_ hk_=>⟨(Nat.le_trans (below_size (by repeat (first|(with_reducible first|exact HB.out|apply below_alloc|apply pw_below_drewN|apply below_drew1|refine below_set ?_ (IsS69.ge HI194.out))|exact HB.out))) hk_),(Kd.fresh' (Kd.N_lt (zN HO197.out)) k_ hk_),(IsS69.fresh (by repeat (first|(with_reducible first|exact HI194.out|apply IsS69.alloc|apply IsS69.drewN|apply IsS69.drew|apply IsS69.set_1)|exact HI194.out)) k_ hk_)⟩)) (below_size (by repeat (first|(with_reducible first|exact HB.out|apply below_alloc|apply pw_below_drewN|apply below_drew1|refine below_set ?_ (IsS69.ge HI194.out))|exact HB.out))));have n2_:=Aside0.mk (hb);have n3_:=Aside0.mk (hi);clear HO197;clear HB;clear HI194;have HO197:=n0_;have HO202:=n1_;have HB:=n2_;have HI194:=n3_;clear n0_ n1_ n2_ n3_;(try clear hb);(try clear hb2);(try clear hk);(try clear hi);(try clear ho0))|((with_reducible refine gate_callee (f:=22) rfl ?_);refine goesL_ (some 27) rfl rfl Tryd.func22 (by kernel_rfl) rfl #[.pointer (some ⟨g194,0,none⟩),.int .i64 t198] rfl zar ?_;(with_reducible refine (spec_l12Rd_pick.calls g194 t192 t204 t198 t205 t206 w _ ?side1 ?side2 A5.out).mono ?_);(case side1=>repeat (first|(with_reducible first|exact HI194.out|apply IsS69.alloc|apply IsS69.drewN|apply IsS69.drew|apply IsS69.set_1)|exact HI194.out));(case side2=>repeat (first|(with_reducible first|exact HB.out|apply below_alloc|apply pw_below_drewN|apply below_drew1|refine below_set ?_ (IsS69.ge HI194.out))|exact HB.out));rintro e w12 ⟨rfl,hi,hb,hk⟩;refine ⟨_,rfl,?_⟩;have n0_:=Aside0.mk (Kd.N_mono (Kd.N_keep (Kd.N_mono (ok:=fun k_=>((((w.heap.size≤k_))∧k_≠g194)∧some k_≠(v201:Value).ownBlock)) (zN HO197.out) (fun k_ hk_=>(⟨hk_,hk_.1.2⟩:_∧k_≠g194))) hk (fun _ h=>h.2)) (fun _ h=>h.1));have n1_:=Aside0.mk (Kd.N_mono (Kd.N_keep (Kd.N_mono (ok:=fun k_=>(((w.heap.size≤k_))∧(some k_≠(v196:Value).ownBlock∧k_≠g194))) (zN HO202.out) (fun k_ hk_=>(⟨hk_,hk_.2.2⟩:_∧k_≠g194))) hk (fun _ h=>h.2)) (fun _ h=>h.1));have n2_:=Aside0.mk (hb);have n3_:=Aside0.mk (hi);clear HO197;clear HO202;clear HB;clear HI194;have HO197:=n0_;have HO202:=n1_;have HB:=n2_;have HI194:=n3_;clear n0_ n1_ n2_ n3_;(try clear hb);(try clear hb2);(try clear hk);(try clear hi))|((with_reducible refine gate_callee (f:=22) rfl ?_);refine goesL_ (some 29) rfl rfl Tryd.func22 (by kernel_rfl) rfl #[.pointer (some ⟨g194,0,none⟩),.int .i64 20] rfl zar ?_;(with_reducible refine (spec_l12Rd_pick.calls g194 t192 t206 20 t207 t208 w _ ?side1 ?side2 A6.out).mono ?_);(case side1=>repeat (first|(with_reducible first|exact HI194.out|apply IsS69.alloc|apply IsS69.drewN|apply IsS69.drew|apply IsS69.set_1)|exact HI194.out));(case side2=>repeat (first|(with_reducible first|exact HB.out|apply below_alloc|apply pw_below_drewN|apply below_drew1|refine below_set ?_ (IsS69.ge HI194.out))|exact HB.out));rintro e w13 ⟨rfl,hi,hb,hk⟩;refine ⟨_,rfl,?_⟩;have n0_:=Aside0.mk (Kd.N_mono (Kd.N_keep (Kd.N_mono (ok:=fun k_=>((((w.heap.size≤k_))∧k_≠g194)∧some k_≠(v201:Value).ownBlock)) (zN HO197.out) (fun k_ hk_=>(⟨hk_,hk_.1.2⟩:_∧k_≠g194))) hk (fun _ h=>h.2)) (fun _ h=>h.1));have n1_:=Aside0.mk (Kd.N_mono (Kd.N_keep (Kd.N_mono (ok:=fun k_=>(((w.heap.size≤k_))∧(some k_≠(v196:Value).ownBlock∧k_≠g194))) (zN HO202.out) (fun k_ hk_=>(⟨hk_,hk_.2.2⟩:_∧k_≠g194))) hk (fun _ h=>h.2)) (fun _ h=>h.1));have n2_:=Aside0.mk (hb);have n3_:=Aside0.mk (hi);clear HO197;clear HO202;clear HB;clear HI194;have HO197:=n0_;have HO202:=n1_;have HB:=n2_;have HI194:=n3_;clear n0_ n1_ n2_ n3_;(try clear hb);(try clear hb2);(try clear hk);(try clear hi))|((with_reducible refine gate_callee (f:=22) rfl ?_);refine goesL_ (some 34) rfl rfl Tryd.func22 (by kernel_rfl) rfl #[.pointer (some ⟨g194,0,none⟩),.int .i64 t203] rfl zar ?_;(with_reducible refine (spec_l12Rd_pick.calls g194 t192 t208 t203 t209 t210 w _ ?side1 ?side2 A7.out).mono ?_);(case side1=>repeat (first|(with_reducible first|exact HI194.out|apply IsS69.alloc|apply IsS69.drewN|apply IsS69.drew|apply IsS69.set_1)|exact HI194.out));(case side2=>repeat (first|(with_reducible first|exact HB.out|apply below_alloc|apply pw_below_drewN|apply below_drew1|refine below_set ?_ (IsS69.ge HI194.out))|exact HB.out));rintro e w14 ⟨rfl,hi,hb,hk⟩;refine ⟨_,rfl,?_⟩;have n0_:=Aside0.mk (Kd.N_mono (Kd.N_keep (Kd.N_mono (ok:=fun k_=>((((w.heap.size≤k_))∧k_≠g194)∧some k_≠(v201:Value).ownBlock)) (zN HO197.out) (fun k_ hk_=>(⟨hk_,hk_.1.2⟩:_∧k_≠g194))) hk (fun _ h=>h.2)) (fun _ h=>h.1));have n1_:=Aside0.mk (Kd.N_mono (Kd.N_keep (Kd.N_mono (ok:=fun k_=>(((w.heap.size≤k_))∧(some k_≠(v196:Value).ownBlock∧k_≠g194))) (zN HO202.out) (fun k_ hk_=>(⟨hk_,hk_.2.2⟩:_∧k_≠g194))) hk (fun _ h=>h.2)) (fun _ h=>h.1));have n2_:=Aside0.mk (hb);have n3_:=Aside0.mk (hi);clear HO197;clear HO202;clear HB;clear HI194;have HO197:=n0_;have HO202:=n1_;have HB:=n2_;have HI194:=n3_;clear n0_ n1_ n2_ n3_;(try clear hb);(try clear hb2);(try clear hk);(try clear hi))|((with_reducible refine gate_callee (f:=22) rfl ?_);refine goesL_ (some 36) rfl rfl Tryd.func22 (by kernel_rfl) rfl #[.pointer (some ⟨g194,0,none⟩),.int .i64 20] rfl zar ?_;(with_reducible refine (spec_l12Rd_pick.calls g194 t192 t210 20 t211 t212 w _ ?side1 ?side2 A8.out).mono ?_);(case side1=>repeat (first|(with_reducible first|exact HI194.out|apply IsS69.alloc|apply IsS69.drewN|apply IsS69.drew|apply IsS69.set_1)|exact HI194.out));(case side2=>repeat (first|(with_reducible first|exact HB.out|apply below_alloc|apply pw_below_drewN|apply below_drew1|refine below_set ?_ (IsS69.ge HI194.out))|exact HB.out));rintro e w15 ⟨rfl,hi,hb,hk⟩;refine ⟨_,rfl,?_⟩;have n0_:=Aside0.mk (Kd.N_mono (Kd.N_keep (Kd.N_mono (ok:=fun k_=>((((w.heap.size≤k_))∧k_≠g194)∧some k_≠(v201:Value).ownBlock)) (zN HO197.out) (fun k_ hk_=>(⟨hk_,hk_.1.2⟩:_∧k_≠g194))) hk (fun _ h=>h.2)) (fun _ h=>h.1));have n1_:=Aside0.mk (Kd.N_mono (Kd.N_keep (Kd.N_mono (ok:=fun k_=>(((w.heap.size≤k_))∧(some k_≠(v196:Value).ownBlock∧k_≠g194))) (zN HO202.out) (fun k_ hk_=>(⟨hk_,hk_.2.2⟩:_∧k_≠g194))) hk (fun _ h=>h.2)) (fun _ h=>h.1));have n2_:=Aside0.mk (hb);have n3_:=Aside0.mk (hi);clear HO197;clear HO202;clear HB;clear HI194;have HO197:=n0_;have HO202:=n1_;have HB:=n2_;have HI194:=n3_;clear n0_ n1_ n2_ n3_;(try clear hb);(try clear hb2);(try clear hk);(try clear hi)))
 refine bodyPost_ret (results_list (rs:=[.tmp 2,.tmp 3,.tmp 4,.tmp 5]) rfl (by simp) (.tmp (.tmp (.tmp (.tmp .nil))))) rfl ?_
 exact ⟨_,_,by first|rfl|(simp [errW_none,errW_some] <;> rfl)|(simp [*,errW_none,errW_some] <;> rfl),by (with_reducible repeat (first|apply Kd.N_alloc|apply Kd.N_drewN|apply Kd.N_drew));exact Kd.N_mono HO197.out (fun _ hk=>⟨hk.1.1,hk.2⟩),by (with_reducible repeat (first|apply Kd.N_alloc|apply Kd.N_drewN|apply Kd.N_drew));exact Kd.N_mono HO202.out (fun _ hk=>⟨hk.1,hk.2.1⟩),by repeat (first|(with_reducible first|exact HB.out|apply below_alloc|apply pw_below_drewN|apply below_drew1|refine below_set ?_ (IsS69.ge HI194.out))|exact HB.out)⟩

-- NOT PRINTED: function 66 (slices_Grow_int_int)

/-! ### slices_Grow_int_int__nil: function 66, at the nil slice (by hand) -/
def slices_Grow_int_int__nil.f (a1:Int):Option (List Int):=if 0≤a1 then (if a1≤17592186044415 then (some []) else (none)) else (none)
set_option maxHeartbeats 8000000 in
set_option maxRecDepth 100000 in
theorem slices_Grow_int_int__nil.calls (a1:Int) (r:List Int) (w:World) (h:slices_Grow_int_int__nil.f a1=some r) :
  Calls Tryd.prog 66 #[.slice none 0 0,.int .i64 a1] w fun e w'=>∃ v0_:Value,e=.returned (v0_)∧Kd.R (Kd.int .i64) 3 w' w.heap.size (fun _=>True) v0_ r∧Below w.heap.size w w':=by
 unfold slices_Grow_int_int__nil.f at h
 by_cases h0:0≤a1
 rotate_left
 ·rw [if_neg h0] at h
  cases h

 rw [if_pos h0] at h
 by_cases h1:a1≤17592186044415
 rotate_left
 ·rw [if_neg h1] at h
  cases h
 rw [if_pos h1] at h
 obtain rfl:=Option.some.inj h
 clear h
 obtain ⟨n,rfl⟩:=Int.eq_ofNat_of_zero_le h0
 have hw:Below w.heap.size w w:=Below.refl _ _
 by_cases hn:n=0
 ·subst hn
  go_enter Tryd.func66,Tryd.ntmps66
  go_wp2
  go_ret
  exact ⟨_,rfl,Kd.R_nil _ _ _ _ _,hw⟩
 obtain ⟨i0,hi0,hzz⟩:=Option.map_eq_some_iff.1 info3
 simp only [Prod.mk.injEq] at hzz
 obtain ⟨hz0,hs0,hb0⟩:=hzz
 have hold:(Builtin.firstCells i0.size 0 (.slice none 0 0)).run Tryd.prog w.drew=.ok ([]:List Value).toArray w.drew:=run_firstCells_none w.drew i0.size 0 0 0
 have hfit:Builtin.nextslicecap (0 + n) 0 * i0.bytes≤281474976710656:=growslice_fits (by omega) (by rw [hb0];omega)
 have hrz:=fun ty=>Lib.run_append_grow_zeros w 29 3 ty 3 i0 (.int .i64 0) .i64 .i64 Tryd.underlying29 Tryd.underlying3 hi0 hz0 none 0 0 [] hold n (by omega) (by omega) (by omega) (by omega) (by rw [hb0];omega) hfit
 have hGn:0 + n≤grownCap w (0 + n) 0 3:=grownCap_ge w _ _ _
 have hGm:=grownCap_le_maxLen w (0 + n) 0 3 (by unfold maxLen;omega)
 generalize hG:grownCap w (0 + n) 0 3=G at hrz hGn hGm
 rw [Nat.zero_add] at hrz hGn
 have hsz:(([]:List Value).toArray ++ Builtin.zeroCells (Value.int .i64 0).cells n ++ Builtin.zeroCells (Value.int .i64 0).cells (G - n)).size=G:=by
  have z : ∀ m,(Builtin.zeroCells (Value.int .i64 0).cells m).size=m:=fun m=>by simp [Builtin.zeroCells,Value.cells]
  simp [z];omega
 generalize hC:(([]:List Value).toArray ++ Builtin.zeroCells (Value.int .i64 0).cells n ++ Builtin.zeroCells (Value.int .i64 0).cells (G - n))=C at hrz hsz
 have hn1 : ¬ ((n:Int) < 0):=by omega
 have hn2:(n:Int) > 0:=by omega
 have hG63:G≤9223372036854775807:=by unfold maxLen at hGm;exact hGm
 have HR:Kd.R (Kd.int .i64) 3 (w.drew.alloc (.cells C 3)) w.heap.size (fun _=>True) (.slice (some ⟨w.heap.size,0,none⟩) 0 G) []:=by
  refine ⟨fun _ _=>trivial,[],⟨by simp,.inr ⟨w.heap.size,G,C,rfl,Nat.le_refl _,?_,Nat.zero_le _,hGm,?_,by simp⟩⟩,Reps.none _ _⟩
  ·exact heap_alloc_new w.drew (.cells C 3)
  show C.size=G * 1
  omega
 have HBl:Below w.heap.size w (w.drew.alloc (.cells C 3)):=below_alloc (below_drew hw) _
 have X:=Aside0.mk HR
 have Y:=Aside0.mk HBl
 clear HR HBl hC hG hsz hold hfit hi0 hz0 hs0 hb0 hGm hw hn
 go_enter Tryd.func66,Tryd.ntmps66
 go_wp2_with (at_builtin;refine Lib.wpList_append_run _ rfl _ _ _ _ rfl _ _ rfl rfl _ _ (hrz _) ?_)
 go_ret
 exact ⟨_,rfl,X.out,Y.out⟩
end Go.Proofs.YtlknceioincaeaaDoor.PFnJoin
