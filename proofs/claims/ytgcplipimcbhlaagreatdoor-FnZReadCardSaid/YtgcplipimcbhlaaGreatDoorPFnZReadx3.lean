-- Written by wip/tools/pp.py, a program of this session over the kit's printer: not the kit's own print
import Derived.Test.YtgcplipimcbhlaaGreatDoorPFnZReadx0
import Derived.Test.YtgcplipimcbhlaaGreatDoorPFnZReadx1
import Derived.Test.YtgcplipimcbhlaaGreatDoorPFnZReadx2
namespace Go.Proofs.YtgcplipimcbhlaaGreatDoor.PFnZRead
open Go.RowKit Go.Proofs.YtgcplipimcbhlaaGreatDoorW.PrintWords Go.Proofs.YtgcplipimcbhlaaGreatDoorW.PrintLast Go.Proofs.YtgcplipimcbhlaaGreatDoorW.PrintMore
attribute [local go_sem] max2_int min2_int max_two min_two max_three min_three max_four min_four   -- for this text's walks alone
set_option linter.unusedVariables false
set_option linter.unusedSimpArgs false

/-! ### spec_l1Row: function 72 -/
def spec_l1Row.l0:Nat→Int→List Int→Int→List Int→Int→Option (List Int × Int)
 | 0,_,_,_,_,_=>none
 | k + 1,x1,x5,x6,x1000,x1001=>if x6 < x1 then ((spec_l12Rd_num.f x1000 x1001 (([0,1,2,3,1,2,(-1),5]:List Int))).bind fun bt125=>(if x5.length < 17592186044416 then (spec_l1Row.l0 k x1 (x5 ++ [bt125.1]) (wrap64 (x6 + 1)) x1000 bt125.2) else (none))) else (some (x5,x1001))
def spec_l1Row.f (k:Nat) (s0_0:List Int) (s0_1:Int) (a1:Int):Option (List Int × Int):=spec_l1Row.l0 k a1 (([]:List Int)) 0 s0_0 s0_1
theorem spec_l1Row.mono_l : ∀ k,(∀ y0 y1 y2 y3 y4,LeO (spec_l1Row.l0 k y0 y1 y2 y3 y4) (spec_l1Row.l0 (k + 1) y0 y1 y2 y3 y4))
 | 0=>fun _ _ _ _ _ r h=>by simp [spec_l1Row.l0] at h
 | k + 1=>by
  have ih0:=spec_l1Row.mono_l k
  ·intro y0 y1 y2 y3 y4
   unfold spec_l1Row.l0
   repeat' first
   | (with_reducible exact ih0 _ _ _ _ _)
   | (with_reducible exact LeO.refl _)
   | (with_reducible exact LeO.none _)
   | (with_reducible refine LeO.ite ?_ ?_)
   | (with_reducible refine LeO.bind ?_ (fun _=>?_))
   | exact LeO.none _
   | refine LeO.ite ?_ ?_
   | refine LeO.bind ?_ (fun _=>?_)
theorem spec_l1Row.mono : ∀ a0 a1 a2 k,LeO (spec_l1Row.f k a0 a1 a2) (spec_l1Row.f (k + 1) a0 a1 a2):=by
 intro a0 a1 a2 k
 have ih0:=spec_l1Row.mono_l k
 unfold spec_l1Row.f
 repeat' first
   | (with_reducible exact ih0 _ _ _ _ _)
   | (with_reducible exact LeO.refl _)
   | (with_reducible exact LeO.none _)
   | (with_reducible refine LeO.ite ?_ ?_)
   | (with_reducible refine LeO.bind ?_ (fun _=>?_))
   | exact LeO.none _
   | refine LeO.ite ?_ ?_
   | refine LeO.bind ?_ (fun _=>?_)
set_option maxHeartbeats 8000000 in
set_option maxRecDepth 100000 in
theorem spec_l1Row.calls (k:Nat) (g:Nat) (s0_0:List Int) (s0_1:Int) (a1:Int) (r1:List Int) (r2:Int) (w0 w:World) (hI:IsS71 w0 w g s0_0 s0_1) (hB:Below w0.heap.size w0 w) (h:spec_l1Row.f k s0_0 s0_1 a1=some (r1,r2)) :
  Calls Tryz.prog 72 #[.pointer (some ⟨g,0,none⟩),.int .i64 a1] w fun e w'=>∃ v0_:Value,e=.returned (v0_)∧Kd.R (Kd.int .i64) 3 w' w.heap.size (fun _=>True) v0_ r1∧IsS71 w0 w' g s0_0 r2∧Below w0.heap.size w0 w'∧KeepBut w w' g none:=by
 have HI0:=Aside0.mk hI
 have HK:=Aside0.mk (KeepBut.refl w g none)
 have HL:=Aside0.mk hB.size
 clear hI
 have HW0:=Aside0.mk hB.size
 have HB:=Aside0.mk hB
 clear hB
 have H:(spec_l1Row.l0 k a1 (([]:List Int)) 0 s0_0 s0_1)=some (r1,r2):=h
 clear h
 obtain ⟨y119,hy119⟩ : ∃ y_:List Int,y_=(([]:List Int)):=⟨_,rfl⟩
 replace H:(spec_l1Row.l0 k a1 y119 0 s0_0 s0_1)=some (r1,r2):=by first|(rw [hy119];with_reducible exact H)|(have H2_:=(Option.bind_some _ _).symm.trans H;rw [hy119];with_reducible exact H2_)|(have H2_:=(Option.bind_some _ _).symm.trans H;with_reducible exact H2_)|with_reducible exact H|(rw [hy119];exact H)|exact H
 have Ny119:=Aside0.mk hy119
 clear hy119
 have H':=Aside0.mk H
 clear H
 go_enter Tryz.func72,Tryz.ntmps72
 go_wp2_with (first|((with_reducible refine gate_dst (N:=7) rfl ?_);refine Kd.R_lit (Kd.int .i64) _ 3 ?hg (N:=7) ?hd (xs:=([]:List Int)) (inner:=[]) (ok:=fun _=>True) (okp:=fun _=>True) ?hr ?hp (fun _ hk=>hk) trivial (Below.refl _ _) (Nat.le_refl _) (by simp) ?_;(case hd=>rfl);(case hg=>rfl);(case hr=>first|(go_simp;done)|(go_simp;rfl));(case hp=>exact (Reps.none _ _));intro v120 w3 ho4 hb hg_ hnew_;clear hg_ hnew_;(first|rw [← Ny119.out] at ho4|(simp only [Int.reduceToNat] at ho4;rw [← Ny119.out] at ho4));have n0_:=Aside0.mk (Kd.R_lower ho4 (keep_size (w:=w) (g:=g) (row:=none) zhk));have n1_:=Aside0.mk (IsS71.below zi71 hb);have n2_:=Aside0.mk (KeepBut.trans zhk (KeepBut.of_below hb g none) (.inl rfl));have n3_:=Aside0.mk (below_step zg71 hb);clear HI0;clear HK;clear HB;have HO121:=n0_;have HI0:=n1_;have HK:=n2_;have HB:=n3_;clear n0_ n1_ n2_ n3_;clear hb ho4))
 go_loopg [5,6] k (fun kq v5 v6 w'=>∃ (x5_1:List Int) (x6_1:Int) (x1001_1:Int),v6=.int .i64 x6_1∧Aside0 (spec_l1Row.l0 kq a1 x5_1 x6_1 s0_0 x1001_1=some (r1,r2))∧Aside0 (kq≤k)∧Aside0 (Kd.R (Kd.int .i64) 3 w' w.heap.size (fun _=>True) v5 x5_1)∧Aside0 (IsS71 w0 w' g s0_0 x1001_1)∧Aside0 (KeepBut w w' g none)∧Aside0 (Below w0.heap.size w0 w'))
 case atStart=>exact ⟨(y119),(0),(s0_1),(by first|rfl|(simp;done)|(simp [*];done)),H',⟨Nat.le_refl _⟩,⟨by (with_reducible repeat (first|apply Kd.R_alloc|apply Kd.R_drewN|apply Kd.R_drew));exact HO121.out⟩,⟨zi71⟩,⟨zhk⟩,⟨zg71⟩⟩
 case round =>
  clear H'
  try clear p2
  obtain ⟨x5_1,x6_1,x1001_1,rfl,HA,HK1,HO_5,HI0,HK,HB⟩:=hrel
  cases gk with
  | zero=>exact absurd HA.out (by simp [spec_l1Row.l0])
  | succ k1 =>
   have H:=HA.out
   clear HA
   simp only [spec_l1Row.l0] at H
   by_cases c5:x6_1 < a1
   ·rw [if_pos c5] at H
    have c5b0:decide (x6_1 < a1)=true:=decide_eq_true c5
    clear c5
    obtain ⟨y122,hy122⟩ : ∃ y_:List Int,y_=(([0,1,2,3,1,2,(-1),5]:List Int)):=⟨_,rfl⟩
    replace H:((spec_l12Rd_num.f s0_0 x1001_1 y122).bind fun bt125=>(if x5_1.length < 17592186044416 then (spec_l1Row.l0 k1 a1 (x5_1 ++ [bt125.1]) (wrap64 (x6_1 + 1)) s0_0 bt125.2) else (none)))=some (r1,r2):=by first|(rw [hy122];with_reducible exact H)|(have H2_:=(Option.bind_some _ _).symm.trans H;rw [hy122];with_reducible exact H2_)|(have H2_:=(Option.bind_some _ _).symm.trans H;with_reducible exact H2_)|with_reducible exact H|(rw [hy122];exact H)|exact H
    have Ny122:=Aside0.mk hy122
    clear hy122
    replace H:=Option.bind_eq_some_iff.mp H
    obtain ⟨⟨t125,t126⟩,A60,H⟩:=H
    (try dsimp only at H)
    have A6:=Aside0.mk A60
    clear A60
    by_cases c7:x5_1.length < 17592186044416
    ·rw [if_pos c7] at H
     have LMc7:=Aside0.mk c7
     clear c7
     obtain ⟨y127,hy127⟩ : ∃ y_:List Int,y_=(x5_1 ++ [t125]):=⟨_,rfl⟩
     replace H:(spec_l1Row.l0 k1 a1 y127 (wrap64 (x6_1 + 1)) s0_0 t126)=some (r1,r2):=by first|(rw [hy127];with_reducible exact H)|(have H2_:=(Option.bind_some _ _).symm.trans H;rw [hy127];with_reducible exact H2_)|(have H2_:=(Option.bind_some _ _).symm.trans H;with_reducible exact H2_)|with_reducible exact H|(rw [hy127];exact H)|exact H
     have Ny127:=Aside0.mk hy127
     clear hy127
     have H':=Aside0.mk H
     clear H
     go_wp2_with (first|((with_reducible refine gate_dst (N:=15) rfl ?_);refine Kd.R_lit (Kd.int .i64) _ 3 ?hg (N:=15) ?hd (xs:=([0,1,2,3,1,2,(-1),5]:List Int)) (inner:=[.int .i64 0,.int .i64 1,.int .i64 2,.int .i64 3,.int .i64 1,.int .i64 2,.int .i64 (-1),.int .i64 5]) (ok:=fun _=>True) (okp:=fun _=>True) ?hr ?hp (fun _ hk=>hk) trivial (Below.refl _ _) (Nat.le_refl _) (by simp) ?_;(case hd=>rfl);(case hg=>rfl);(case hr=>first|(go_simp;done)|(go_simp;rfl));(case hp=>exact (Reps.one (show Kd.M (Kd.int .i64) _ _ _ 0 [.int .i64 0] from rfl) (Reps.one (show Kd.M (Kd.int .i64) _ _ _ 1 [.int .i64 1] from rfl) (Reps.one (show Kd.M (Kd.int .i64) _ _ _ 2 [.int .i64 2] from rfl) (Reps.one (show Kd.M (Kd.int .i64) _ _ _ 3 [.int .i64 3] from rfl) (Reps.one (show Kd.M (Kd.int .i64) _ _ _ 1 [.int .i64 1] from rfl) (Reps.one (show Kd.M (Kd.int .i64) _ _ _ 2 [.int .i64 2] from rfl) (Reps.one (show Kd.M (Kd.int .i64) _ _ _ (-1) [.int .i64 (-1)] from rfl) (Reps.one (show Kd.M (Kd.int .i64) _ _ _ 5 [.int .i64 5] from rfl) (Reps.none _ _))))))))));intro v123 w8 ho9 hb hg_ hnew_;clear hg_ hnew_;(first|rw [← Ny122.out] at ho9|(simp only [Int.reduceToNat] at ho9;rw [← Ny122.out] at ho9));have n0_:=Aside0.mk (Kd.R_elder' (by (with_reducible repeat (first|apply Kd.R_alloc|apply Kd.R_drewN|apply Kd.R_drew));exact HO_5.out) (Kd.R_base ho9) hb);have n1_:=Aside0.mk (Kd.R_lower (Kd.R_new' ho9 (Kd.R_lt (by (with_reducible repeat (first|apply Kd.R_alloc|apply Kd.R_drewN|apply Kd.R_drew));exact HO_5.out))) (keep_size (w:=w) (g:=g) (row:=none) zhk));have n2_:=Aside0.mk (IsS71.below zi71 hb);have n3_:=Aside0.mk (KeepBut.trans zhk (KeepBut.of_below hb g none) (.inl rfl));have n4_:=Aside0.mk (below_step zg71 hb);clear HO_5;clear HI0;clear HK;clear HB;have HO_5:=n0_;have HO124:=n1_;have HI0:=n2_;have HK:=n3_;have HB:=n4_;clear n0_ n1_ n2_ n3_ n4_;clear hb ho9;obtain ⟨Ao10,co10,eo10⟩:=Kd.R_slice HO124.out;subst eo10)|((with_reducible refine gate_callee (f:=46) rfl ?_);refine goesL_ (some 16) rfl rfl Tryz.func46 (by kernel_rfl) rfl #[.pointer (some ⟨g,0,none⟩),.slice Ao10 y122.length co10] rfl zar ?_;(with_reducible refine (spec_l12Rd_num.calls g s0_0 x1001_1 _ _ y122 t125 t126 w0 _ ?side1 ?side2 ?side3 ?side4 ?side5 A6.out).mono ?_);(case side1=>exact zi71);(case side2=>exact zg71);(case side3=>repeat (first|exact (Kd.R_reads' HO124.out).2.2|(with_reducible refine Kd.C_alloc ?_ _)|(with_reducible refine Kd.C_drewN ?_ _)|(with_reducible refine Kd.C_drew ?_)));(case side4=>exact (Kd.R_reads' HO124.out).2.1);(case side5=>exact far_slice (IsS71.own_ne HI0.out HO124.out (by decide)));rintro e w11 ⟨rfl,hi,hb,hk⟩;refine ⟨_,rfl,?_⟩;have n0_:=Aside0.mk (Kd.R_mono (Kd.R_keep (IsS71.apart (show IsS71 w0 _ g s0_0 x1001_1 from zi71) (by (with_reducible repeat (first|apply Kd.R_alloc|apply Kd.R_drewN|apply Kd.R_drew));exact HO_5.out) (by decide)) hk (fun _ h=>h.2)) (fun _ h=>h.1));have n1_:=Aside0.mk (Kd.R_mono (Kd.R_keep (IsS71.apart (show IsS71 w0 _ g s0_0 x1001_1 from zi71) (by (with_reducible repeat (first|apply Kd.R_alloc|apply Kd.R_drewN|apply Kd.R_drew));exact HO124.out) (by decide)) hk (fun _ h=>h.2)) (fun _ h=>h.1));have n2_:=Aside0.mk (KeepBut.trans zhk hk (.inl rfl));have n3_:=Aside0.mk (hb);have n4_:=Aside0.mk (hi);clear HO_5;clear HO124;clear HK;clear HB;clear HI0;have HO_5:=n0_;have HO124:=n1_;have HK:=n2_;have HB:=n3_;have HI0:=n4_;clear n0_ n1_ n2_ n3_ n4_;(try clear hb);(try clear hb2);(try clear hk);(try clear hi))|((with_reducible refine gate_builtin (b:=.append) (xs:=#[.tmp 13,.tmp 17]) rfl ?_);at_builtin;refine Kd.R_append (Kd.int .i64) w.heap.size rfl (.tmp 13) (.tmp 17) 31 3 (.int .i64 0) 8 rfl Tryz.underlying31 info3 rfl (by decide) (by omega) u5 x5_1 t125 [.int .i64 t125] (fun k_=>some k_≠(.slice Ao10 y122.length co10:Value).ownBlock) (fun _=>False) rfl rfl ?aP (fun _ hk=>hk.elim) ?aF ?aO (Below.refl _ _) ?aS ?aL ?_;(case aP=>exact rfl);(case aF=>exact (fun k_ hk=>Kd.fresh' (Kd.R_lt (by (with_reducible repeat (first|apply Kd.R_alloc|apply Kd.R_drewN|apply Kd.R_drew));exact HO124.out)) k_ hk));(case aO=>exact (by (with_reducible repeat (first|apply Kd.R_alloc|apply Kd.R_drewN|apply Kd.R_drew));exact Kd.R_mono HO_5.out (fun _ hk=>hk.2)));(case aS=>exact (keep_size (w:=w) (g:=g) (row:=none) zhk));(case aL=>have:=LMc7.out;omega);intro v128 w12 ho hb hg hat;rw [← Ny127.out] at ho;have n0_:=Aside0.mk (IsS71.grown zi71 hg (IsS71.own_ne HI0.out HO_5.out (by decide)));have n1_:=Aside0.mk (Kd.R_after (ok:=(fun _=>True)) (by (with_reducible repeat (first|apply Kd.R_alloc|apply Kd.R_drewN|apply Kd.R_drew));exact HO124.out) hg hat);have n2_:=Aside0.mk (below_weaken zg71 HL.out hb);have n3_:=Aside0.mk (KeepBut.trans zhk (KeepBut.of_grown hg g) (Kd.R_base2 HO_5.out));have n4_:=Aside0.mk (ho);clear HI0;clear HO124;clear HB;clear HK;clear HO_5;have HI0:=n0_;have HO124:=n1_;have HB:=n2_;have HK:=n3_;have HO129:=n4_;clear n0_ n1_ n2_ n3_ n4_;clear ho hb hg hat))
     go_roundg k1
     case measure=>have:=HK1.out;omega
     case rel=>exact ⟨(y127),(wrap64 (x6_1 + 1)),(t126),(by first|rfl|(simp;done)|(simp [*];done)),H',⟨by have:=HK1.out;omega⟩,⟨by (with_reducible repeat (first|apply Kd.R_alloc|apply Kd.R_drewN|apply Kd.R_drew));exact Kd.R_mono HO129.out (fun _ hk=>trivial)⟩,⟨zi71⟩,⟨zhk⟩,⟨zg71⟩⟩
    ·rw [if_neg c7] at H
     exact absurd H (by simp)
   ·rw [if_neg c5] at H
    have c5b0:decide (x6_1 < a1)=false:=decide_eq_false c5
    clear c5
    simp only [Option.some.injEq,Prod.mk.injEq] at H
    obtain ⟨rfl,rfl⟩:=H
    go_wp2
    go_ret
    exact ⟨_,by first|rfl|(simp [errW_none,errW_some] <;> rfl)|(simp [*,errW_none,errW_some] <;> rfl),by (with_reducible repeat (first|apply Kd.R_alloc|apply Kd.R_drewN|apply Kd.R_drew));exact HO_5.out,zi71,zg71,zhk⟩

/-! ### spec_l2Z: function 45 -/
def spec_l2Z.l0:Nat→Int→List (S33)→Int→List Int→Int→Option ((List (S33)) × Int)
 | 0,_,_,_,_,_=>none
 | k + 1,x1,x7,x8,x1000,x1001=>if x8 > 0 then ((spec_l1Row.f k x1000 x1001 x1).bind fun bt135=>((spec_l12Rd_num.f x1000 bt135.2 (([1,1,1,2,(-1),3,(-2)]:List Int))).bind fun bt142=>((spec_l2Put.f k x7 bt135.1 bt142.1).bind fun t144=>(spec_l2Z.l0 k x1 t144 (wrap64 (x8 - 1)) x1000 bt142.2)))) else (some (x7,x1001))
def spec_l2Z.f (k:Nat) (s0_0:List Int) (s0_1:Int) (a1:Int) (a2:Int):Option ((List (S33)) × Int):=(spec_l12Rd_pick.f s0_0 s0_1 (wrap64 (a2 + 1))).bind fun bt133=>(spec_l2Z.l0 k a1 (([]:List (S33))) bt133.1 s0_0 bt133.2)
theorem spec_l2Z.mono_l : ∀ k,(∀ y0 y1 y2 y3 y4,LeO (spec_l2Z.l0 k y0 y1 y2 y3 y4) (spec_l2Z.l0 (k + 1) y0 y1 y2 y3 y4))
 | 0=>fun _ _ _ _ _ r h=>by simp [spec_l2Z.l0] at h
 | k + 1=>by
  have ih0:=spec_l2Z.mono_l k
  ·intro y0 y1 y2 y3 y4
   unfold spec_l2Z.l0
   repeat' first
   | (with_reducible exact ih0 _ _ _ _ _)
   | (with_reducible exact spec_l1Row.mono _ _ _ _)
   | (with_reducible exact spec_l2Put.mono _ _ _ _)
   | (with_reducible exact LeO.refl _)
   | (with_reducible exact LeO.none _)
   | (with_reducible refine LeO.ite ?_ ?_)
   | (with_reducible refine LeO.bind ?_ (fun _=>?_))
   | exact LeO.none _
   | refine LeO.ite ?_ ?_
   | refine LeO.bind ?_ (fun _=>?_)
theorem spec_l2Z.mono : ∀ a0 a1 a2 a3 k,LeO (spec_l2Z.f k a0 a1 a2 a3) (spec_l2Z.f (k + 1) a0 a1 a2 a3):=by
 intro a0 a1 a2 a3 k
 have ih0:=spec_l2Z.mono_l k
 unfold spec_l2Z.f
 repeat' first
   | (with_reducible exact ih0 _ _ _ _ _)
   | (with_reducible exact spec_l1Row.mono _ _ _ _)
   | (with_reducible exact spec_l2Put.mono _ _ _ _)
   | (with_reducible exact LeO.refl _)
   | (with_reducible exact LeO.none _)
   | (with_reducible refine LeO.ite ?_ ?_)
   | (with_reducible refine LeO.bind ?_ (fun _=>?_))
   | exact LeO.none _
   | refine LeO.ite ?_ ?_
   | refine LeO.bind ?_ (fun _=>?_)
set_option maxHeartbeats 8000000 in
set_option maxRecDepth 100000 in
theorem spec_l2Z.calls (k:Nat) (g:Nat) (s0_0:List Int) (s0_1:Int) (a1:Int) (a2:Int) (r1:List (S33)) (r2:Int) (w0 w:World) (hI:IsS71 w0 w g s0_0 s0_1) (hB:Below w0.heap.size w0 w) (h:spec_l2Z.f k s0_0 s0_1 a1 a2=some (r1,r2)) :
  Calls Tryz.prog 45 #[.pointer (some ⟨g,0,none⟩),.int .i64 a1,.int .i64 a2] w fun e w'=>∃ v0_:Value,e=.returned (v0_)∧Kd.N k33 33 w' w.heap.size (fun k_=>(w.heap.size≤k_)) v0_ r1∧IsS71 w0 w' g s0_0 r2∧Below w0.heap.size w0 w'∧KeepBut w w' g none:=by
 have HI0:=Aside0.mk hI
 have HK:=Aside0.mk (KeepBut.refl w g none)
 have HL:=Aside0.mk hB.size
 clear hI
 have HW0:=Aside0.mk hB.size
 have HB:=Aside0.mk hB
 clear hB
 have H:((spec_l12Rd_pick.f s0_0 s0_1 (wrap64 (a2 + 1))).bind fun bt133=>(spec_l2Z.l0 k a1 (([]:List (S33))) bt133.1 s0_0 bt133.2))=some (r1,r2):=h
 clear h
 obtain ⟨y130,hy130⟩ : ∃ y_:List (S33),y_=(([]:List (S33))):=⟨_,rfl⟩
 replace H:((spec_l12Rd_pick.f s0_0 s0_1 (wrap64 (a2 + 1))).bind fun bt133=>(spec_l2Z.l0 k a1 y130 bt133.1 s0_0 bt133.2))=some (r1,r2):=by first|(rw [hy130];with_reducible exact H)|(have H2_:=(Option.bind_some _ _).symm.trans H;rw [hy130];with_reducible exact H2_)|(have H2_:=(Option.bind_some _ _).symm.trans H;with_reducible exact H2_)|with_reducible exact H|(rw [hy130];exact H)|exact H
 have Ny130:=Aside0.mk hy130
 clear hy130
 replace H:=Option.bind_eq_some_iff.mp H
 obtain ⟨⟨t133,t134⟩,A40,H⟩:=H
 (try dsimp only at H)
 have A4:=Aside0.mk A40
 clear A40
 have H':=Aside0.mk H
 clear H
 go_enter Tryz.func45,Tryz.ntmps45
 go_wp2_with (first|((with_reducible refine gate_dst (N:=9) rfl ?_);refine Kd.N_lit k33 _ 33 ?hg (N':=9) ?hd (xs:=([]:List (S33))) (inner:=[]) (ok:=(fun k_=>(w.heap.size≤k_)∧k_≠g)) (okp:=(fun k_=>(w.heap.size≤k_)∧k_≠g)) ?hr ?hp (fun _ hk=>hk) ((show ∀ k_,w.heap.size≤k_→(fun k_=>(w.heap.size≤k_)∧k_≠g) k_ from fun k_ hk=>⟨(Nat.le_trans (keep_size (w:=w) (g:=g) (row:=none) zhk) hk),IsS71.fresh zi71 k_ hk⟩) _ (Nat.le_refl _)) (Below.refl _ _) (Nat.le_refl _) (by simp) ?_;(case hd=>rfl);(case hg=>rfl);(case hr=>first|(go_simp;done)|(go_simp;rfl));(case hp=>exact (Reps.none _ _));intro v131 w5 ho6 hb hg_ hnew_;clear hg_ hnew_;(first|rw [← Ny130.out] at ho6|(simp only [Int.reduceToNat] at ho6;rw [← Ny130.out] at ho6));have n0_:=Aside0.mk (Kd.N_lower ho6 (keep_size (w:=w) (g:=g) (row:=none) zhk));have n1_:=Aside0.mk (IsS71.below zi71 hb);have n2_:=Aside0.mk (KeepBut.trans zhk (KeepBut.of_below hb g none) (.inl rfl));have n3_:=Aside0.mk (below_step zg71 hb);clear HI0;clear HK;clear HB;have HO132:=n0_;have HI0:=n1_;have HK:=n2_;have HB:=n3_;clear n0_ n1_ n2_ n3_;clear hb ho6)|((with_reducible refine gate_callee (f:=39) rfl ?_);refine goesL_ (some 13) rfl rfl Tryz.func39 (by kernel_rfl) rfl #[.pointer (some ⟨g,0,none⟩),.int .i64 (wrap64 (a2 + 1))] rfl zar ?_;(with_reducible refine (spec_l12Rd_pick.calls g s0_0 s0_1 (wrap64 (a2 + 1)) t133 t134 w0 _ ?side1 ?side2 A4.out).mono ?_);(case side1=>exact zi71);(case side2=>exact zg71);rintro e w7 ⟨rfl,hi,hb,hk⟩;refine ⟨_,rfl,?_⟩;have n0_:=Aside0.mk (Kd.N_mono (Kd.N_keep (Kd.N_mono (ok:=fun k_=>(((w.heap.size≤k_))∧k_≠g)) (zN HO132.out) (fun k_ hk_=>(⟨hk_,hk_.2⟩:_∧k_≠g))) hk (fun _ h=>h.2)) (fun _ h=>h.1));have n1_:=Aside0.mk (KeepBut.trans zhk hk (.inl rfl));have n2_:=Aside0.mk (hb);have n3_:=Aside0.mk (hi);clear HO132;clear HK;clear HB;clear HI0;have HO132:=n0_;have HK:=n1_;have HB:=n2_;have HI0:=n3_;clear n0_ n1_ n2_ n3_;(try clear hb);(try clear hb2);(try clear hk);(try clear hi)))
 go_loopg [7,8] k (fun kq v7 v8 w'=>∃ (x7_1:List (S33)) (x8_1:Int) (x1001_1:Int),v8=.int .i64 x8_1∧Aside0 (spec_l2Z.l0 kq a1 x7_1 x8_1 s0_0 x1001_1=some (r1,r2))∧Aside0 (kq≤k)∧Aside0 (Kd.N k33 33 w' w.heap.size (fun k_=>(w.heap.size≤k_)∧k_≠g) v7 x7_1)∧Aside0 (IsS71 w0 w' g s0_0 x1001_1)∧Aside0 (KeepBut w w' g none)∧Aside0 (Below w0.heap.size w0 w'))
 case atStart=>exact ⟨(y130),(t133),(t134),(by first|rfl|(simp;done)|(simp [*];done)),H',⟨Nat.le_refl _⟩,⟨by (with_reducible repeat (first|apply Kd.N_alloc|apply Kd.N_drewN|apply Kd.N_drew));exact HO132.out⟩,⟨zi71⟩,⟨zhk⟩,⟨zg71⟩⟩
 case round =>
  clear H'
  try clear p2
  try clear c3
  try clear c4
  try clear p6
  obtain ⟨x7_1,x8_1,x1001_1,rfl,HA,HK1,HO_7,HI0,HK,HB⟩:=hrel
  cases gk with
  | zero=>exact absurd HA.out (by simp [spec_l2Z.l0])
  | succ k1 =>
   have H:=HA.out
   clear HA
   simp only [spec_l2Z.l0] at H
   by_cases c8:x8_1 > 0
   ·rw [if_pos c8] at H
    have c8b0:decide (0 < x8_1)=true:=decide_eq_true c8
    clear c8
    replace H:=Option.bind_eq_some_iff.mp H
    obtain ⟨⟨t135,t138⟩,A90,H⟩:=H
    (try dsimp only at H)
    have A9:=Aside0.mk A90
    clear A90
    obtain ⟨y139,hy139⟩ : ∃ y_:List Int,y_=(([1,1,1,2,(-1),3,(-2)]:List Int)):=⟨_,rfl⟩
    replace H:((spec_l12Rd_num.f s0_0 t138 y139).bind fun bt142=>((spec_l2Put.f k1 x7_1 t135 bt142.1).bind fun t144=>(spec_l2Z.l0 k1 a1 t144 (wrap64 (x8_1 - 1)) s0_0 bt142.2)))=some (r1,r2):=by first|(rw [hy139];with_reducible exact H)|(have H2_:=(Option.bind_some _ _).symm.trans H;rw [hy139];with_reducible exact H2_)|(have H2_:=(Option.bind_some _ _).symm.trans H;with_reducible exact H2_)|with_reducible exact H|(rw [hy139];exact H)|exact H
    have Ny139:=Aside0.mk hy139
    clear hy139
    replace H:=Option.bind_eq_some_iff.mp H
    obtain ⟨⟨t142,t143⟩,A100,H⟩:=H
    (try dsimp only at H)
    have A10:=Aside0.mk A100
    clear A100
    replace H:=Option.bind_eq_some_iff.mp H
    obtain ⟨t144,A110,H⟩:=H
    (try dsimp only at H)
    have A11:=Aside0.mk A110
    clear A110
    have H':=Aside0.mk H
    clear H
    go_wp2_with (first|((with_reducible refine gate_callee (f:=72) rfl ?_);refine goesL_ (some 21) rfl rfl Tryz.func72 (by kernel_rfl) rfl #[.pointer (some ⟨g,0,none⟩),.int .i64 a1] rfl zar ?_;(with_reducible refine (spec_l1Row.calls k1 g s0_0 x1001_1 a1 t135 t138 w0 _ ?side1 ?side2 A9.out).mono ?_);(case side1=>exact zi71);(case side2=>exact zg71);rintro e w12 ⟨v136,rfl,ho0,hi,hb,hk⟩;refine ⟨_,rfl,?_⟩;have n0_:=Aside0.mk (Kd.N_mono (Kd.N_told (Kd.N_oldK (Kd.N_mono (ok:=fun k_=>(((w.heap.size≤k_))∧k_≠g)) (zN HO_7.out) (fun k_ hk_=>(⟨hk_,hk_.2⟩:_∧k_≠g))) hk) (Kd.R_base ho0)) (fun _ h_=>h_.1));have n1_:=Aside0.mk (Kd.R_lower (Kd.R_newM (M:=fun k_=>(w.heap.size≤k_)) ho0 (keep_size (w:=w) (g:=g) (row:=none) zhk) (fun k_ h_=>h_)) (keep_size (w:=w) (g:=g) (row:=none) zhk));have n2_:=Aside0.mk (KeepBut.trans zhk hk (.inl rfl));have n3_:=Aside0.mk (hb);have n4_:=Aside0.mk (hi);clear HO_7;clear HK;clear HB;clear HI0;have HO_7:=n0_;have HO137:=n1_;have HK:=n2_;have HB:=n3_;have HI0:=n4_;clear n0_ n1_ n2_ n3_ n4_;(try clear hb);(try clear hb2);(try clear hk);(try clear hi);(try clear ho0))|((with_reducible refine gate_dst (N:=23) rfl ?_);refine Kd.R_lit (Kd.int .i64) _ 3 ?hg (N:=23) ?hd (xs:=([1,1,1,2,(-1),3,(-2)]:List Int)) (inner:=[.int .i64 1,.int .i64 1,.int .i64 1,.int .i64 2,.int .i64 (-1),.int .i64 3,.int .i64 (-2)]) (ok:=fun _=>True) (okp:=fun _=>True) ?hr ?hp (fun _ hk=>hk) trivial (Below.refl _ _) (Nat.le_refl _) (by simp) ?_;(case hd=>rfl);(case hg=>rfl);(case hr=>first|(go_simp;done)|(go_simp;rfl));(case hp=>exact (Reps.one (show Kd.M (Kd.int .i64) _ _ _ 1 [.int .i64 1] from rfl) (Reps.one (show Kd.M (Kd.int .i64) _ _ _ 1 [.int .i64 1] from rfl) (Reps.one (show Kd.M (Kd.int .i64) _ _ _ 1 [.int .i64 1] from rfl) (Reps.one (show Kd.M (Kd.int .i64) _ _ _ 2 [.int .i64 2] from rfl) (Reps.one (show Kd.M (Kd.int .i64) _ _ _ (-1) [.int .i64 (-1)] from rfl) (Reps.one (show Kd.M (Kd.int .i64) _ _ _ 3 [.int .i64 3] from rfl) (Reps.one (show Kd.M (Kd.int .i64) _ _ _ (-2) [.int .i64 (-2)] from rfl) (Reps.none _ _)))))))));intro v140 w13 ho14 hb hg_ hnew_;clear hg_ hnew_;(first|rw [← Ny139.out] at ho14|(simp only [Int.reduceToNat] at ho14;rw [← Ny139.out] at ho14));have n0_:=Aside0.mk (Kd.N_elder' (zN HO_7.out) (Kd.R_base ho14) hb);have n1_:=Aside0.mk (Kd.R_elder' (by (with_reducible repeat (first|apply Kd.R_alloc|apply Kd.R_drewN|apply Kd.R_drew));exact HO137.out) (Kd.R_base ho14) hb);have n2_:=Aside0.mk (Kd.R_lower (Kd.R_new' (Kd.R_newM (M:=fun k_=>(w.heap.size≤k_)) ho14 (keep_size (w:=w) (g:=g) (row:=none) zhk) (fun k_ h_=>h_)) (Kd.R_lt (by (with_reducible repeat (first|apply Kd.R_alloc|apply Kd.R_drewN|apply Kd.R_drew));exact HO137.out))) (keep_size (w:=w) (g:=g) (row:=none) zhk));have n3_:=Aside0.mk (IsS71.below zi71 hb);have n4_:=Aside0.mk (KeepBut.trans zhk (KeepBut.of_below hb g none) (.inl rfl));have n5_:=Aside0.mk (below_step zg71 hb);clear HO_7;clear HO137;clear HI0;clear HK;clear HB;have HO_7:=n0_;have HO137:=n1_;have HO141:=n2_;have HI0:=n3_;have HK:=n4_;have HB:=n5_;clear n0_ n1_ n2_ n3_ n4_ n5_;clear hb ho14;obtain ⟨Ao15,co15,eo15⟩:=Kd.R_slice HO141.out;subst eo15)|((with_reducible refine gate_callee (f:=46) rfl ?_);refine goesL_ (some 24) rfl rfl Tryz.func46 (by kernel_rfl) rfl #[.pointer (some ⟨g,0,none⟩),.slice Ao15 y139.length co15] rfl zar ?_;(with_reducible refine (spec_l12Rd_num.calls g s0_0 t138 _ _ y139 t142 t143 w0 _ ?side1 ?side2 ?side3 ?side4 ?side5 A10.out).mono ?_);(case side1=>exact zi71);(case side2=>exact zg71);(case side3=>repeat (first|exact (Kd.R_reads' HO141.out).2.2|(with_reducible refine Kd.C_alloc ?_ _)|(with_reducible refine Kd.C_drewN ?_ _)|(with_reducible refine Kd.C_drew ?_)));(case side4=>exact (Kd.R_reads' HO141.out).2.1);(case side5=>exact far_slice (IsS71.own_ne HI0.out HO141.out (by decide)));rintro e w16 ⟨rfl,hi,hb,hk⟩;refine ⟨_,rfl,?_⟩;have n0_:=Aside0.mk (Kd.N_mono (Kd.N_keep (Kd.N_mono (ok:=fun k_=>(((((w.heap.size≤k_))∧k_≠g)∧some k_≠(v136:Value).ownBlock)∧some k_≠(.slice Ao15 y139.length co15:Value).ownBlock)) (zN HO_7.out) (fun k_ hk_=>(⟨hk_,hk_.1.1.2⟩:_∧k_≠g))) hk (fun _ h=>h.2)) (fun _ h=>h.1));have n1_:=Aside0.mk (Kd.R_mono (Kd.R_keep (IsS71.apart (show IsS71 w0 _ g s0_0 t138 from zi71) (by (with_reducible repeat (first|apply Kd.R_alloc|apply Kd.R_drewN|apply Kd.R_drew));exact HO137.out) (by decide)) hk (fun _ h=>h.2)) (fun _ h=>h.1));have n2_:=Aside0.mk (Kd.R_mono (Kd.R_keep (IsS71.apart (show IsS71 w0 _ g s0_0 t138 from zi71) (by (with_reducible repeat (first|apply Kd.R_alloc|apply Kd.R_drewN|apply Kd.R_drew));exact HO141.out) (by decide)) hk (fun _ h=>h.2)) (fun _ h=>h.1));have n3_:=Aside0.mk (KeepBut.trans zhk hk (.inl rfl));have n4_:=Aside0.mk (hb);have n5_:=Aside0.mk (hi);clear HO_7;clear HO137;clear HO141;clear HK;clear HB;clear HI0;have HO_7:=n0_;have HO137:=n1_;have HO141:=n2_;have HK:=n3_;have HB:=n4_;have HI0:=n5_;clear n0_ n1_ n2_ n3_ n4_ n5_;(try clear hb);(try clear hb2);(try clear hk);(try clear hi);obtain ⟨Ao17,co17,eo17⟩:=Kd.N_slice HO_7.out;subst eo17;obtain ⟨Ao18,co18,eo18⟩:=Kd.R_slice HO137.out;subst eo18)|((with_reducible refine gate_callee (f:=47) rfl ?_);refine goesL_ (some 25) rfl rfl Tryz.func47 (by kernel_rfl) rfl #[.slice Ao17 x7_1.length co17,.slice Ao18 t135.length co18,.int .i64 t142] rfl zar ?_;(refine (spec_l2Put.calls k1 w.heap.size (fun k_=>(w.heap.size≤k_)∧some k_≠(.slice Ao18 t135.length co18:Value).ownBlock∧some k_≠(.slice Ao15 y139.length co15:Value).ownBlock∧k_≠g) (.slice Ao17 x7_1.length co17) x7_1 _ _ t135 t142 t144 ?w0_ _ ?side1 ?side2 ?side3 ?side4 ?side5 ?side6 A11.out).mono ?_);(case side1=>exact (keep_size (w:=w) (g:=g) (row:=none) zhk));(case side2=>exact (Below.refl _ _));(case side3=>exact (by (with_reducible repeat (first|apply Kd.N_alloc|apply Kd.N_drewN|apply Kd.N_drew));exact Kd.N_mono HO_7.out (fun _ hk=>⟨hk.1.1.1,⟨hk.1.2,⟨hk.2,hk.1.1.2⟩⟩⟩)));(case side4=>exact (fun k_ hk=>⟨(Nat.le_trans (keep_size (w:=w) (g:=g) (row:=none) zhk) hk),Kd.fresh' (Kd.R_lt (by (with_reducible repeat (first|apply Kd.R_alloc|apply Kd.R_drewN|apply Kd.R_drew));exact HO137.out)) k_ hk,Kd.fresh' (Kd.R_lt (by (with_reducible repeat (first|apply Kd.R_alloc|apply Kd.R_drewN|apply Kd.R_drew));exact HO141.out)) k_ hk,IsS71.fresh zi71 k_ hk⟩));(case side5=>repeat (first|exact (Kd.R_reads' HO137.out).2.2|(with_reducible refine Kd.C_alloc ?_ _)|(with_reducible refine Kd.C_drewN ?_ _)|(with_reducible refine Kd.C_drew ?_)));(case side6=>exact (Kd.R_reads' HO137.out).2.1);rintro e w19 ⟨v145,rfl,ho,hb,hg,hat⟩;refine ⟨_,rfl,?_⟩;have n0_:=Aside0.mk (IsS71.grown zi71 hg (IsS71.own_neN HI0.out HO_7.out (by decide)));have n1_:=Aside0.mk (Kd.R_over' (by (with_reducible repeat (first|apply Kd.R_alloc|apply Kd.R_drewN|apply Kd.R_drew));exact HO137.out) (Kd.N_typed (zN HO_7.out)) (by decide) hg);have n2_:=Aside0.mk (Kd.R_over' (by (with_reducible repeat (first|apply Kd.R_alloc|apply Kd.R_drewN|apply Kd.R_drew));exact HO141.out) (Kd.N_typed (zN HO_7.out)) (by decide) hg);have n3_:=Aside0.mk (below_weaken zg71 HL.out hb);have n4_:=Aside0.mk (KeepBut.trans zhk (KeepBut.of_grown hg g) (Kd.N_base2 HO_7.out));have n5_:=Aside0.mk (ho);clear HI0;clear HO137;clear HO141;clear HB;clear HK;clear HO_7;have HI0:=n0_;have HO137:=n1_;have HO141:=n2_;have HB:=n3_;have HK:=n4_;have HO146:=n5_;clear n0_ n1_ n2_ n3_ n4_ n5_;clear ho hb hg hat))
    go_roundg k1
    case measure=>have:=HK1.out;omega
    case rel=>exact ⟨(t144),(wrap64 (x8_1 - 1)),(t143),(by first|rfl|(simp;done)|(simp [*];done)),H',⟨by have:=HK1.out;omega⟩,⟨by (with_reducible repeat (first|apply Kd.N_alloc|apply Kd.N_drewN|apply Kd.N_drew));exact Kd.N_mono HO146.out (fun _ hk=>⟨hk.1,hk.2.2.2⟩)⟩,⟨zi71⟩,⟨zhk⟩,⟨zg71⟩⟩
   ·rw [if_neg c8] at H
    have c8b0:decide (0 < x8_1)=false:=decide_eq_false c8
    clear c8
    simp only [Option.some.injEq,Prod.mk.injEq] at H
    obtain ⟨rfl,rfl⟩:=H
    go_wp2
    go_ret
    exact ⟨_,by first|rfl|(simp [errW_none,errW_some] <;> rfl)|(simp [*,errW_none,errW_some] <;> rfl),by (with_reducible repeat (first|apply Kd.N_alloc|apply Kd.N_drewN|apply Kd.N_drew));exact Kd.N_mono HO_7.out (fun _ hk=>hk.1),zi71,zg71,zhk⟩

/-! ### spec_l2Bent: function 18 -/
def spec_l2Bent.l0:Nat→List (S33)→Int→List Int→Int→Option ((List (S33)) × Int)
 | 0,_,_,_,_=>none
 | k + 1,x3,x5,x1000,x1001=>if x5 < 101 then ((spec_l2Put.f k x3 (([wrap64 (10 + x5)]:List Int)) 1).bind fun t174=>(spec_l2Bent.l0 k t174 (wrap64 (x5 + 1)) x1000 x1001)) else (some (x3,x1001))
def spec_l2Bent.f (k:Nat) (s0_0:List Int) (s0_1:Int):Option ((List (S33)) × Int):=(spec_l12Rd_pick.f s0_0 s0_1 3).bind fun bt147=>((spec_l2Z.f k s0_0 bt147.2 (wrap64 (1 + bt147.1)) 6).bind fun bt149=>(if (bt149.1.length:Int)=0 then (some (bt149.1,bt149.2)) else ((spec_l12Rd_pick.f s0_0 bt149.2 (bt149.1.length:Int)).bind fun bt153=>((spec_l12Rd_pick.f s0_0 bt153.2 40).bind fun bt155=>(if bt155.1=0 then ((spec_l12Rd_num.f s0_0 bt155.2 (([0,10000,10001,(-10000)]:List Int))).bind fun bt160=>(if 0≤bt153.1 then (if bt153.1 < (bt149.1.length:Int) then (some ((bt149.1.set (bt153.1:Int).toNat (⟨(rd_T33 bt149.1 bt153.1).f0,bt160.1⟩:S33)),bt160.2)) else (none)) else (none))) else (if bt155.1=1 then (if 0≤bt153.1 then (if bt153.1 < (bt149.1.length:Int) then (some ((bt149.1.set (bt153.1:Int).toNat (⟨(([]:List Int)),(rd_T33 bt149.1 bt153.1).f1⟩:S33)),bt155.2)) else (none)) else (none)) else (if bt155.1=2 then (if 0 < (bt149.1.length:Int) then (if bt149.1.length < 4398046511104 then (some ((bt149.1 ++ [(⟨(rd_T33 bt149.1 0).f0,(rd_T33 bt149.1 0).f1⟩:S33)]),bt155.2)) else (none)) else (none)) else (if bt155.1=3 then (spec_l2Bent.l0 k bt149.1 0 s0_0 bt155.2) else (some (bt149.1,bt155.2))))))))))
theorem spec_l2Bent.mono_l : ∀ k,(∀ y0 y1 y2 y3,LeO (spec_l2Bent.l0 k y0 y1 y2 y3) (spec_l2Bent.l0 (k + 1) y0 y1 y2 y3))
 | 0=>fun _ _ _ _ r h=>by simp [spec_l2Bent.l0] at h
 | k + 1=>by
  have ih0:=spec_l2Bent.mono_l k
  ·intro y0 y1 y2 y3
   unfold spec_l2Bent.l0
   repeat' first
   | (with_reducible exact ih0 _ _ _ _)
   | (with_reducible exact spec_l2Put.mono _ _ _ _)
   | (with_reducible exact spec_l2Z.mono _ _ _ _ _)
   | (with_reducible exact LeO.refl _)
   | (with_reducible exact LeO.none _)
   | (with_reducible refine LeO.ite ?_ ?_)
   | (with_reducible refine LeO.bind ?_ (fun _=>?_))
   | exact LeO.none _
   | refine LeO.ite ?_ ?_
   | refine LeO.bind ?_ (fun _=>?_)
theorem spec_l2Bent.mono : ∀ a0 a1 k,LeO (spec_l2Bent.f k a0 a1) (spec_l2Bent.f (k + 1) a0 a1):=by
 intro a0 a1 k
 have ih0:=spec_l2Bent.mono_l k
 unfold spec_l2Bent.f
 repeat' first
   | (with_reducible exact ih0 _ _ _ _)
   | (with_reducible exact spec_l2Put.mono _ _ _ _)
   | (with_reducible exact spec_l2Z.mono _ _ _ _ _)
   | (with_reducible exact LeO.refl _)
   | (with_reducible exact LeO.none _)
   | (with_reducible refine LeO.ite ?_ ?_)
   | (with_reducible refine LeO.bind ?_ (fun _=>?_))
   | exact LeO.none _
   | refine LeO.ite ?_ ?_
   | refine LeO.bind ?_ (fun _=>?_)
set_option maxHeartbeats 8000000 in
set_option maxRecDepth 100000 in
theorem spec_l2Bent.calls (k:Nat) (g:Nat) (s0_0:List Int) (s0_1:Int) (r1:List (S33)) (r2:Int) (w0 w:World) (hI:IsS71 w0 w g s0_0 s0_1) (hB:Below w0.heap.size w0 w) (h:spec_l2Bent.f k s0_0 s0_1=some (r1,r2)) :
  Calls Tryz.prog 18 #[.pointer (some ⟨g,0,none⟩)] w fun e w'=>∃ v0_:Value,e=.returned (v0_)∧Kd.N k33 33 w' w.heap.size (fun k_=>(w.heap.size≤k_)) v0_ r1∧IsS71 w0 w' g s0_0 r2∧Below w0.heap.size w0 w'∧KeepBut w w' g none:=by
 have hu33:=Tryz.underlying33
 have HI0:=Aside0.mk hI
 have HK:=Aside0.mk (KeepBut.refl w g none)
 have HL:=Aside0.mk hB.size
 clear hI
 have HW0:=Aside0.mk hB.size
 have HB:=Aside0.mk hB
 clear hB
 have H:((spec_l12Rd_pick.f s0_0 s0_1 3).bind fun bt147=>((spec_l2Z.f k s0_0 bt147.2 (wrap64 (1 + bt147.1)) 6).bind fun bt149=>(if (bt149.1.length:Int)=0 then (some (bt149.1,bt149.2)) else ((spec_l12Rd_pick.f s0_0 bt149.2 (bt149.1.length:Int)).bind fun bt153=>((spec_l12Rd_pick.f s0_0 bt153.2 40).bind fun bt155=>(if bt155.1=0 then ((spec_l12Rd_num.f s0_0 bt155.2 (([0,10000,10001,(-10000)]:List Int))).bind fun bt160=>(if 0≤bt153.1 then (if bt153.1 < (bt149.1.length:Int) then (some ((bt149.1.set (bt153.1:Int).toNat (⟨(rd_T33 bt149.1 bt153.1).f0,bt160.1⟩:S33)),bt160.2)) else (none)) else (none))) else (if bt155.1=1 then (if 0≤bt153.1 then (if bt153.1 < (bt149.1.length:Int) then (some ((bt149.1.set (bt153.1:Int).toNat (⟨(([]:List Int)),(rd_T33 bt149.1 bt153.1).f1⟩:S33)),bt155.2)) else (none)) else (none)) else (if bt155.1=2 then (if 0 < (bt149.1.length:Int) then (if bt149.1.length < 4398046511104 then (some ((bt149.1 ++ [(⟨(rd_T33 bt149.1 0).f0,(rd_T33 bt149.1 0).f1⟩:S33)]),bt155.2)) else (none)) else (none)) else (if bt155.1=3 then (spec_l2Bent.l0 k bt149.1 0 s0_0 bt155.2) else (some (bt149.1,bt155.2)))))))))))=some (r1,r2):=h
 clear h
 replace H:=Option.bind_eq_some_iff.mp H
 obtain ⟨⟨t147,t148⟩,A20,H⟩:=H
 (try dsimp only at H)
 have A2:=Aside0.mk A20
 clear A20
 replace H:=Option.bind_eq_some_iff.mp H
 obtain ⟨⟨t149,t152⟩,A30,H⟩:=H
 (try dsimp only at H)
 have A3:=Aside0.mk A30
 clear A30
 by_cases c4:(t149.length:Int)=0
 ·rw [if_pos c4] at H
  have c4b0:((t149.length:Int) == 0)=true:=beq_iff_eq.mpr c4
  have c4b1:((t149.length:Int) != 0)=false:=bne_eq_false_iff_eq.mpr c4
  clear c4
  simp only [Option.some.injEq,Prod.mk.injEq] at H
  obtain ⟨rfl,rfl⟩:=H
  go_enter Tryz.func18,Tryz.ntmps18
  go_wp2_with (first|((with_reducible refine gate_callee (f:=39) rfl ?_);refine goesL_ (some 8) rfl rfl Tryz.func39 (by kernel_rfl) rfl #[.pointer (some ⟨g,0,none⟩),.int .i64 3] rfl zar ?_;(with_reducible refine (spec_l12Rd_pick.calls g s0_0 s0_1 3 t147 t148 w0 _ ?side1 ?side2 A2.out).mono ?_);(case side1=>exact zi71);(case side2=>exact zg71);rintro e w5 ⟨rfl,hi,hb,hk⟩;refine ⟨_,rfl,?_⟩;have n0_:=Aside0.mk (KeepBut.trans zhk hk (.inl rfl));have n1_:=Aside0.mk (hb);have n2_:=Aside0.mk (hi);clear HK;clear HB;clear HI0;have HK:=n0_;have HB:=n1_;have HI0:=n2_;clear n0_ n1_ n2_;(try clear hb);(try clear hb2);(try clear hk);(try clear hi))|((with_reducible refine gate_callee (f:=45) rfl ?_);refine goesL_ (some 10) rfl rfl Tryz.func45 (by kernel_rfl) rfl #[.pointer (some ⟨g,0,none⟩),.int .i64 (wrap64 (1 + t147)),.int .i64 6] rfl zar ?_;(with_reducible refine (spec_l2Z.calls k g s0_0 t148 (wrap64 (1 + t147)) 6 t149 t152 w0 _ ?side1 ?side2 A3.out).mono ?_);(case side1=>exact zi71);(case side2=>exact zg71);rintro e w6 ⟨v150,rfl,ho0,hi,hb,hk⟩;refine ⟨_,rfl,?_⟩;have n0_:=Aside0.mk (Kd.N_lower (Kd.N_mono (ok':=fun k_=>(w.heap.size≤k_)∧k_≠g) ho0 (fun k_ hk_=>⟨(Nat.le_trans (keep_size (w:=w) (g:=g) (row:=none) zhk) hk_),(IsS71.fresh zi71 k_ hk_)⟩)) (keep_size (w:=w) (g:=g) (row:=none) zhk));have n1_:=Aside0.mk (KeepBut.trans zhk hk (.inl rfl));have n2_:=Aside0.mk (hb);have n3_:=Aside0.mk (hi);clear HK;clear HB;clear HI0;have HO151:=n0_;have HK:=n1_;have HB:=n2_;have HI0:=n3_;clear n0_ n1_ n2_ n3_;(try clear hb);(try clear hb2);(try clear hk);(try clear hi);(try clear ho0);obtain ⟨Ao7,co7,eo7⟩:=Kd.N_slice HO151.out;subst eo7))
  go_ret
  exact ⟨_,by first|rfl|(simp [errW_none,errW_some] <;> rfl)|(simp [*,errW_none,errW_some] <;> rfl),by (with_reducible repeat (first|apply Kd.N_alloc|apply Kd.N_drewN|apply Kd.N_drew));exact Kd.N_mono HO151.out (fun _ hk=>hk.1),zi71,zg71,zhk⟩
 ·rw [if_neg c4] at H
  have c4b0:((t149.length:Int) == 0)=false:=beq_eq_false_iff_ne.mpr c4
  have c4b1:((t149.length:Int) != 0)=true:=bne_iff_ne.mpr c4
  have c4b2 : ¬ (t149 = []):=fun h_=>c4 (by rw [h_];rfl)
  replace H:=Option.bind_eq_some_iff.mp H
  obtain ⟨⟨t153,t154⟩,A80,H⟩:=H
  (try dsimp only at H)
  have A8:=Aside0.mk A80
  clear A80
  replace H:=Option.bind_eq_some_iff.mp H
  obtain ⟨⟨t155,t156⟩,A90,H⟩:=H
  (try dsimp only at H)
  have A9:=Aside0.mk A90
  clear A90
  by_cases c10:t155=0
  ·rw [if_pos c10] at H
   have c10b0:(t155 == 0)=true:=beq_iff_eq.mpr c10
   have c10b1:(t155 != 0)=false:=bne_eq_false_iff_eq.mpr c10
   clear c10
   obtain ⟨y157,hy157⟩ : ∃ y_:List Int,y_=(([0,10000,10001,(-10000)]:List Int)):=⟨_,rfl⟩
   replace H:((spec_l12Rd_num.f s0_0 t156 y157).bind fun bt160=>(if 0≤t153 then (if t153 < (t149.length:Int) then (some ((t149.set (t153:Int).toNat (⟨(rd_T33 t149 t153).f0,bt160.1⟩:S33)),bt160.2)) else (none)) else (none)))=some (r1,r2):=by first|(rw [hy157];with_reducible exact H)|(have H2_:=(Option.bind_some _ _).symm.trans H;rw [hy157];with_reducible exact H2_)|(have H2_:=(Option.bind_some _ _).symm.trans H;with_reducible exact H2_)|with_reducible exact H|(rw [hy157];exact H)|exact H
   have Ny157:=Aside0.mk hy157
   clear hy157
   replace H:=Option.bind_eq_some_iff.mp H
   obtain ⟨⟨t160,t161⟩,A110,H⟩:=H
   (try dsimp only at H)
   have A11:=Aside0.mk A110
   clear A110
   by_cases c12:0≤t153
   ·rw [if_pos c12] at H
    have c12b0:decide (0≤t153)=true:=decide_eq_true c12
    clear c12
    by_cases c13:t153 < (t149.length:Int)
    ·rw [if_pos c13] at H
     have c13b0:decide (t153 < (t149.length:Int))=true:=decide_eq_true c13
     clear c13
     obtain ⟨y162,hy162⟩ : ∃ y_:List (S33),y_=(t149.set (t153:Int).toNat (⟨(rd_T33 t149 t153).f0,t160⟩:S33)):=⟨_,rfl⟩
     replace H:(some (y162,t161))=some (r1,r2):=by first|(rw [hy162];with_reducible exact H)|(have H2_:=(Option.bind_some _ _).symm.trans H;rw [hy162];with_reducible exact H2_)|(have H2_:=(Option.bind_some _ _).symm.trans H;with_reducible exact H2_)|with_reducible exact H|(rw [hy162];exact H)|exact H
     have Ny162:=Aside0.mk hy162
     clear hy162
     simp only [Option.some.injEq,Prod.mk.injEq] at H
     obtain ⟨rfl,rfl⟩:=H
     go_enter Tryz.func18,Tryz.ntmps18
     go_wp2_with (first|((with_reducible refine gate_callee (f:=39) rfl ?_);refine goesL_ (some 8) rfl rfl Tryz.func39 (by kernel_rfl) rfl #[.pointer (some ⟨g,0,none⟩),.int .i64 3] rfl zar ?_;(with_reducible refine (spec_l12Rd_pick.calls g s0_0 s0_1 3 t147 t148 w0 _ ?side1 ?side2 A2.out).mono ?_);(case side1=>exact zi71);(case side2=>exact zg71);rintro e w15 ⟨rfl,hi,hb,hk⟩;refine ⟨_,rfl,?_⟩;have n0_:=Aside0.mk (KeepBut.trans zhk hk (.inl rfl));have n1_:=Aside0.mk (hb);have n2_:=Aside0.mk (hi);clear HK;clear HB;clear HI0;have HK:=n0_;have HB:=n1_;have HI0:=n2_;clear n0_ n1_ n2_;(try clear hb);(try clear hb2);(try clear hk);(try clear hi))|((with_reducible refine gate_callee (f:=45) rfl ?_);refine goesL_ (some 10) rfl rfl Tryz.func45 (by kernel_rfl) rfl #[.pointer (some ⟨g,0,none⟩),.int .i64 (wrap64 (1 + t147)),.int .i64 6] rfl zar ?_;(with_reducible refine (spec_l2Z.calls k g s0_0 t148 (wrap64 (1 + t147)) 6 t149 t152 w0 _ ?side1 ?side2 A3.out).mono ?_);(case side1=>exact zi71);(case side2=>exact zg71);rintro e w16 ⟨v150,rfl,ho0,hi,hb,hk⟩;refine ⟨_,rfl,?_⟩;have n0_:=Aside0.mk (Kd.N_lower (Kd.N_mono (ok':=fun k_=>(w.heap.size≤k_)∧k_≠g) ho0 (fun k_ hk_=>⟨(Nat.le_trans (keep_size (w:=w) (g:=g) (row:=none) zhk) hk_),(IsS71.fresh zi71 k_ hk_)⟩)) (keep_size (w:=w) (g:=g) (row:=none) zhk));have n1_:=Aside0.mk (KeepBut.trans zhk hk (.inl rfl));have n2_:=Aside0.mk (hb);have n3_:=Aside0.mk (hi);clear HK;clear HB;clear HI0;have HO151:=n0_;have HK:=n1_;have HB:=n2_;have HI0:=n3_;clear n0_ n1_ n2_ n3_;(try clear hb);(try clear hb2);(try clear hk);(try clear hi);(try clear ho0);obtain ⟨Ao17,co17,eo17⟩:=Kd.N_slice HO151.out;subst eo17)|((with_reducible refine gate_callee (f:=39) rfl ?_);refine goesL_ (some 18) rfl rfl Tryz.func39 (by kernel_rfl) rfl #[.pointer (some ⟨g,0,none⟩),.int .i64 (t149.length:Int)] rfl zar ?_;(with_reducible refine (spec_l12Rd_pick.calls g s0_0 t152 (t149.length:Int) t153 t154 w0 _ ?side1 ?side2 A8.out).mono ?_);(case side1=>exact zi71);(case side2=>exact zg71);rintro e w18 ⟨rfl,hi,hb,hk⟩;refine ⟨_,rfl,?_⟩;have n0_:=Aside0.mk (Kd.N_mono (Kd.N_keep (Kd.N_mono (ok:=fun k_=>(((w.heap.size≤k_))∧k_≠g)) (zN HO151.out) (fun k_ hk_=>(⟨hk_,hk_.2⟩:_∧k_≠g))) hk (fun _ h=>h.2)) (fun _ h=>h.1));have n1_:=Aside0.mk (KeepBut.trans zhk hk (.inl rfl));have n2_:=Aside0.mk (hb);have n3_:=Aside0.mk (hi);clear HO151;clear HK;clear HB;clear HI0;have HO151:=n0_;have HK:=n1_;have HB:=n2_;have HI0:=n3_;clear n0_ n1_ n2_ n3_;(try clear hb);(try clear hb2);(try clear hk);(try clear hi))|((with_reducible refine gate_callee (f:=39) rfl ?_);refine goesL_ (some 20) rfl rfl Tryz.func39 (by kernel_rfl) rfl #[.pointer (some ⟨g,0,none⟩),.int .i64 40] rfl zar ?_;(with_reducible refine (spec_l12Rd_pick.calls g s0_0 t154 40 t155 t156 w0 _ ?side1 ?side2 A9.out).mono ?_);(case side1=>exact zi71);(case side2=>exact zg71);rintro e w19 ⟨rfl,hi,hb,hk⟩;refine ⟨_,rfl,?_⟩;have n0_:=Aside0.mk (Kd.N_mono (Kd.N_keep (Kd.N_mono (ok:=fun k_=>(((w.heap.size≤k_))∧k_≠g)) (zN HO151.out) (fun k_ hk_=>(⟨hk_,hk_.2⟩:_∧k_≠g))) hk (fun _ h=>h.2)) (fun _ h=>h.1));have n1_:=Aside0.mk (KeepBut.trans zhk hk (.inl rfl));have n2_:=Aside0.mk (hb);have n3_:=Aside0.mk (hi);clear HO151;clear HK;clear HB;clear HI0;have HO151:=n0_;have HK:=n1_;have HB:=n2_;have HI0:=n3_;clear n0_ n1_ n2_ n3_;(try clear hb);(try clear hb2);(try clear hk);(try clear hi))|((with_reducible refine gate_dst (N:=26) rfl ?_);refine Kd.R_lit (Kd.int .i64) _ 3 ?hg (N:=26) ?hd (xs:=([0,10000,10001,(-10000)]:List Int)) (inner:=[.int .i64 0,.int .i64 10000,.int .i64 10001,.int .i64 (-10000)]) (ok:=fun _=>True) (okp:=fun _=>True) ?hr ?hp (fun _ hk=>hk) trivial (Below.refl _ _) (Nat.le_refl _) (by simp) ?_;(case hd=>rfl);(case hg=>rfl);(case hr=>first|(go_simp;done)|(go_simp;rfl));(case hp=>exact (Reps.one (show Kd.M (Kd.int .i64) _ _ _ 0 [.int .i64 0] from rfl) (Reps.one (show Kd.M (Kd.int .i64) _ _ _ 10000 [.int .i64 10000] from rfl) (Reps.one (show Kd.M (Kd.int .i64) _ _ _ 10001 [.int .i64 10001] from rfl) (Reps.one (show Kd.M (Kd.int .i64) _ _ _ (-10000) [.int .i64 (-10000)] from rfl) (Reps.none _ _))))));intro v158 w20 ho21 hb hg_ hnew_;clear hg_ hnew_;(first|rw [← Ny157.out] at ho21|(simp only [Int.reduceToNat] at ho21;rw [← Ny157.out] at ho21));have n0_:=Aside0.mk (Kd.N_elder' (zN HO151.out) (Kd.R_base ho21) hb);have n1_:=Aside0.mk (Kd.R_lower (Kd.R_newM (M:=fun k_=>(w.heap.size≤k_)) ho21 (keep_size (w:=w) (g:=g) (row:=none) zhk) (fun k_ h_=>h_)) (keep_size (w:=w) (g:=g) (row:=none) zhk));have n2_:=Aside0.mk (IsS71.below zi71 hb);have n3_:=Aside0.mk (KeepBut.trans zhk (KeepBut.of_below hb g none) (.inl rfl));have n4_:=Aside0.mk (below_step zg71 hb);clear HO151;clear HI0;clear HK;clear HB;have HO151:=n0_;have HO159:=n1_;have HI0:=n2_;have HK:=n3_;have HB:=n4_;clear n0_ n1_ n2_ n3_ n4_;clear hb ho21;obtain ⟨Ao22,co22,eo22⟩:=Kd.R_slice HO159.out;subst eo22)|((with_reducible refine gate_callee (f:=46) rfl ?_);refine goesL_ (some 27) rfl rfl Tryz.func46 (by kernel_rfl) rfl #[.pointer (some ⟨g,0,none⟩),.slice Ao22 y157.length co22] rfl zar ?_;(with_reducible refine (spec_l12Rd_num.calls g s0_0 t156 _ _ y157 t160 t161 w0 _ ?side1 ?side2 ?side3 ?side4 ?side5 A11.out).mono ?_);(case side1=>exact zi71);(case side2=>exact zg71);(case side3=>repeat (first|exact (Kd.R_reads' HO159.out).2.2|(with_reducible refine Kd.C_alloc ?_ _)|(with_reducible refine Kd.C_drewN ?_ _)|(with_reducible refine Kd.C_drew ?_)));(case side4=>exact (Kd.R_reads' HO159.out).2.1);(case side5=>exact far_slice (IsS71.own_ne HI0.out HO159.out (by decide)));rintro e w23 ⟨rfl,hi,hb,hk⟩;refine ⟨_,rfl,?_⟩;have n0_:=Aside0.mk (Kd.N_mono (Kd.N_keep (Kd.N_mono (ok:=fun k_=>((((w.heap.size≤k_))∧k_≠g)∧some k_≠(.slice Ao22 y157.length co22:Value).ownBlock)) (zN HO151.out) (fun k_ hk_=>(⟨hk_,hk_.1.2⟩:_∧k_≠g))) hk (fun _ h=>h.2)) (fun _ h=>h.1));have n1_:=Aside0.mk (Kd.R_mono (Kd.R_keep (IsS71.apart (show IsS71 w0 _ g s0_0 t156 from zi71) (by (with_reducible repeat (first|apply Kd.R_alloc|apply Kd.R_drewN|apply Kd.R_drew));exact HO159.out) (by decide)) hk (fun _ h=>h.2)) (fun _ h=>h.1));have n2_:=Aside0.mk (KeepBut.trans zhk hk (.inl rfl));have n3_:=Aside0.mk (hb);have n4_:=Aside0.mk (hi);clear HO151;clear HO159;clear HK;clear HB;clear HI0;have HO151:=n0_;have HO159:=n1_;have HK:=n2_;have HB:=n3_;have HI0:=n4_;clear n0_ n1_ n2_ n3_ n4_;(try clear hb);(try clear hb2);(try clear hk);(try clear hi);have p14:0≤(t153:Int):=zod;have q14:(t153:Int) < ((t149.length:Int):Int):=zod;obtain ⟨go14,co14,eo14,gb14,gl14,cl14,HG14⟩:=Kd.N_form HO151.out (by omega);(first|cases eo14|(injection eo14 with ea_ en_ ec_;(first|subst ea_|(injection ea_ with ea_;subst ea_));subst ec_;clear en_));have GB14:=Aside0.mk gb14;have GG14:=Aside0.mk HG14;clear gb14 gl14 HG14;obtain ⟨ce14,hcl14,hM14,hcc14,hfr14⟩:=Kd.N_elem HO151.out z33 (t153:Int) p14 q14;obtain ⟨ua14_0,uc14_0,rfl,ul14_0,ge14_0⟩:=k33_openF hM14;have hx14_0:w23.cell? ⟨go14,(t153:Int).toNat * 2,none⟩=some (.slice ua14_0 ((rd_T33 t149 t153).f0).length uc14_0):=hcc14 0 _ rfl;have hx14_1:w23.cell? ⟨go14,(t153:Int).toNat * 2 + 1,none⟩=some (.int .i64 ((rd_T33 t149 t153).f1)):=hcc14 1 _ rfl;have hf14_0:w23.frozen? ⟨go14,(t153:Int).toNat * 2,none⟩=false:=hfr14 0;have hf14_1:w23.frozen? ⟨go14,(t153:Int).toNat * 2 + 1,none⟩=false:=hfr14 1;clear hcl14 hcc14 hfr14 hM14;replace p14:=eq_true p14;replace q14:=eq_true q14;have n_:=Aside0.mk (Kd.N_mono (ok':=(fun k_=>(w.heap.size≤k_)∧some k_≠(.slice Ao22 y157.length co22:Value).ownBlock)) HO151.out (fun k_ hk=>⟨hk.1.1,hk.2⟩));clear HO151;have HO151:=n_;clear n_;have HX24:=Aside0.mk (show Kd.N k33 33 w23 w.heap.size (fun k_=>(w.heap.size≤k_)∧some k_≠(.slice Ao22 y157.length co22:Value).ownBlock) (.slice (some ⟨go14,0,none⟩) t149.length co17) t149 from (zN HO151.out));obtain ⟨ce24,hcl24,hM24,hcc24,hfr24⟩:=Kd.N_elem HX24.out z33 (t153:Int) (zod) (by have h_:(t153:Int) < ((t149.length:Int):Int):=zod;first|exact h_|(have e_:=(Kd.N_reads' HO151.out).1;omega)|simpa using h_);obtain ⟨ua24_0,uc24_0,rfl,ul24_0,ge24_0⟩:=k33_openF hM24;have HP24:=Kd.N_seg HX24.out (t153:Int) (zod) (by have h_:(t153:Int) < ((t149.length:Int):Int):=zod;first|exact h_|(have e_:=(Kd.N_reads' HO151.out).1;omega)|simpa using h_) (seg:=[.int .i64 t160]) (j:=1) hcl24 hcc24 (show 2≤2 from by decide) (x':=(⟨(rd_T33 t149 t153).f0,t160⟩:S33)) (k33_mkF _ _ (⟨(rd_T33 t149 t153).f0,t160⟩:S33) ul24_0 ge24_0) (fun _ hk=>hk);have hx24_1:=hcc24 1 _ rfl;(try simp only [show (k33).sz=2 from rfl,Nat.mul_one,Nat.add_zero] at hx24_1);have hf24_1:=hfr24 1;(try simp only [show (k33).sz=2 from rfl,Nat.mul_one,Nat.add_zero] at hf24_1);clear hcl24 hcc24 hfr24 hM24)|((with_reducible refine gate_store (t:=3) (p:=29) rfl ?_);refine store_event (t:=3) (p:=29) (v:=?vo_w25) (w1:=(w23.setCell ⟨go14,(t153:Int).toNat * 2 + 1,none⟩ (.int .i64 t160))) ?hg ?ho ?hn ?hr ?_;(case ho=>rfl);(case hg=>rfl);(case hn=>rfl);(case hr=>first|(go_simp;done)|(go_simp;rfl));intro w25 hw;have hg:w23.grownBy w25 (some go14):=(by rw [hw];exact HP24.2);have hp_:Kd.N k33 33 w25 w.heap.size (fun k_=>(w.heap.size≤k_)∧some k_≠(.slice Ao22 y157.length co22:Value).ownBlock) (.slice (some ⟨go14,0,none⟩) t149.length co17) y162:=(by rw [hw,Ny162.out];exact HP24.1);clear HP24;have n0_:=Aside0.mk (IsS71.grown zi71 hg (IsS71.own_neN HI0.out HO151.out (by decide)));have n1_:=Aside0.mk (hp_);have n2_:=Aside0.mk (Kd.R_over' (v:=(.slice (some ⟨go14,0,none⟩) t149.length co17)) (by (with_reducible repeat (first|apply Kd.R_alloc|apply Kd.R_drewN|apply Kd.R_drew));exact HO159.out) (Kd.N_typed HO151.out) (by decide) hg);have n3_:=Aside0.mk ((by rw [hw];exact below_set (HB.out) (Nat.le_trans HL.out GB14.out):Below w0.heap.size w0 w25));have n4_:=Aside0.mk (KeepBut.trans zhk (KeepBut.of_grown hg g) (Kd.N_base2 HO151.out));clear HI0;clear HO151;clear HO159;clear HB;clear HK;have HI0:=n0_;have HO151:=n1_;have HO159:=n2_;have HB:=n3_;have HK:=n4_;clear n0_ n1_ n2_ n3_ n4_;clear hg hw hp_))
     go_ret
     exact ⟨_,by first|rfl|(simp [errW_none,errW_some] <;> rfl)|(simp [*,errW_none,errW_some] <;> rfl),by (with_reducible repeat (first|apply Kd.N_alloc|apply Kd.N_drewN|apply Kd.N_drew));exact Kd.N_mono HO151.out (fun _ hk=>hk.1),zi71,zg71,zhk⟩
    ·rw [if_neg c13] at H
     exact absurd H (by simp)
   ·rw [if_neg c12] at H
    exact absurd H (by simp)
  ·rw [if_neg c10] at H
   have c10b0:(t155 == 0)=false:=beq_eq_false_iff_ne.mpr c10
   have c10b1:(t155 != 0)=true:=bne_iff_ne.mpr c10
   by_cases c26:t155=1
   ·rw [if_pos c26] at H
    have c26b0:(t155 == 1)=true:=beq_iff_eq.mpr c26
    have c26b1:(t155 != 1)=false:=bne_eq_false_iff_eq.mpr c26
    clear c26
    obtain ⟨y163,hy163⟩ : ∃ y_:List Int,y_=(([]:List Int)):=⟨_,rfl⟩
    replace H:(if 0≤t153 then (if t153 < (t149.length:Int) then (some ((t149.set (t153:Int).toNat (⟨y163,(rd_T33 t149 t153).f1⟩:S33)),t156)) else (none)) else (none))=some (r1,r2):=by first|(rw [hy163];with_reducible exact H)|(have H2_:=(Option.bind_some _ _).symm.trans H;rw [hy163];with_reducible exact H2_)|(have H2_:=(Option.bind_some _ _).symm.trans H;with_reducible exact H2_)|with_reducible exact H|(rw [hy163];exact H)|exact H
    have Ny163:=Aside0.mk hy163
    clear hy163
    by_cases c27:0≤t153
    ·rw [if_pos c27] at H
     have c27b0:decide (0≤t153)=true:=decide_eq_true c27
     clear c27
     by_cases c28:t153 < (t149.length:Int)
     ·rw [if_pos c28] at H
      have c28b0:decide (t153 < (t149.length:Int))=true:=decide_eq_true c28
      clear c28
      obtain ⟨y166,hy166⟩ : ∃ y_:List (S33),y_=(t149.set (t153:Int).toNat (⟨y163,(rd_T33 t149 t153).f1⟩:S33)):=⟨_,rfl⟩
      replace H:(some (y166,t156))=some (r1,r2):=by first|(rw [hy166];with_reducible exact H)|(have H2_:=(Option.bind_some _ _).symm.trans H;rw [hy166];with_reducible exact H2_)|(have H2_:=(Option.bind_some _ _).symm.trans H;with_reducible exact H2_)|with_reducible exact H|(rw [hy166];exact H)|exact H
      have Ny166:=Aside0.mk hy166
      clear hy166
      simp only [Option.some.injEq,Prod.mk.injEq] at H
      obtain ⟨rfl,rfl⟩:=H
      go_enter Tryz.func18,Tryz.ntmps18
      go_wp2_with (first|((with_reducible refine gate_callee (f:=39) rfl ?_);refine goesL_ (some 8) rfl rfl Tryz.func39 (by kernel_rfl) rfl #[.pointer (some ⟨g,0,none⟩),.int .i64 3] rfl zar ?_;(with_reducible refine (spec_l12Rd_pick.calls g s0_0 s0_1 3 t147 t148 w0 _ ?side1 ?side2 A2.out).mono ?_);(case side1=>exact zi71);(case side2=>exact zg71);rintro e w30 ⟨rfl,hi,hb,hk⟩;refine ⟨_,rfl,?_⟩;have n0_:=Aside0.mk (KeepBut.trans zhk hk (.inl rfl));have n1_:=Aside0.mk (hb);have n2_:=Aside0.mk (hi);clear HK;clear HB;clear HI0;have HK:=n0_;have HB:=n1_;have HI0:=n2_;clear n0_ n1_ n2_;(try clear hb);(try clear hb2);(try clear hk);(try clear hi))|((with_reducible refine gate_callee (f:=45) rfl ?_);refine goesL_ (some 10) rfl rfl Tryz.func45 (by kernel_rfl) rfl #[.pointer (some ⟨g,0,none⟩),.int .i64 (wrap64 (1 + t147)),.int .i64 6] rfl zar ?_;(with_reducible refine (spec_l2Z.calls k g s0_0 t148 (wrap64 (1 + t147)) 6 t149 t152 w0 _ ?side1 ?side2 A3.out).mono ?_);(case side1=>exact zi71);(case side2=>exact zg71);rintro e w31 ⟨v150,rfl,ho0,hi,hb,hk⟩;refine ⟨_,rfl,?_⟩;have n0_:=Aside0.mk (Kd.N_lower (Kd.N_mono (ok':=fun k_=>(w.heap.size≤k_)∧k_≠g) ho0 (fun k_ hk_=>⟨(Nat.le_trans (keep_size (w:=w) (g:=g) (row:=none) zhk) hk_),(IsS71.fresh zi71 k_ hk_)⟩)) (keep_size (w:=w) (g:=g) (row:=none) zhk));have n1_:=Aside0.mk (KeepBut.trans zhk hk (.inl rfl));have n2_:=Aside0.mk (hb);have n3_:=Aside0.mk (hi);clear HK;clear HB;clear HI0;have HO151:=n0_;have HK:=n1_;have HB:=n2_;have HI0:=n3_;clear n0_ n1_ n2_ n3_;(try clear hb);(try clear hb2);(try clear hk);(try clear hi);(try clear ho0);obtain ⟨Ao32,co32,eo32⟩:=Kd.N_slice HO151.out;subst eo32)|((with_reducible refine gate_callee (f:=39) rfl ?_);refine goesL_ (some 18) rfl rfl Tryz.func39 (by kernel_rfl) rfl #[.pointer (some ⟨g,0,none⟩),.int .i64 (t149.length:Int)] rfl zar ?_;(with_reducible refine (spec_l12Rd_pick.calls g s0_0 t152 (t149.length:Int) t153 t154 w0 _ ?side1 ?side2 A8.out).mono ?_);(case side1=>exact zi71);(case side2=>exact zg71);rintro e w33 ⟨rfl,hi,hb,hk⟩;refine ⟨_,rfl,?_⟩;have n0_:=Aside0.mk (Kd.N_mono (Kd.N_keep (Kd.N_mono (ok:=fun k_=>(((w.heap.size≤k_))∧k_≠g)) (zN HO151.out) (fun k_ hk_=>(⟨hk_,hk_.2⟩:_∧k_≠g))) hk (fun _ h=>h.2)) (fun _ h=>h.1));have n1_:=Aside0.mk (KeepBut.trans zhk hk (.inl rfl));have n2_:=Aside0.mk (hb);have n3_:=Aside0.mk (hi);clear HO151;clear HK;clear HB;clear HI0;have HO151:=n0_;have HK:=n1_;have HB:=n2_;have HI0:=n3_;clear n0_ n1_ n2_ n3_;(try clear hb);(try clear hb2);(try clear hk);(try clear hi))|((with_reducible refine gate_callee (f:=39) rfl ?_);refine goesL_ (some 20) rfl rfl Tryz.func39 (by kernel_rfl) rfl #[.pointer (some ⟨g,0,none⟩),.int .i64 40] rfl zar ?_;(with_reducible refine (spec_l12Rd_pick.calls g s0_0 t154 40 t155 t156 w0 _ ?side1 ?side2 A9.out).mono ?_);(case side1=>exact zi71);(case side2=>exact zg71);rintro e w34 ⟨rfl,hi,hb,hk⟩;refine ⟨_,rfl,?_⟩;have n0_:=Aside0.mk (Kd.N_mono (Kd.N_keep (Kd.N_mono (ok:=fun k_=>(((w.heap.size≤k_))∧k_≠g)) (zN HO151.out) (fun k_ hk_=>(⟨hk_,hk_.2⟩:_∧k_≠g))) hk (fun _ h=>h.2)) (fun _ h=>h.1));have n1_:=Aside0.mk (KeepBut.trans zhk hk (.inl rfl));have n2_:=Aside0.mk (hb);have n3_:=Aside0.mk (hi);clear HO151;clear HK;clear HB;clear HI0;have HO151:=n0_;have HK:=n1_;have HB:=n2_;have HI0:=n3_;clear n0_ n1_ n2_ n3_;(try clear hb);(try clear hb2);(try clear hk);(try clear hi))|((with_reducible refine gate_dst (N:=34) rfl ?_);refine Kd.R_lit (Kd.int .i64) _ 3 ?hg (N:=34) ?hd (xs:=([]:List Int)) (inner:=[]) (ok:=fun _=>True) (okp:=fun _=>True) ?hr ?hp (fun _ hk=>hk) trivial (Below.refl _ _) (Nat.le_refl _) (by simp) ?_;(case hd=>rfl);(case hg=>rfl);(case hr=>first|(go_simp;done)|(go_simp;rfl));(case hp=>exact (Reps.none _ _));intro v164 w35 ho36 hb hg_ hnew_;clear hg_ hnew_;(first|rw [← Ny163.out] at ho36|(simp only [Int.reduceToNat] at ho36;rw [← Ny163.out] at ho36));have n0_:=Aside0.mk (Kd.N_elder' (zN HO151.out) (Kd.R_base ho36) hb);have n1_:=Aside0.mk (Kd.R_lower (Kd.R_newM (M:=fun k_=>(w.heap.size≤k_)) ho36 (keep_size (w:=w) (g:=g) (row:=none) zhk) (fun k_ h_=>h_)) (keep_size (w:=w) (g:=g) (row:=none) zhk));have n2_:=Aside0.mk (IsS71.below zi71 hb);have n3_:=Aside0.mk (KeepBut.trans zhk (KeepBut.of_below hb g none) (.inl rfl));have n4_:=Aside0.mk (below_step zg71 hb);clear HO151;clear HI0;clear HK;clear HB;have HO151:=n0_;have HO165:=n1_;have HI0:=n2_;have HK:=n3_;have HB:=n4_;clear n0_ n1_ n2_ n3_ n4_;clear hb ho36;have p29:0≤(t153:Int):=zod;have q29:(t153:Int) < ((t149.length:Int):Int):=zod;obtain ⟨go29,co29,eo29,gb29,gl29,cl29,HG29⟩:=Kd.N_form HO151.out (by omega);(first|cases eo29|(injection eo29 with ea_ en_ ec_;(first|subst ea_|(injection ea_ with ea_;subst ea_));subst ec_;clear en_));have GB29:=Aside0.mk gb29;have GG29:=Aside0.mk HG29;clear gb29 gl29 HG29;obtain ⟨ce29,hcl29,hM29,hcc29,hfr29⟩:=Kd.N_elem HO151.out z33 (t153:Int) p29 q29;obtain ⟨ua29_0,uc29_0,rfl,ul29_0,ge29_0⟩:=k33_openF hM29;have hx29_0:w35.cell? ⟨go29,(t153:Int).toNat * 2,none⟩=some (.slice ua29_0 ((rd_T33 t149 t153).f0).length uc29_0):=hcc29 0 _ rfl;have hx29_1:w35.cell? ⟨go29,(t153:Int).toNat * 2 + 1,none⟩=some (.int .i64 ((rd_T33 t149 t153).f1)):=hcc29 1 _ rfl;have hf29_0:w35.frozen? ⟨go29,(t153:Int).toNat * 2,none⟩=false:=hfr29 0;have hf29_1:w35.frozen? ⟨go29,(t153:Int).toNat * 2 + 1,none⟩=false:=hfr29 1;clear hcl29 hcc29 hfr29 hM29;replace p29:=eq_true p29;replace q29:=eq_true q29;obtain ⟨Ao39,co39,eo39⟩:=Kd.R_slice HO165.out;subst eo39;have n_:=Aside0.mk (Kd.N_mono (ok':=(fun k_=>(w.heap.size≤k_)∧some k_≠(.slice Ao39 y163.length co39:Value).ownBlock)) HO151.out (fun k_ hk=>⟨hk.1.1,hk.2⟩));clear HO151;have HO151:=n_;clear n_;have HX37:=Aside0.mk (show Kd.N k33 33 w35 w.heap.size (fun k_=>(w.heap.size≤k_)) (.slice (some ⟨go29,0,none⟩) t149.length co32) t149 from (by (with_reducible repeat (first|apply Kd.N_alloc|apply Kd.N_drewN|apply Kd.N_drew));exact Kd.N_mono HO151.out (fun _ hk=>hk.1)));obtain ⟨ce37,hcl37,hM37,hcc37,hfr37⟩:=Kd.N_elem HX37.out z33 (t153:Int) (zod) (by have h_:(t153:Int) < ((t149.length:Int):Int):=zod;first|exact h_|(have e_:=(Kd.N_reads' HO151.out).1;omega)|simpa using h_);obtain ⟨ua37_0,uc37_0,rfl,ul37_0,ge37_0⟩:=k33_openF hM37;have HP37:=Kd.N_seg HX37.out (t153:Int) (zod) (by have h_:(t153:Int) < ((t149.length:Int):Int):=zod;first|exact h_|(have e_:=(Kd.N_reads' HO151.out).1;omega)|simpa using h_) (seg:=[.slice Ao39 y163.length co39]) (j:=0) hcl37 hcc37 (show 1≤2 from by decide) (x':=(⟨y163,(rd_T33 t149 t153).f1⟩:S33)) (k33_mkF _ _ (⟨y163,(rd_T33 t149 t153).f1⟩:S33) (Kd.R_reads' (Kd.R_mono (ok':=(fun k_=>((fun k_=>(w.heap.size≤k_))) k_∧k_≠go29)) (Kd.R_apart' (HO165.out) (Kd.N_typed HO151.out) (by decide)) (fun k_ hk=>⟨hk.1.1,fun e_=>(hk.2) (by rw [e_];rfl)⟩))).2.1 (Kd.R_F (Kd.R_mono (ok':=(fun k_=>((fun k_=>(w.heap.size≤k_))) k_∧k_≠go29)) (Kd.R_apart' (HO165.out) (Kd.N_typed HO151.out) (by decide)) (fun k_ hk=>⟨hk.1.1,fun e_=>(hk.2) (by rw [e_];rfl)⟩)))) (fun _ hk=>hk);have hx37_0:=hcc37 0 _ rfl;(try simp only [show (k33).sz=2 from rfl,Nat.mul_one,Nat.add_zero] at hx37_0);have hf37_0:=hfr37 0;(try simp only [show (k33).sz=2 from rfl,Nat.mul_one,Nat.add_zero] at hf37_0);clear hcl37 hcc37 hfr37 hM37)|((with_reducible refine gate_store (t:=31) (p:=36) rfl ?_);refine store_event (t:=31) (p:=36) (v:=?vo_w38) (w1:=(w35.setCell ⟨go29,(t153:Int).toNat * 2,none⟩ (.slice Ao39 y163.length co39))) ?hg ?ho ?hn ?hr ?_;(case ho=>rfl);(case hg=>rfl);(case hn=>rfl);(case hr=>first|(go_simp;done)|(go_simp;rfl)|(obtain ⟨A0_,c0_,e0_⟩:=Kd.R_slice HO165.out;subst e0_;(first|(go_simp;done)|(go_simp;rfl))));intro w38 hw;have hg:w35.grownBy w38 (some go29):=(by rw [hw];exact HP37.2);have hp_:Kd.N k33 33 w38 w.heap.size (fun k_=>(w.heap.size≤k_)) (.slice (some ⟨go29,0,none⟩) t149.length co32) y166:=(by rw [hw,Ny166.out];exact HP37.1);clear HP37;have n0_:=Aside0.mk (IsS71.grown zi71 hg (IsS71.own_neN HI0.out HO151.out (by decide)));have n1_:=Aside0.mk (hp_);have n2_:=Aside0.mk ((by rw [hw];exact below_set (HB.out) (Nat.le_trans HL.out GB29.out):Below w0.heap.size w0 w38));have n3_:=Aside0.mk (KeepBut.trans zhk (KeepBut.of_grown hg g) (Kd.N_base2 HO151.out));clear HI0;clear HO151;clear HB;clear HK;clear HO165;have HI0:=n0_;have HO151:=n1_;have HB:=n2_;have HK:=n3_;clear n0_ n1_ n2_ n3_;clear hg hw hp_))
      go_ret
      exact ⟨_,by first|rfl|(simp [errW_none,errW_some] <;> rfl)|(simp [*,errW_none,errW_some] <;> rfl),by (with_reducible repeat (first|apply Kd.N_alloc|apply Kd.N_drewN|apply Kd.N_drew));exact HO151.out,zi71,zg71,zhk⟩
     ·rw [if_neg c28] at H
      exact absurd H (by simp)
    ·rw [if_neg c27] at H
     exact absurd H (by simp)
   ·rw [if_neg c26] at H
    have c26b0:(t155 == 1)=false:=beq_eq_false_iff_ne.mpr c26
    have c26b1:(t155 != 1)=true:=bne_iff_ne.mpr c26
    by_cases c40:t155=2
    ·rw [if_pos c40] at H
     have c40b0:(t155 == 2)=true:=beq_iff_eq.mpr c40
     have c40b1:(t155 != 2)=false:=bne_eq_false_iff_eq.mpr c40
     clear c40
     by_cases c41:0 < (t149.length:Int)
     ·rw [if_pos c41] at H
      have c41b0:decide (0 < (t149.length:Int))=true:=decide_eq_true c41
      have c41b1:decide (0 < t149.length)=true:=decide_eq_true (by omega)
      clear c41
      by_cases c42:t149.length < 4398046511104
      ·rw [if_pos c42] at H
       have LMc42:=Aside0.mk c42
       clear c42
       obtain ⟨y168,hy168⟩ : ∃ y_:List (S33),y_=(t149 ++ [(⟨(rd_T33 t149 0).f0,(rd_T33 t149 0).f1⟩:S33)]):=⟨_,rfl⟩
       replace H:(some (y168,t156))=some (r1,r2):=by first|(rw [hy168];with_reducible exact H)|(have H2_:=(Option.bind_some _ _).symm.trans H;rw [hy168];with_reducible exact H2_)|(have H2_:=(Option.bind_some _ _).symm.trans H;with_reducible exact H2_)|with_reducible exact H|(rw [hy168];exact H)|exact H
       have Ny168:=Aside0.mk hy168
       clear hy168
       simp only [Option.some.injEq,Prod.mk.injEq] at H
       obtain ⟨rfl,rfl⟩:=H
       go_enter Tryz.func18,Tryz.ntmps18
       go_wp2_with (first|((with_reducible refine gate_callee (f:=39) rfl ?_);refine goesL_ (some 8) rfl rfl Tryz.func39 (by kernel_rfl) rfl #[.pointer (some ⟨g,0,none⟩),.int .i64 3] rfl zar ?_;(with_reducible refine (spec_l12Rd_pick.calls g s0_0 s0_1 3 t147 t148 w0 _ ?side1 ?side2 A2.out).mono ?_);(case side1=>exact zi71);(case side2=>exact zg71);rintro e w43 ⟨rfl,hi,hb,hk⟩;refine ⟨_,rfl,?_⟩;have n0_:=Aside0.mk (KeepBut.trans zhk hk (.inl rfl));have n1_:=Aside0.mk (hb);have n2_:=Aside0.mk (hi);clear HK;clear HB;clear HI0;have HK:=n0_;have HB:=n1_;have HI0:=n2_;clear n0_ n1_ n2_;(try clear hb);(try clear hb2);(try clear hk);(try clear hi))|((with_reducible refine gate_callee (f:=45) rfl ?_);refine goesL_ (some 10) rfl rfl Tryz.func45 (by kernel_rfl) rfl #[.pointer (some ⟨g,0,none⟩),.int .i64 (wrap64 (1 + t147)),.int .i64 6] rfl zar ?_;(with_reducible refine (spec_l2Z.calls k g s0_0 t148 (wrap64 (1 + t147)) 6 t149 t152 w0 _ ?side1 ?side2 A3.out).mono ?_);(case side1=>exact zi71);(case side2=>exact zg71);rintro e w44 ⟨v150,rfl,ho0,hi,hb,hk⟩;refine ⟨_,rfl,?_⟩;have n0_:=Aside0.mk (Kd.N_lower (Kd.N_mono (ok':=fun k_=>(w.heap.size≤k_)∧k_≠g) ho0 (fun k_ hk_=>⟨(Nat.le_trans (keep_size (w:=w) (g:=g) (row:=none) zhk) hk_),(IsS71.fresh zi71 k_ hk_)⟩)) (keep_size (w:=w) (g:=g) (row:=none) zhk));have n1_:=Aside0.mk (KeepBut.trans zhk hk (.inl rfl));have n2_:=Aside0.mk (hb);have n3_:=Aside0.mk (hi);clear HK;clear HB;clear HI0;have HO151:=n0_;have HK:=n1_;have HB:=n2_;have HI0:=n3_;clear n0_ n1_ n2_ n3_;(try clear hb);(try clear hb2);(try clear hk);(try clear hi);(try clear ho0);obtain ⟨Ao45,co45,eo45⟩:=Kd.N_slice HO151.out;subst eo45)|((with_reducible refine gate_callee (f:=39) rfl ?_);refine goesL_ (some 18) rfl rfl Tryz.func39 (by kernel_rfl) rfl #[.pointer (some ⟨g,0,none⟩),.int .i64 (t149.length:Int)] rfl zar ?_;(with_reducible refine (spec_l12Rd_pick.calls g s0_0 t152 (t149.length:Int) t153 t154 w0 _ ?side1 ?side2 A8.out).mono ?_);(case side1=>exact zi71);(case side2=>exact zg71);rintro e w46 ⟨rfl,hi,hb,hk⟩;refine ⟨_,rfl,?_⟩;have n0_:=Aside0.mk (Kd.N_mono (Kd.N_keep (Kd.N_mono (ok:=fun k_=>(((w.heap.size≤k_))∧k_≠g)) (zN HO151.out) (fun k_ hk_=>(⟨hk_,hk_.2⟩:_∧k_≠g))) hk (fun _ h=>h.2)) (fun _ h=>h.1));have n1_:=Aside0.mk (KeepBut.trans zhk hk (.inl rfl));have n2_:=Aside0.mk (hb);have n3_:=Aside0.mk (hi);clear HO151;clear HK;clear HB;clear HI0;have HO151:=n0_;have HK:=n1_;have HB:=n2_;have HI0:=n3_;clear n0_ n1_ n2_ n3_;(try clear hb);(try clear hb2);(try clear hk);(try clear hi))|((with_reducible refine gate_callee (f:=39) rfl ?_);refine goesL_ (some 20) rfl rfl Tryz.func39 (by kernel_rfl) rfl #[.pointer (some ⟨g,0,none⟩),.int .i64 40] rfl zar ?_;(with_reducible refine (spec_l12Rd_pick.calls g s0_0 t154 40 t155 t156 w0 _ ?side1 ?side2 A9.out).mono ?_);(case side1=>exact zi71);(case side2=>exact zg71);rintro e w47 ⟨rfl,hi,hb,hk⟩;refine ⟨_,rfl,?_⟩;have n0_:=Aside0.mk (Kd.N_mono (Kd.N_keep (Kd.N_mono (ok:=fun k_=>(((w.heap.size≤k_))∧k_≠g)) (zN HO151.out) (fun k_ hk_=>(⟨hk_,hk_.2⟩:_∧k_≠g))) hk (fun _ h=>h.2)) (fun _ h=>h.1));have n1_:=Aside0.mk (KeepBut.trans zhk hk (.inl rfl));have n2_:=Aside0.mk (hb);have n3_:=Aside0.mk (hi);clear HO151;clear HK;clear HB;clear HI0;have HO151:=n0_;have HK:=n1_;have HB:=n2_;have HI0:=n3_;clear n0_ n1_ n2_ n3_;(try clear hb);(try clear hb2);(try clear hk);(try clear hi);have p167:0≤(0:Int):=(by omega);have q167:0 < (t149.length:Int):=zod;obtain ⟨ad167,A167_0,c167_0,e167,hx167_0,hx167_1,hl167_0,hi167_0⟩:=at_T33 (Kd.N_reads' HO151.out).2.2 0 p167 q167;cases e167;obtain ⟨ce167,hce167,hMe167,hcc167⟩:=Kd.N_get HO151.out z33 0 p167 (by first|exact q167|exact zod|(have e_:=(Kd.N_reads' HO151.out).1;omega));obtain ⟨ua167_0,uc167_0,rfl,ul167_0,ge167_0⟩:=k33_openF hMe167;have hv167_0:=hcc167 0 _ rfl;rw [Nat.add_zero] at hv167_0;replace hv167_0:=Option.some.inj (hv167_0.symm.trans hx167_0);injection hv167_0 with hva_ hvn_ hvc_;rw [hva_] at ge167_0;rw [hvc_] at ul167_0;have HL167_0:=Aside0.mk (show Kd.V (Kd.int .i64) 3 _ w.heap.size _ _ ((rd_T33 t149 0).f0) from Kd.V_mk ul167_0 ge167_0);clear hva_ hvn_ hvc_ ge167_0 ul167_0;clear hcc167 hce167;have qi167:(0 < t149.length)=True:=eq_true (by omega);(try rw [show ((0:Int)).toNat=0 from rfl] at hx167_0);(try rw [show 0 * 2=0 from rfl] at hx167_0);(try rw [Addr.add_zero'] at hx167_0);(try rw [show ((0:Int)).toNat=0 from rfl] at hx167_1);(try rw [show 0 * 2=0 from rfl] at hx167_1);(try rw [Addr.add_zero'] at hx167_1);have HR167_0:=Aside0.mk hi167_0;have HC167_0:=Aside0.mk hl167_0;clear hi167_0 hl167_0;replace p167:=eq_true p167;replace q167:=eq_true q167)|((with_reducible refine gate_builtin (b:=.append) (xs:=#[.tmp 39,.tmp 43]) rfl ?_);at_builtin;refine Kd.N_append k33 w.heap.size rfl (.tmp 39) (.tmp 43) 23 33 (.agg #[(.slice none 0 0),(.int .i64 0)]) 32 rfl Tryz.underlying23 info33 rfl (by decide) (by omega) (.slice (some ad167) t149.length co45) t149 (⟨(rd_T33 t149 0).f0,(rd_T33 t149 0).f1⟩:S33) [.slice A167_0 ((rd_T33 t149 0).f0).length c167_0,.int .i64 ((rd_T33 t149 0).f1)] (fun k_=>(w.heap.size≤k_)∧k_≠g) (fun k_=>((fun k_=>(w.heap.size≤k_)∧k_≠g)) k_∧some k_≠(.slice (some ad167) t149.length co45:Value).ownBlock) rfl rfl ?aP (fun _ hk=>hk) ?aF ?aO (Below.refl _ _) ?aS ?aL ?_;(case aP=>exact (k33_mkF _ _ (⟨(rd_T33 t149 0).f0,(rd_T33 t149 0).f1⟩:S33) (Kd.V_reads' (Kd.V_mono (ok':=(fun k_=>((fun k_=>(w.heap.size≤k_)∧k_≠g)) k_∧some k_≠(.slice (some ad167) t149.length co45:Value).ownBlock)) (HL167_0.out) (fun k_ hk=>⟨⟨hk.1.1,hk.1.2⟩,hk.2⟩))).2.1 (Kd.V_F (Kd.V_mono (ok':=(fun k_=>((fun k_=>(w.heap.size≤k_)∧k_≠g)) k_∧some k_≠(.slice (some ad167) t149.length co45:Value).ownBlock)) (HL167_0.out) (fun k_ hk=>⟨⟨hk.1.1,hk.1.2⟩,hk.2⟩)))));(case aF=>exact (fun k_ hk=>⟨(Nat.le_trans (keep_size (w:=w) (g:=g) (row:=none) zhk) hk),IsS71.fresh zi71 k_ hk⟩));(case aO=>exact (zN HO151.out));(case aS=>exact (keep_size (w:=w) (g:=g) (row:=none) zhk));(case aL=>have:=LMc42.out;omega);intro v169 w48 ho hb hg hat;rw [← Ny168.out] at ho;have n0_:=Aside0.mk (IsS71.grown zi71 hg (IsS71.own_neN HI0.out HO151.out (by decide)));have n1_:=Aside0.mk (Kd.V_afterv (ok:=(fun k_=>(w.heap.size≤k_)∧k_≠g)) (zV HL167_0.out) hg hat);have n2_:=Aside0.mk (below_weaken zg71 HL.out hb);have n3_:=Aside0.mk (KeepBut.trans zhk (KeepBut.of_grown hg g) (Kd.N_base2 HO151.out));have n4_:=Aside0.mk (ho);clear HI0;clear HL167_0;clear HB;clear HK;clear HO151;have HI0:=n0_;have HL167_0:=n1_;have HB:=n2_;have HK:=n3_;have HO170:=n4_;clear n0_ n1_ n2_ n3_ n4_;clear ho hb hg hat))
       go_ret
       exact ⟨_,by first|rfl|(simp [errW_none,errW_some] <;> rfl)|(simp [*,errW_none,errW_some] <;> rfl),by (with_reducible repeat (first|apply Kd.N_alloc|apply Kd.N_drewN|apply Kd.N_drew));exact Kd.N_mono HO170.out (fun _ hk=>hk.1),zi71,zg71,zhk⟩
      ·rw [if_neg c42] at H
       exact absurd H (by simp)
     ·rw [if_neg c41] at H
      exact absurd H (by simp)
    ·rw [if_neg c40] at H
     have c40b0:(t155 == 2)=false:=beq_eq_false_iff_ne.mpr c40
     have c40b1:(t155 != 2)=true:=bne_iff_ne.mpr c40
     by_cases c49:t155=3
     ·rw [if_pos c49] at H
      have c49b0:(t155 == 3)=true:=beq_iff_eq.mpr c49
      have c49b1:(t155 != 3)=false:=bne_eq_false_iff_eq.mpr c49
      clear c49
      have H':=Aside0.mk H
      clear H
      go_enter Tryz.func18,Tryz.ntmps18
      go_wp2_with (first|((with_reducible refine gate_callee (f:=39) rfl ?_);refine goesL_ (some 8) rfl rfl Tryz.func39 (by kernel_rfl) rfl #[.pointer (some ⟨g,0,none⟩),.int .i64 3] rfl zar ?_;(with_reducible refine (spec_l12Rd_pick.calls g s0_0 s0_1 3 t147 t148 w0 _ ?side1 ?side2 A2.out).mono ?_);(case side1=>exact zi71);(case side2=>exact zg71);rintro e w50 ⟨rfl,hi,hb,hk⟩;refine ⟨_,rfl,?_⟩;have n0_:=Aside0.mk (KeepBut.trans zhk hk (.inl rfl));have n1_:=Aside0.mk (hb);have n2_:=Aside0.mk (hi);clear HK;clear HB;clear HI0;have HK:=n0_;have HB:=n1_;have HI0:=n2_;clear n0_ n1_ n2_;(try clear hb);(try clear hb2);(try clear hk);(try clear hi))|((with_reducible refine gate_callee (f:=45) rfl ?_);refine goesL_ (some 10) rfl rfl Tryz.func45 (by kernel_rfl) rfl #[.pointer (some ⟨g,0,none⟩),.int .i64 (wrap64 (1 + t147)),.int .i64 6] rfl zar ?_;(with_reducible refine (spec_l2Z.calls k g s0_0 t148 (wrap64 (1 + t147)) 6 t149 t152 w0 _ ?side1 ?side2 A3.out).mono ?_);(case side1=>exact zi71);(case side2=>exact zg71);rintro e w51 ⟨v150,rfl,ho0,hi,hb,hk⟩;refine ⟨_,rfl,?_⟩;have n0_:=Aside0.mk (Kd.N_lower (Kd.N_mono (ok':=fun k_=>(w.heap.size≤k_)∧k_≠g) ho0 (fun k_ hk_=>⟨(Nat.le_trans (keep_size (w:=w) (g:=g) (row:=none) zhk) hk_),(IsS71.fresh zi71 k_ hk_)⟩)) (keep_size (w:=w) (g:=g) (row:=none) zhk));have n1_:=Aside0.mk (KeepBut.trans zhk hk (.inl rfl));have n2_:=Aside0.mk (hb);have n3_:=Aside0.mk (hi);clear HK;clear HB;clear HI0;have HO151:=n0_;have HK:=n1_;have HB:=n2_;have HI0:=n3_;clear n0_ n1_ n2_ n3_;(try clear hb);(try clear hb2);(try clear hk);(try clear hi);(try clear ho0);obtain ⟨Ao52,co52,eo52⟩:=Kd.N_slice HO151.out;subst eo52)|((with_reducible refine gate_callee (f:=39) rfl ?_);refine goesL_ (some 18) rfl rfl Tryz.func39 (by kernel_rfl) rfl #[.pointer (some ⟨g,0,none⟩),.int .i64 (t149.length:Int)] rfl zar ?_;(with_reducible refine (spec_l12Rd_pick.calls g s0_0 t152 (t149.length:Int) t153 t154 w0 _ ?side1 ?side2 A8.out).mono ?_);(case side1=>exact zi71);(case side2=>exact zg71);rintro e w53 ⟨rfl,hi,hb,hk⟩;refine ⟨_,rfl,?_⟩;have n0_:=Aside0.mk (Kd.N_mono (Kd.N_keep (Kd.N_mono (ok:=fun k_=>(((w.heap.size≤k_))∧k_≠g)) (zN HO151.out) (fun k_ hk_=>(⟨hk_,hk_.2⟩:_∧k_≠g))) hk (fun _ h=>h.2)) (fun _ h=>h.1));have n1_:=Aside0.mk (KeepBut.trans zhk hk (.inl rfl));have n2_:=Aside0.mk (hb);have n3_:=Aside0.mk (hi);clear HO151;clear HK;clear HB;clear HI0;have HO151:=n0_;have HK:=n1_;have HB:=n2_;have HI0:=n3_;clear n0_ n1_ n2_ n3_;(try clear hb);(try clear hb2);(try clear hk);(try clear hi))|((with_reducible refine gate_callee (f:=39) rfl ?_);refine goesL_ (some 20) rfl rfl Tryz.func39 (by kernel_rfl) rfl #[.pointer (some ⟨g,0,none⟩),.int .i64 40] rfl zar ?_;(with_reducible refine (spec_l12Rd_pick.calls g s0_0 t154 40 t155 t156 w0 _ ?side1 ?side2 A9.out).mono ?_);(case side1=>exact zi71);(case side2=>exact zg71);rintro e w54 ⟨rfl,hi,hb,hk⟩;refine ⟨_,rfl,?_⟩;have n0_:=Aside0.mk (Kd.N_mono (Kd.N_keep (Kd.N_mono (ok:=fun k_=>(((w.heap.size≤k_))∧k_≠g)) (zN HO151.out) (fun k_ hk_=>(⟨hk_,hk_.2⟩:_∧k_≠g))) hk (fun _ h=>h.2)) (fun _ h=>h.1));have n1_:=Aside0.mk (KeepBut.trans zhk hk (.inl rfl));have n2_:=Aside0.mk (hb);have n3_:=Aside0.mk (hi);clear HO151;clear HK;clear HB;clear HI0;have HO151:=n0_;have HK:=n1_;have HB:=n2_;have HI0:=n3_;clear n0_ n1_ n2_ n3_;(try clear hb);(try clear hb2);(try clear hk);(try clear hi)))
      go_loopg [3,5] k (fun kq v3 v5 w'=>∃ (x3_1:List (S33)) (x5_1:Int),v5=.int .i64 x5_1∧Aside0 (spec_l2Bent.l0 kq x3_1 x5_1 s0_0 t156=some (r1,r2))∧Aside0 (kq≤k)∧Aside0 (Kd.N k33 33 w' w.heap.size (fun k_=>(w.heap.size≤k_)∧k_≠g) v3 x3_1)∧Aside0 (IsS71 w0 w' g s0_0 t156)∧Aside0 (KeepBut w w' g none)∧Aside0 (Below w0.heap.size w0 w'))
      case atStart=>exact ⟨(t149),(0),(by first|rfl|(simp;done)|(simp [*];done)),H',⟨Nat.le_refl _⟩,⟨by (with_reducible repeat (first|apply Kd.N_alloc|apply Kd.N_drewN|apply Kd.N_drew));exact HO151.out⟩,⟨zi71⟩,⟨zhk⟩,⟨zg71⟩⟩
      case round =>
       clear H'
       try clear c1
       try clear p1
       try clear q1
       try clear hx1
       try clear qi1
       try clear hf1
       try clear c2
       try clear p2
       try clear q2
       try clear hx2
       try clear hf2
       try clear c3
       try clear hx3
       try clear hf3
       try clear c4
       try clear c4b0
       try clear c4b1
       try clear c4b2
       try clear p6
       try clear c10
       try clear c10b0
       try clear c10b1
       try clear c12
       try clear c12b0
       try clear c13
       try clear c13b0
       try clear c14
       try clear p14
       try clear q14
       try clear hx14
       try clear hf14
       try clear c16
       try clear p16
       try clear q16
       try clear hx16
       try clear qi16
       try clear c18
       try clear c24
       try clear hx24
       try clear hf24
       try clear c26
       try clear c26b0
       try clear c26b1
       try clear c27
       try clear c27b0
       try clear c28
       try clear c28b0
       try clear c29
       try clear p29
       try clear q29
       try clear hx29
       try clear hf29
       try clear c37
       try clear hx37
       try clear hf37
       try clear c39
       try clear c40
       try clear c40b0
       try clear c40b1
       try clear c41
       try clear c41b0
       try clear c41b1
       try clear c42
       try clear c45
       try clear c46
       try clear c49
       try clear c49b0
       try clear c49b1
       try clear hx14_0
       try clear hx14_1
       try clear hx167_0
       try clear hx167_1
       try clear hx24_1
       try clear hx29_0
       try clear hx29_1
       try clear hx37_0
       try clear p14
       try clear p167
       try clear p29
       try clear q14
       try clear q167
       try clear q29
       obtain ⟨x3_1,x5_1,rfl,HA,HK1,HO_3,HI0,HK,HB⟩:=hrel
       cases gk with
       | zero=>exact absurd HA.out (by simp [spec_l2Bent.l0])
       | succ k1 =>
        have H:=HA.out
        clear HA
        simp only [spec_l2Bent.l0] at H
        by_cases c55:x5_1 < 101
        ·rw [if_pos c55] at H
         have c55b0:decide (x5_1 < 101)=true:=decide_eq_true c55
         clear c55
         obtain ⟨y171,hy171⟩ : ∃ y_:List Int,y_=(([wrap64 (10 + x5_1)]:List Int)):=⟨_,rfl⟩
         replace H:((spec_l2Put.f k1 x3_1 y171 1).bind fun t174=>(spec_l2Bent.l0 k1 t174 (wrap64 (x5_1 + 1)) s0_0 t156))=some (r1,r2):=by first|(rw [hy171];with_reducible exact H)|(have H2_:=(Option.bind_some _ _).symm.trans H;rw [hy171];with_reducible exact H2_)|(have H2_:=(Option.bind_some _ _).symm.trans H;with_reducible exact H2_)|with_reducible exact H|(rw [hy171];exact H)|exact H
         have Ny171:=Aside0.mk hy171
         clear hy171
         replace H:=Option.bind_eq_some_iff.mp H
         obtain ⟨t174,A560,H⟩:=H
         (try dsimp only at H)
         have A56:=Aside0.mk A560
         clear A560
         have H':=Aside0.mk H
         clear H
         go_wp2_with (first|((with_reducible refine gate_dst (N:=54) rfl ?_);refine Kd.R_lit (Kd.int .i64) _ 3 ?hg (N:=54) ?hd (xs:=([wrap64 (10 + x5_1)]:List Int)) (inner:=[.int .i64 (wrap64 (10 + x5_1))]) (ok:=fun _=>True) (okp:=fun _=>True) ?hr ?hp (fun _ hk=>hk) trivial (Below.refl _ _) (Nat.le_refl _) (by simp) ?_;(case hd=>rfl);(case hg=>rfl);(case hr=>first|(go_simp;done)|(go_simp;rfl));(case hp=>exact (Reps.one (show Kd.M (Kd.int .i64) _ _ _ (wrap64 (10 + x5_1)) [.int .i64 (wrap64 (10 + x5_1))] from rfl) (Reps.none _ _)));intro v172 w57 ho58 hb hg_ hnew_;clear hg_ hnew_;(first|rw [← Ny171.out] at ho58|(simp only [Int.reduceToNat] at ho58;rw [← Ny171.out] at ho58));have n0_:=Aside0.mk (Kd.N_elder' (zN HO_3.out) (Kd.R_base ho58) hb);have n1_:=Aside0.mk (Kd.R_lower (Kd.R_newM (M:=fun k_=>(w.heap.size≤k_)) ho58 (keep_size (w:=w) (g:=g) (row:=none) zhk) (fun k_ h_=>h_)) (keep_size (w:=w) (g:=g) (row:=none) zhk));have n2_:=Aside0.mk (IsS71.below zi71 hb);have n3_:=Aside0.mk (KeepBut.trans zhk (KeepBut.of_below hb g none) (.inl rfl));have n4_:=Aside0.mk (below_step zg71 hb);clear HO_3;clear HI0;clear HK;clear HB;have HO_3:=n0_;have HO173:=n1_;have HI0:=n2_;have HK:=n3_;have HB:=n4_;clear n0_ n1_ n2_ n3_ n4_;clear hb ho58;obtain ⟨Ao59,co59,eo59⟩:=Kd.N_slice HO_3.out;subst eo59;obtain ⟨Ao60,co60,eo60⟩:=Kd.R_slice HO173.out;subst eo60)|((with_reducible refine gate_callee (f:=47) rfl ?_);refine goesL_ (some 55) rfl rfl Tryz.func47 (by kernel_rfl) rfl #[.slice Ao59 x3_1.length co59,.slice Ao60 y171.length co60,.int .i64 1] rfl zar ?_;(refine (spec_l2Put.calls k1 w.heap.size (fun k_=>(w.heap.size≤k_)∧some k_≠(.slice Ao60 y171.length co60:Value).ownBlock∧k_≠g) (.slice Ao59 x3_1.length co59) x3_1 _ _ y171 1 t174 ?w0_ _ ?side1 ?side2 ?side3 ?side4 ?side5 ?side6 A56.out).mono ?_);(case side1=>exact (keep_size (w:=w) (g:=g) (row:=none) zhk));(case side2=>exact (Below.refl _ _));(case side3=>exact (by (with_reducible repeat (first|apply Kd.N_alloc|apply Kd.N_drewN|apply Kd.N_drew));exact Kd.N_mono HO_3.out (fun _ hk=>⟨hk.1.1,⟨hk.2,hk.1.2⟩⟩)));(case side4=>exact (fun k_ hk=>⟨(Nat.le_trans (keep_size (w:=w) (g:=g) (row:=none) zhk) hk),Kd.fresh' (Kd.R_lt (by (with_reducible repeat (first|apply Kd.R_alloc|apply Kd.R_drewN|apply Kd.R_drew));exact HO173.out)) k_ hk,IsS71.fresh zi71 k_ hk⟩));(case side5=>repeat (first|exact (Kd.R_reads' HO173.out).2.2|(with_reducible refine Kd.C_alloc ?_ _)|(with_reducible refine Kd.C_drewN ?_ _)|(with_reducible refine Kd.C_drew ?_)));(case side6=>exact (Kd.R_reads' HO173.out).2.1);rintro e w61 ⟨v175,rfl,ho,hb,hg,hat⟩;refine ⟨_,rfl,?_⟩;have n0_:=Aside0.mk (IsS71.grown zi71 hg (IsS71.own_neN HI0.out HO_3.out (by decide)));have n1_:=Aside0.mk (Kd.R_over' (by (with_reducible repeat (first|apply Kd.R_alloc|apply Kd.R_drewN|apply Kd.R_drew));exact HO173.out) (Kd.N_typed (zN HO_3.out)) (by decide) hg);have n2_:=Aside0.mk (below_weaken zg71 HL.out hb);have n3_:=Aside0.mk (KeepBut.trans zhk (KeepBut.of_grown hg g) (Kd.N_base2 HO_3.out));have n4_:=Aside0.mk (ho);clear HI0;clear HO173;clear HB;clear HK;clear HO_3;have HI0:=n0_;have HO173:=n1_;have HB:=n2_;have HK:=n3_;have HO176:=n4_;clear n0_ n1_ n2_ n3_ n4_;clear ho hb hg hat))
         go_roundg k1
         case measure=>have:=HK1.out;omega
         case rel=>exact ⟨(t174),(wrap64 (x5_1 + 1)),(by first|rfl|(simp;done)|(simp [*];done)),H',⟨by have:=HK1.out;omega⟩,⟨by (with_reducible repeat (first|apply Kd.N_alloc|apply Kd.N_drewN|apply Kd.N_drew));exact Kd.N_mono HO176.out (fun _ hk=>⟨hk.1,hk.2.2⟩)⟩,⟨zi71⟩,⟨zhk⟩,⟨zg71⟩⟩
        ·rw [if_neg c55] at H
         have c55b0:decide (x5_1 < 101)=false:=decide_eq_false c55
         clear c55
         simp only [Option.some.injEq,Prod.mk.injEq] at H
         obtain ⟨rfl,rfl⟩:=H
         go_wp2
         go_ret
         exact ⟨_,by first|rfl|(simp [errW_none,errW_some] <;> rfl)|(simp [*,errW_none,errW_some] <;> rfl),by (with_reducible repeat (first|apply Kd.N_alloc|apply Kd.N_drewN|apply Kd.N_drew));exact Kd.N_mono HO_3.out (fun _ hk=>hk.1),zi71,zg71,zhk⟩
     ·rw [if_neg c49] at H
      have c49b0:(t155 == 3)=false:=beq_eq_false_iff_ne.mpr c49
      have c49b1:(t155 != 3)=true:=bne_iff_ne.mpr c49
      simp only [Option.some.injEq,Prod.mk.injEq] at H
      obtain ⟨rfl,rfl⟩:=H
      go_enter Tryz.func18,Tryz.ntmps18
      go_wp2_with (first|((with_reducible refine gate_callee (f:=39) rfl ?_);refine goesL_ (some 8) rfl rfl Tryz.func39 (by kernel_rfl) rfl #[.pointer (some ⟨g,0,none⟩),.int .i64 3] rfl zar ?_;(with_reducible refine (spec_l12Rd_pick.calls g s0_0 s0_1 3 t147 t148 w0 _ ?side1 ?side2 A2.out).mono ?_);(case side1=>exact zi71);(case side2=>exact zg71);rintro e w62 ⟨rfl,hi,hb,hk⟩;refine ⟨_,rfl,?_⟩;have n0_:=Aside0.mk (KeepBut.trans zhk hk (.inl rfl));have n1_:=Aside0.mk (hb);have n2_:=Aside0.mk (hi);clear HK;clear HB;clear HI0;have HK:=n0_;have HB:=n1_;have HI0:=n2_;clear n0_ n1_ n2_;(try clear hb);(try clear hb2);(try clear hk);(try clear hi))|((with_reducible refine gate_callee (f:=45) rfl ?_);refine goesL_ (some 10) rfl rfl Tryz.func45 (by kernel_rfl) rfl #[.pointer (some ⟨g,0,none⟩),.int .i64 (wrap64 (1 + t147)),.int .i64 6] rfl zar ?_;(with_reducible refine (spec_l2Z.calls k g s0_0 t148 (wrap64 (1 + t147)) 6 t149 t152 w0 _ ?side1 ?side2 A3.out).mono ?_);(case side1=>exact zi71);(case side2=>exact zg71);rintro e w63 ⟨v150,rfl,ho0,hi,hb,hk⟩;refine ⟨_,rfl,?_⟩;have n0_:=Aside0.mk (Kd.N_lower (Kd.N_mono (ok':=fun k_=>(w.heap.size≤k_)∧k_≠g) ho0 (fun k_ hk_=>⟨(Nat.le_trans (keep_size (w:=w) (g:=g) (row:=none) zhk) hk_),(IsS71.fresh zi71 k_ hk_)⟩)) (keep_size (w:=w) (g:=g) (row:=none) zhk));have n1_:=Aside0.mk (KeepBut.trans zhk hk (.inl rfl));have n2_:=Aside0.mk (hb);have n3_:=Aside0.mk (hi);clear HK;clear HB;clear HI0;have HO151:=n0_;have HK:=n1_;have HB:=n2_;have HI0:=n3_;clear n0_ n1_ n2_ n3_;(try clear hb);(try clear hb2);(try clear hk);(try clear hi);(try clear ho0);obtain ⟨Ao64,co64,eo64⟩:=Kd.N_slice HO151.out;subst eo64)|((with_reducible refine gate_callee (f:=39) rfl ?_);refine goesL_ (some 18) rfl rfl Tryz.func39 (by kernel_rfl) rfl #[.pointer (some ⟨g,0,none⟩),.int .i64 (t149.length:Int)] rfl zar ?_;(with_reducible refine (spec_l12Rd_pick.calls g s0_0 t152 (t149.length:Int) t153 t154 w0 _ ?side1 ?side2 A8.out).mono ?_);(case side1=>exact zi71);(case side2=>exact zg71);rintro e w65 ⟨rfl,hi,hb,hk⟩;refine ⟨_,rfl,?_⟩;have n0_:=Aside0.mk (Kd.N_mono (Kd.N_keep (Kd.N_mono (ok:=fun k_=>(((w.heap.size≤k_))∧k_≠g)) (zN HO151.out) (fun k_ hk_=>(⟨hk_,hk_.2⟩:_∧k_≠g))) hk (fun _ h=>h.2)) (fun _ h=>h.1));have n1_:=Aside0.mk (KeepBut.trans zhk hk (.inl rfl));have n2_:=Aside0.mk (hb);have n3_:=Aside0.mk (hi);clear HO151;clear HK;clear HB;clear HI0;have HO151:=n0_;have HK:=n1_;have HB:=n2_;have HI0:=n3_;clear n0_ n1_ n2_ n3_;(try clear hb);(try clear hb2);(try clear hk);(try clear hi))|((with_reducible refine gate_callee (f:=39) rfl ?_);refine goesL_ (some 20) rfl rfl Tryz.func39 (by kernel_rfl) rfl #[.pointer (some ⟨g,0,none⟩),.int .i64 40] rfl zar ?_;(with_reducible refine (spec_l12Rd_pick.calls g s0_0 t154 40 t155 t156 w0 _ ?side1 ?side2 A9.out).mono ?_);(case side1=>exact zi71);(case side2=>exact zg71);rintro e w66 ⟨rfl,hi,hb,hk⟩;refine ⟨_,rfl,?_⟩;have n0_:=Aside0.mk (Kd.N_mono (Kd.N_keep (Kd.N_mono (ok:=fun k_=>(((w.heap.size≤k_))∧k_≠g)) (zN HO151.out) (fun k_ hk_=>(⟨hk_,hk_.2⟩:_∧k_≠g))) hk (fun _ h=>h.2)) (fun _ h=>h.1));have n1_:=Aside0.mk (KeepBut.trans zhk hk (.inl rfl));have n2_:=Aside0.mk (hb);have n3_:=Aside0.mk (hi);clear HO151;clear HK;clear HB;clear HI0;have HO151:=n0_;have HK:=n1_;have HB:=n2_;have HI0:=n3_;clear n0_ n1_ n2_ n3_;(try clear hb);(try clear hb2);(try clear hk);(try clear hi)))
      go_ret
      exact ⟨_,by first|rfl|(simp [errW_none,errW_some] <;> rfl)|(simp [*,errW_none,errW_some] <;> rfl),by (with_reducible repeat (first|apply Kd.N_alloc|apply Kd.N_drewN|apply Kd.N_drew));exact Kd.N_mono HO151.out (fun _ hk=>hk.1),zi71,zg71,zhk⟩

/-! ### spec_l12Open: function 19 -/
def spec_l12Open.f (l0:List Int):Option (List Int × Int):=if (l0.length:Int) > 2000 then (if 2000≤(l0.length:Int) then (some (l0.take 2000,0)) else (none)) else (some (l0,0))
set_option maxHeartbeats 8000000 in
set_option maxRecDepth 100000 in
theorem spec_l12Open.calls (A0:Option Addr) (c0:Nat) (l0:List Int) (r1:List Int) (r2:Int) (w0 w:World) (hB:Below w0.heap.size w0 w) (hr0:Kd.C (Kd.int .u8) w0 A0 l0.length l0) (hc0:l0.length≤c0) (h:spec_l12Open.f l0=some (r1,r2)) :
  Calls Tryz.prog 19 #[.slice A0 l0.length c0] w fun e w'=>∃ g_:Nat,e=.returned (.pointer (some ⟨g_,0,none⟩))∧IsS71 w0 w' g_ r1 r2∧Below w0.heap.size w0 w'∧Below w.heap.size w w':=by
 have hu71:=Tryz.underlying71
 have HR0:=Aside0.mk hr0
 have HC0:=Aside0.mk hc0
 clear hr0 hc0
 have HBW:=Aside0.mk (Below.refl w.heap.size w)
 have HW0:=Aside0.mk hB.size
 have HB:=Aside0.mk hB
 clear hB
 have H:(if (l0.length:Int) > 2000 then (if 2000≤(l0.length:Int) then (some (l0.take 2000,0)) else (none)) else (some (l0,0)))=some (r1,r2):=h
 clear h
 by_cases c2:(l0.length:Int) > 2000
 ·rw [if_pos c2] at H
  have c2b0:decide (2000 < (l0.length:Int))=true:=decide_eq_true c2
  have c2b1:decide (2000 < l0.length)=true:=decide_eq_true (by omega)
  clear c2
  by_cases c3:2000≤(l0.length:Int)
  ·rw [if_pos c3] at H
   have c3b0:=eq_true c3
   have c3b1:decide (2000≤(l0.length:Int))=true:=decide_eq_true c3
   clear c3
   simp only [Option.some.injEq,Prod.mk.injEq] at H
   obtain ⟨rfl,rfl⟩:=H
   obtain ⟨i04,hi04,_,hsz4,_⟩:=info_parts info5
   obtain ⟨hcut4,hA4,hC4⟩:=print_take_of (P:=Tryz.prog) (Value.int .u8) 0 22 5 .i64 Tryz.underlying22 hi04 hsz4 A0 c0 l0 2000 (by omega) (zod) HC0.out
   have HR177:=Aside0.mk (Kd.C_of_reads (h1:=fun _=>rfl) (hA4 _ (Kd.reads_of_C HR0.out)))
   have HC177:=Aside0.mk hC4
   clear hA4 hC4 hi04 hsz4
   go_enter Tryz.func19,Tryz.ntmps19
   go_wp2_with (first|((with_reducible refine gate_dst (N:=10) rfl ?_);refine box_event ?hg (N:=10) ?hd (cs:=#[.slice A0 (l0.take 2000).length c0,.int .i64 0]) (t:=71) ?hr ?_;(case hd=>rfl);(case hg=>rfl);(case hr=>first|(go_simp;done)|(go_simp;rfl));intro gb178 hg w5 hbox hb;have n0_:=Aside0.mk (below_step HBW.out hb);have n1_:=Aside0.mk (below_step zhb hb);have n2_:=Aside0.mk (hbox);have n3_:=Aside0.mk ((by rw [hg];exact (below_size (by repeat (first|(with_reducible first|exact HBW.out|apply below_alloc|apply pw_below_drewN|apply below_drew1)|exact HBW.out))):w.heap.size≤gb178));have n4_:=Aside0.mk ((Nat.le_trans HW0.out (by rw [hg];exact (below_size (by repeat (first|(with_reducible first|exact HBW.out|apply below_alloc|apply pw_below_drewN|apply below_drew1)|exact HBW.out))):w.heap.size≤gb178):w0.heap.size≤gb178));clear HBW;clear HB;have HBW:=n0_;have HB:=n1_;have BK178:=n2_;have GW178:=n3_;have GE178:=n4_;clear n0_ n1_ n2_ n3_ n4_;clear hb hbox hg))
   go_ret
   exact ⟨_,rfl,(show IsS71 w0 _ gb178 (l0.take 2000) 0 from ⟨_,_,by (with_reducible repeat (first|refine blk_drewN ?_ _|refine blk_drew ?_|refine blk_alloc ?_ _));exact BK178.out,GE178.out,HR177.out⟩),by repeat (first|(with_reducible first|exact HB.out|apply below_alloc|apply pw_below_drewN|apply below_drew1|refine below_set ?_ GE178.out)|exact HB.out),by repeat (first|(with_reducible first|exact HBW.out|apply below_alloc|apply pw_below_drewN|apply below_drew1|refine below_set ?_ GW178.out)|exact HBW.out)⟩
  ·rw [if_neg c3] at H
   exact absurd H (by simp)
 ·rw [if_neg c2] at H
  have c2b0:decide (2000 < (l0.length:Int))=false:=decide_eq_false c2
  have c2b1:decide (2000 < l0.length)=false:=decide_eq_false (by omega)
  clear c2
  simp only [Option.some.injEq,Prod.mk.injEq] at H
  obtain ⟨rfl,rfl⟩:=H
  go_enter Tryz.func19,Tryz.ntmps19
  go_wp2_with (first|((with_reducible refine gate_dst (N:=10) rfl ?_);refine box_event ?hg (N:=10) ?hd (cs:=#[.slice A0 l0.length c0,.int .i64 0]) (t:=71) ?hr ?_;(case hd=>rfl);(case hg=>rfl);(case hr=>first|(go_simp;done)|(go_simp;rfl));intro gb179 hg w6 hbox hb;have n0_:=Aside0.mk (below_step HBW.out hb);have n1_:=Aside0.mk (below_step zhb hb);have n2_:=Aside0.mk (hbox);have n3_:=Aside0.mk ((by rw [hg];exact (below_size (by repeat (first|(with_reducible first|exact HBW.out|apply below_alloc|apply pw_below_drewN|apply below_drew1)|exact HBW.out))):w.heap.size≤gb179));have n4_:=Aside0.mk ((Nat.le_trans HW0.out (by rw [hg];exact (below_size (by repeat (first|(with_reducible first|exact HBW.out|apply below_alloc|apply pw_below_drewN|apply below_drew1)|exact HBW.out))):w.heap.size≤gb179):w0.heap.size≤gb179));clear HBW;clear HB;have HBW:=n0_;have HB:=n1_;have BK179:=n2_;have GW179:=n3_;have GE179:=n4_;clear n0_ n1_ n2_ n3_ n4_;clear hb hbox hg))
  go_ret
  exact ⟨_,rfl,(show IsS71 w0 _ gb179 l0 0 from ⟨_,_,by (with_reducible repeat (first|refine blk_drewN ?_ _|refine blk_drew ?_|refine blk_alloc ?_ _));exact BK179.out,GE179.out,HR0.out⟩),by repeat (first|(with_reducible first|exact HB.out|apply below_alloc|apply pw_below_drewN|apply below_drew1|refine below_set ?_ GE179.out)|exact HB.out),by repeat (first|(with_reducible first|exact HBW.out|apply below_alloc|apply pw_below_drewN|apply below_drew1|refine below_set ?_ GW179.out)|exact HBW.out)⟩

/-! ### spec_DrawZText: function 5 -/
def spec_DrawZText.f (k:Nat) (l0:List Int):Option ((List (S33))):=(spec_l12Open.f l0).bind fun bt180=>((spec_l2Bent.f k bt180.1 bt180.2).bind fun bt183=>(some bt183.1))
theorem spec_DrawZText.mono : ∀ a0 k,LeO (spec_DrawZText.f k a0) (spec_DrawZText.f (k + 1) a0):=by
 intro a0 k
 unfold spec_DrawZText.f
 repeat' first
   | (with_reducible exact spec_l2Bent.mono _ _ _)
   | (with_reducible exact LeO.refl _)
   | (with_reducible exact LeO.none _)
   | (with_reducible refine LeO.ite ?_ ?_)
   | (with_reducible refine LeO.bind ?_ (fun _=>?_))
   | exact LeO.none _
   | refine LeO.ite ?_ ?_
   | refine LeO.bind ?_ (fun _=>?_)
set_option maxHeartbeats 8000000 in
set_option maxRecDepth 100000 in
theorem spec_DrawZText.calls (k:Nat) (A0:Option Addr) (c0:Nat) (l0:List Int) (r:List (S33)) (w:World) (hr0:Kd.C (Kd.int .u8) w A0 l0.length l0) (hc0:l0.length≤c0) (h:spec_DrawZText.f k l0=some r) :
  Calls Tryz.prog 5 #[.slice A0 l0.length c0] w fun e w'=>∃ v0_:Value,e=.returned (v0_)∧Kd.N k33 33 w' w.heap.size (fun k_=>(w.heap.size≤k_)) v0_ r∧Below w.heap.size w w':=by
 have HR0:=Aside0.mk hr0
 have HC0:=Aside0.mk hc0
 clear hr0 hc0
 have HB:=Aside0.mk (Below.refl w.heap.size w)
 have H:((spec_l12Open.f l0).bind fun bt180=>((spec_l2Bent.f k bt180.1 bt180.2).bind fun bt183=>(some bt183.1)))=some r:=h
 clear h
 replace H:=Option.bind_eq_some_iff.mp H
 obtain ⟨⟨t180,t181⟩,A20,H⟩:=H
 (try dsimp only at H)
 have A2:=Aside0.mk A20
 clear A20
 replace H:=Option.bind_eq_some_iff.mp H
 obtain ⟨⟨t183,t186⟩,A30,H⟩:=H
 (try dsimp only at H)
 have A3:=Aside0.mk A30
 clear A30
 obtain rfl:=Option.some.inj H
 go_enter Tryz.func5,Tryz.ntmps5
 go_wp2_with (first|((with_reducible refine gate_callee (f:=19) rfl ?_);refine goesL_ (some 4) rfl rfl Tryz.func19 (by kernel_rfl) rfl #[.slice A0 l0.length c0] rfl zar ?_;(with_reducible refine (spec_l12Open.calls _ _ l0 t180 t181 w _ ?side1 ?side2 ?side3 A2.out).mono ?_);(case side1=>exact zhb);(case side2=>exact HR0.out);(case side3=>exact HC0.out);rintro e w4 ⟨g182,rfl,hi,hb,hb2⟩;refine ⟨_,rfl,?_⟩;have n0_:=Aside0.mk (hb);have n1_:=Aside0.mk (hi);clear HB;have HB:=n0_;have HI182:=n1_;clear n0_ n1_;(try clear hb);(try clear hb2);(try clear hk);(try clear hi))|((with_reducible refine gate_callee (f:=18) rfl ?_);refine goesL_ (some 5) rfl rfl Tryz.func18 (by kernel_rfl) rfl #[.pointer (some ⟨g182,0,none⟩)] rfl zar ?_;(with_reducible refine (spec_l2Bent.calls k g182 t180 t181 t183 t186 w _ ?side1 ?side2 A3.out).mono ?_);(case side1=>repeat (first|(with_reducible first|exact HI182.out|apply IsS71.alloc|apply IsS71.drewN|apply IsS71.drew|apply IsS71.set_1)|exact HI182.out));(case side2=>repeat (first|(with_reducible first|exact HB.out|apply below_alloc|apply pw_below_drewN|apply below_drew1|refine below_set ?_ (IsS71.ge HI182.out))|exact HB.out));rintro e w5 ⟨v184,rfl,ho0,hi,hb,hk⟩;refine ⟨_,rfl,?_⟩;have n0_:=Aside0.mk (Kd.N_lower (Kd.N_mono (ok':=fun k_=>(w.heap.size≤k_)∧k_≠g182) ho0 (fun k_ hk_=>⟨(Nat.le_trans (below_size (by repeat (first|(with_reducible first|exact HB.out|apply below_alloc|apply pw_below_drewN|apply below_drew1|refine below_set ?_ (IsS71.ge HI182.out))|exact HB.out))) hk_),(IsS71.fresh (by repeat (first|(with_reducible first|exact HI182.out|apply IsS71.alloc|apply IsS71.drewN|apply IsS71.drew|apply IsS71.set_1)|exact HI182.out)) k_ hk_)⟩)) (below_size (by repeat (first|(with_reducible first|exact HB.out|apply below_alloc|apply pw_below_drewN|apply below_drew1|refine below_set ?_ (IsS71.ge HI182.out))|exact HB.out))));have n1_:=Aside0.mk (hb);have n2_:=Aside0.mk (hi);clear HB;clear HI182;have HO185:=n0_;have HB:=n1_;have HI182:=n2_;clear n0_ n1_ n2_;(try clear hb);(try clear hb2);(try clear hk);(try clear hi);(try clear ho0)))
 go_ret
 exact ⟨_,by first|rfl|(simp [errW_none,errW_some] <;> rfl)|(simp [*,errW_none,errW_some] <;> rfl),by (with_reducible repeat (first|apply Kd.N_alloc|apply Kd.N_drewN|apply Kd.N_drew));exact Kd.N_mono HO185.out (fun _ hk=>hk.1),by repeat (first|(with_reducible first|exact HB.out|apply below_alloc|apply pw_below_drewN|apply below_drew1|refine below_set ?_ (IsS71.ge HI182.out))|exact HB.out)⟩

/-! ### cmp_isNaN_int: function 89 -/
def cmp_isNaN_int.f (a0:Int):Option (Bool):=some (a0 != a0)
set_option maxHeartbeats 8000000 in
set_option maxRecDepth 100000 in
theorem cmp_isNaN_int.calls (a0:Int) (r:Bool) (w:World) (h:cmp_isNaN_int.f a0=some r) :
  Calls Tryz.prog 89 #[.int .i64 a0] w fun e w'=>e=.returned (.bool r)∧Drawn0 w w':=by
 have H:(some (a0 != a0))=some r:=h
 clear h
 obtain rfl:=Option.some.inj H
 go_enter Tryz.func89,Tryz.ntmps89
 go_wp2
 go_ret
 exact ⟨by first|rfl|(simp;done)|(simp [*];done),zdw⟩

/-! ### cmp_Compare_int: function 66 -/
def cmp_Compare_int.f (a0:Int) (a1:Int):Option (Int):=(cmp_isNaN_int.f a0).bind fun t187=>((cmp_isNaN_int.f a1).bind fun t188=>(if t187=true then (if t188=true then (some 0) else (some (-1))) else (if t188=true then (some 1) else (if a0 < a1 then (some (-1)) else (if a0 > a1 then (some 1) else (some 0))))))
set_option maxHeartbeats 8000000 in
set_option maxRecDepth 100000 in
theorem cmp_Compare_int.calls (a0:Int) (a1:Int) (r:Int) (w:World) (h:cmp_Compare_int.f a0 a1=some r) :
  Calls Tryz.prog 66 #[.int .i64 a0,.int .i64 a1] w fun e w'=>e=.returned (.int .i64 r)∧Drawn0 w w':=by
 have H:((cmp_isNaN_int.f a0).bind fun t187=>((cmp_isNaN_int.f a1).bind fun t188=>(if t187=true then (if t188=true then (some 0) else (some (-1))) else (if t188=true then (some 1) else (if a0 < a1 then (some (-1)) else (if a0 > a1 then (some 1) else (some 0)))))))=some r:=h
 clear h
 replace H:=Option.bind_eq_some_iff.mp H
 obtain ⟨t187,A30,H⟩:=H
 (try dsimp only at H)
 have A3:=Aside0.mk A30
 clear A30
 replace H:=Option.bind_eq_some_iff.mp H
 obtain ⟨t188,A40,H⟩:=H
 (try dsimp only at H)
 have A4:=Aside0.mk A40
 clear A40
 by_cases c5:t187=true
 ·subst c5
  have H1:(if t188=true then (some 0) else (some (-1)))=some r:=by rw [if_pos rfl] at H;exact H
  clear H
  have H:=H1
  clear H1
  by_cases c6:t188=true
  ·subst c6
   have H1:(some 0)=some r:=by rw [if_pos rfl] at H;exact H
   clear H
   have H:=H1
   clear H1
   obtain rfl:=Option.some.inj H
   go_enter Tryz.func66,Tryz.ntmps66
   go_wp2_with (first|((with_reducible refine gate_callee (f:=89) rfl ?_);refine goesL_ (some 8) rfl rfl Tryz.func89 (by kernel_rfl) rfl #[.int .i64 a0] rfl zar ?_;(with_reducible refine (cmp_isNaN_int.calls a0 true _ A3.out).mono ?_);rintro e w' ⟨rfl,⟨nd,rfl⟩⟩;refine ⟨_,rfl,?_⟩)|((with_reducible refine gate_callee (f:=89) rfl ?_);refine goesL_ (some 10) rfl rfl Tryz.func89 (by kernel_rfl) rfl #[.int .i64 a1] rfl zar ?_;(with_reducible refine (cmp_isNaN_int.calls a1 true _ A4.out).mono ?_);rintro e w' ⟨rfl,⟨nd,rfl⟩⟩;refine ⟨_,rfl,?_⟩))
   go_ret
   exact ⟨by first|rfl|(simp;done)|(simp [*];done),zdw⟩
  ·replace c6:=Bool.eq_false_iff.mpr c6
   subst c6
   have H1:(some (-1))=some r:=by rw [if_neg (show ¬ (false=true) by decide)] at H;exact H
   clear H
   have H:=H1
   clear H1
   obtain rfl:=Option.some.inj H
   go_enter Tryz.func66,Tryz.ntmps66
   go_wp2_with (first|((with_reducible refine gate_callee (f:=89) rfl ?_);refine goesL_ (some 8) rfl rfl Tryz.func89 (by kernel_rfl) rfl #[.int .i64 a0] rfl zar ?_;(with_reducible refine (cmp_isNaN_int.calls a0 true _ A3.out).mono ?_);rintro e w' ⟨rfl,⟨nd,rfl⟩⟩;refine ⟨_,rfl,?_⟩)|((with_reducible refine gate_callee (f:=89) rfl ?_);refine goesL_ (some 10) rfl rfl Tryz.func89 (by kernel_rfl) rfl #[.int .i64 a1] rfl zar ?_;(with_reducible refine (cmp_isNaN_int.calls a1 false _ A4.out).mono ?_);rintro e w' ⟨rfl,⟨nd,rfl⟩⟩;refine ⟨_,rfl,?_⟩))
   go_ret
   exact ⟨by first|rfl|(simp;done)|(simp [*];done),zdw⟩
 ·replace c5:=Bool.eq_false_iff.mpr c5
  subst c5
  have H1:(if t188=true then (some 1) else (if a0 < a1 then (some (-1)) else (if a0 > a1 then (some 1) else (some 0))))=some r:=by rw [if_neg (show ¬ (false=true) by decide)] at H;exact H
  clear H
  have H:=H1
  clear H1
  by_cases c7:t188=true
  ·subst c7
   have H1:(some 1)=some r:=by rw [if_pos rfl] at H;exact H
   clear H
   have H:=H1
   clear H1
   obtain rfl:=Option.some.inj H
   go_enter Tryz.func66,Tryz.ntmps66
   go_wp2_with (first|((with_reducible refine gate_callee (f:=89) rfl ?_);refine goesL_ (some 8) rfl rfl Tryz.func89 (by kernel_rfl) rfl #[.int .i64 a0] rfl zar ?_;(with_reducible refine (cmp_isNaN_int.calls a0 false _ A3.out).mono ?_);rintro e w' ⟨rfl,⟨nd,rfl⟩⟩;refine ⟨_,rfl,?_⟩)|((with_reducible refine gate_callee (f:=89) rfl ?_);refine goesL_ (some 10) rfl rfl Tryz.func89 (by kernel_rfl) rfl #[.int .i64 a1] rfl zar ?_;(with_reducible refine (cmp_isNaN_int.calls a1 true _ A4.out).mono ?_);rintro e w' ⟨rfl,⟨nd,rfl⟩⟩;refine ⟨_,rfl,?_⟩))
   go_ret
   exact ⟨by first|rfl|(simp;done)|(simp [*];done),zdw⟩
  ·replace c7:=Bool.eq_false_iff.mpr c7
   subst c7
   have H1:(if a0 < a1 then (some (-1)) else (if a0 > a1 then (some 1) else (some 0)))=some r:=by rw [if_neg (show ¬ (false=true) by decide)] at H;exact H
   clear H
   have H:=H1
   clear H1
   by_cases c8:a0 < a1
   ·rw [if_pos c8] at H
    have c8b0:decide (a0 < a1)=true:=decide_eq_true c8
    clear c8
    obtain rfl:=Option.some.inj H
    go_enter Tryz.func66,Tryz.ntmps66
    go_wp2_with (first|((with_reducible refine gate_callee (f:=89) rfl ?_);refine goesL_ (some 8) rfl rfl Tryz.func89 (by kernel_rfl) rfl #[.int .i64 a0] rfl zar ?_;(with_reducible refine (cmp_isNaN_int.calls a0 false _ A3.out).mono ?_);rintro e w' ⟨rfl,⟨nd,rfl⟩⟩;refine ⟨_,rfl,?_⟩)|((with_reducible refine gate_callee (f:=89) rfl ?_);refine goesL_ (some 10) rfl rfl Tryz.func89 (by kernel_rfl) rfl #[.int .i64 a1] rfl zar ?_;(with_reducible refine (cmp_isNaN_int.calls a1 false _ A4.out).mono ?_);rintro e w' ⟨rfl,⟨nd,rfl⟩⟩;refine ⟨_,rfl,?_⟩))
    go_ret
    exact ⟨by first|rfl|(simp;done)|(simp [*];done),zdw⟩
   ·rw [if_neg c8] at H
    have c8b0:decide (a0 < a1)=false:=decide_eq_false c8
    clear c8
    by_cases c9:a0 > a1
    ·rw [if_pos c9] at H
     have c9b0:decide (a1 < a0)=true:=decide_eq_true c9
     clear c9
     obtain rfl:=Option.some.inj H
     go_enter Tryz.func66,Tryz.ntmps66
     go_wp2_with (first|((with_reducible refine gate_callee (f:=89) rfl ?_);refine goesL_ (some 8) rfl rfl Tryz.func89 (by kernel_rfl) rfl #[.int .i64 a0] rfl zar ?_;(with_reducible refine (cmp_isNaN_int.calls a0 false _ A3.out).mono ?_);rintro e w' ⟨rfl,⟨nd,rfl⟩⟩;refine ⟨_,rfl,?_⟩)|((with_reducible refine gate_callee (f:=89) rfl ?_);refine goesL_ (some 10) rfl rfl Tryz.func89 (by kernel_rfl) rfl #[.int .i64 a1] rfl zar ?_;(with_reducible refine (cmp_isNaN_int.calls a1 false _ A4.out).mono ?_);rintro e w' ⟨rfl,⟨nd,rfl⟩⟩;refine ⟨_,rfl,?_⟩))
     go_ret
     exact ⟨by first|rfl|(simp;done)|(simp [*];done),zdw⟩
    ·rw [if_neg c9] at H
     have c9b0:decide (a1 < a0)=false:=decide_eq_false c9
     clear c9
     obtain rfl:=Option.some.inj H
     go_enter Tryz.func66,Tryz.ntmps66
     go_wp2_with (first|((with_reducible refine gate_callee (f:=89) rfl ?_);refine goesL_ (some 8) rfl rfl Tryz.func89 (by kernel_rfl) rfl #[.int .i64 a0] rfl zar ?_;(with_reducible refine (cmp_isNaN_int.calls a0 false _ A3.out).mono ?_);rintro e w' ⟨rfl,⟨nd,rfl⟩⟩;refine ⟨_,rfl,?_⟩)|((with_reducible refine gate_callee (f:=89) rfl ?_);refine goesL_ (some 10) rfl rfl Tryz.func89 (by kernel_rfl) rfl #[.int .i64 a1] rfl zar ?_;(with_reducible refine (cmp_isNaN_int.calls a1 false _ A4.out).mono ?_);rintro e w' ⟨rfl,⟨nd,rfl⟩⟩;refine ⟨_,rfl,?_⟩))
     go_ret
     exact ⟨by first|rfl|(simp;done)|(simp [*];done),zdw⟩

end Go.Proofs.YtgcplipimcbhlaaGreatDoor.PFnZRead
