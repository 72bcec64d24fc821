-- Written by wip/tools/pp.py, a program of this session over the kit's printer: not the kit's own print
import Derived.Test.YtaifnkapbffmaaaPFnZx0
import Derived.Test.YtaifnkapbffmaaaPFnZx2
import Derived.Test.YtaifnkapbffmaaaPFnZx3
import Derived.Test.YtaifnkapbffmaaaPFnZx4
namespace Go.Proofs.Ytaifnkapbffmaaa.PFnZ
open Go.RowKit Go.Proofs.YtaifnkapbffmaaaW.PrintWords Go.Proofs.YtaifnkapbffmaaaW.PrintLast Go.Proofs.YtaifnkapbffmaaaW.PrintMore
attribute [local go_sem] max2_int min2_int max_two min_two max_three min_three max_four min_four   -- for this text's walks alone
set_option linter.unusedVariables false
set_option linter.unusedSimpArgs false

/-! ### spec_l2Add: function 51 -/
def spec_l2Add.l0:Nat→List (S54)→List (S54)→Int→Option ((List (S54)))
 | 0,_,_,_=>none
 | k + 1,x1,x5,x6=>if x6 < (x1.length:Int) then (if 0≤x6 then ((spec_l2Put.f k x5 ((rd_T54 x1 x6).f0) ((rd_T54 x1 x6).f1)).bind fun t142=>(spec_l2Add.l0 k x1 t142 (wrap64 (x6 + 1)))) else (none)) else (some x5)
def spec_l2Add.f (k:Nat) (l0:List (S54)) (l1:List (S54)):Option ((List (S54))):=(spec_l2Copy.f k l0).bind fun t137=>(spec_l2Add.l0 k l1 t137 0)
theorem spec_l2Add.mono_l : ∀ k,(∀ y0 y1 y2,LeO (spec_l2Add.l0 k y0 y1 y2) (spec_l2Add.l0 (k + 1) y0 y1 y2))
 | 0=>fun _ _ _ r h=>by simp [spec_l2Add.l0] at h
 | k + 1=>by
  have ih0:=spec_l2Add.mono_l k
  ·intro y0 y1 y2
   unfold spec_l2Add.l0
   repeat' first
   | (with_reducible exact ih0 _ _ _)
   | (with_reducible exact spec_l2Copy.mono _ _)
   | (with_reducible exact spec_l2Put.mono _ _ _ _)
   | (with_reducible exact LeO.refl _)
   | (with_reducible exact LeO.none _)
   | (with_reducible refine LeO.ite ?_ ?_)
   | (with_reducible refine LeO.bind ?_ (fun _=>?_))
   | exact LeO.none _
   | refine LeO.ite ?_ ?_
   | refine LeO.bind ?_ (fun _=>?_)
theorem spec_l2Add.mono : ∀ a0 a1 k,LeO (spec_l2Add.f k a0 a1) (spec_l2Add.f (k + 1) a0 a1):=by
 intro a0 a1 k
 have ih0:=spec_l2Add.mono_l k
 unfold spec_l2Add.f
 repeat' first
   | (with_reducible exact ih0 _ _ _)
   | (with_reducible exact spec_l2Copy.mono _ _)
   | (with_reducible exact spec_l2Put.mono _ _ _ _)
   | (with_reducible exact LeO.refl _)
   | (with_reducible exact LeO.none _)
   | (with_reducible refine LeO.ite ?_ ?_)
   | (with_reducible refine LeO.bind ?_ (fun _=>?_))
   | exact LeO.none _
   | refine LeO.ite ?_ ?_
   | refine LeO.bind ?_ (fun _=>?_)
def spec_l2Add.T5:Bool × List (List Nat × List Nat):=(true,[([],[]),([],[]),([],[]),([1,2],[1,2]),([3],[3]),([4],[4]),([],[]),([],[]),([6,7],[6,7]),([8],[8]),([9],[9]),([0,5,10],[0,5,10]),([11,11,0,1,2,3,4,5,6,7,8,9,10,11],[0,11])])
def spec_l2Add.B5:List Nat:=[0,0,0,6,14,30,0,0,192,448,960,2047,4095]
theorem spec_l2Add.tab5:rtab .any (opsOf Try.f51 5)=spec_l2Add.T5:=by kernel_rfl
theorem spec_l2Add.bits5:waitsOk spec_l2Add.T5.2 spec_l2Add.B5=true:=by kernel_rfl
set_option maxHeartbeats 8000000 in
set_option maxRecDepth 100000 in
theorem spec_l2Add.calls (k:Nat) (A0:Option Addr) (c0:Nat) (l0:List (S54)) (A1:Option Addr) (c1:Nat) (l1:List (S54)) (r:List (S54)) (w:World) (hr0:Kd.C k54 w A0 l0.length l0) (hc0:l0.length≤c0) (hr1:Kd.C k54 w A1 l1.length l1) (hc1:l1.length≤c1) (h:spec_l2Add.f k l0 l1=some r) :
  Calls Try.prog 51 #[.slice A0 l0.length c0,.slice A1 l1.length c1] w fun e w'=>∃ v0_:Value,e=.returned (v0_)∧Kd.N k54 54 w' w.heap.size (fun k_=>(w.heap.size≤k_)) v0_ r∧Below w.heap.size w w':=by
 have HR0:=Aside0.mk hr0
 have HC0:=Aside0.mk hc0
 clear hr0 hc0
 have HR1:=Aside0.mk hr1
 have HC1:=Aside0.mk hc1
 clear hr1 hc1
 have HB:=Aside0.mk (Below.refl w.heap.size w)
 have H:((spec_l2Copy.f k l0).bind fun t137=>(spec_l2Add.l0 k l1 t137 0))=some r:=h
 clear h
 replace H:=Option.bind_eq_some_iff.mp H
 obtain ⟨t137,A30,H⟩:=H
 (try dsimp only at H)
 have A3:=Aside0.mk A30
 clear A30
 have H':=Aside0.mk H
 clear H
 go_enter Try.func51,Try.ntmps51
 go_wp2_with (first|((with_reducible refine gate_callee (f:=106) rfl ?_);refine goesL_ (some 8) rfl rfl Try.func106 (by kernel_rfl) rfl #[.slice A0 l0.length c0] rfl zar ?_;(with_reducible refine (spec_l2Copy.calls k _ _ l0 t137 _ ?side1 ?side2 A3.out).mono ?_);(case side1=>exact zC HR0.out);(case side2=>exact HC0.out);rintro e w4 ⟨v138,rfl,ho0,hb⟩;refine ⟨_,rfl,?_⟩;have n0_:=Aside0.mk (Kd.N_lower (Kd.N_mono (ok':=fun k_=>(w.heap.size≤k_)) (Kd.S_N (Kd.S_bound ho0)) (fun k_ hk_=>(Nat.le_trans (below_size zhb) hk_.2.1))) (below_size zhb));have n1_:=Aside0.mk (below_step zhb hb);clear HB;have HO139:=n0_;have HB:=n1_;clear n0_ n1_;(try clear hb);(try clear hb2);(try clear hk);(try clear hi);(try clear ho0)))
 go_loopg [5,6] k (fun kq v5 v6 w'=>∃ (x5_1:List (S54)) (x6_1:Int),v6=.int .i64 x6_1∧Aside0 (spec_l2Add.l0 kq l1 x5_1 x6_1=some r)∧Aside0 (kq≤k)∧Aside0 (Kd.N k54 54 w' w.heap.size (fun k_=>(w.heap.size≤k_)) v5 x5_1)∧Aside0 (Below w.heap.size w w'))
 case atStart=>exact ⟨(t137),(0),(by first|rfl|(simp;done)|(simp [*];done)),H',⟨Nat.le_refl _⟩,⟨by (with_reducible repeat (first|apply Kd.N_alloc|apply Kd.N_drewN|apply Kd.N_drew));exact HO139.out⟩,⟨zhb⟩⟩
 case round =>
  clear H'
  try clear c1
  try clear p2
  obtain ⟨x5_1,x6_1,rfl,HA,HK1,HO_5,HB⟩:=hrel
  cases gk with
  | zero=>exact absurd HA.out (by simp [spec_l2Add.l0])
  | succ k1 =>
   have H:=HA.out
   clear HA
   simp only [spec_l2Add.l0] at H
   by_cases c5:x6_1 < (l1.length:Int)
   ·rw [if_pos c5] at H
    have c5b0:decide (x6_1 < (l1.length:Int))=true:=decide_eq_true c5
    clear c5
    by_cases c6:0≤x6_1
    ·rw [if_pos c6] at H
     have c6b0:decide (0≤x6_1)=true:=decide_eq_true c6
     clear c6
     replace H:=Option.bind_eq_some_iff.mp H
     obtain ⟨t142,A70,H⟩:=H
     (try dsimp only at H)
     have A7:=Aside0.mk A70
     clear A70
     have H':=Aside0.mk H
     clear H
     try go_wp2
     have n0_:=Aside0.mk (Kd.N_drew HO_5.out)
     have n1_:=Aside0.mk (below_drew1 HB.out)
     clear HO_5
     clear HB
     have HO_5:=n0_
     have HB:=n1_
     clear n0_ n1_
     have p140:0≤(x6_1:Int):=zod
     have q140:x6_1 < (l1.length:Int):=zod
     obtain ⟨ad140,A140_0,c140_0,e140,hx140_0,hx140_1,hl140_0,hi140_0⟩:=at_T54 HR1.out x6_1 p140 q140
     have hw140_1:=hx140_1
     have hw140_0:=hx140_0
     cases e140
     replace hx140_0:=(HB.out.cell (World.block_lt_of_cell? w _ hx140_0)).trans hx140_0
     replace hx140_1:=(HB.out.cell (World.block_lt_of_cell? w _ hx140_1)).trans hx140_1
     have HR140_0:=Aside0.mk hi140_0
     have HC140_0:=Aside0.mk hl140_0
     clear hi140_0 hl140_0
     replace p140:=eq_true p140
     replace q140:=eq_true q140
     have p141:0≤(x6_1:Int):=zod
     have q141:x6_1 < (l1.length:Int):=zod
     obtain ⟨ad141,A141_0,c141_0,e141,hx141_0,hx141_1,hl141_0,hi141_0⟩:=at_T54 HR1.out x6_1 p141 q141
     have hw141_1:=hx141_1
     have hw141_0:=hx141_0
     obtain rfl:ad140=ad141:=(by injection e141)
     replace hx141_0:=(HB.out.cell (World.block_lt_of_cell? w _ hx141_0)).trans hx141_0
     replace hx141_1:=(HB.out.cell (World.block_lt_of_cell? w _ hx141_1)).trans hx141_1
     have HR141_0:=Aside0.mk hi141_0
     have HC141_0:=Aside0.mk hl141_0
     clear hi141_0 hl141_0
     replace p141:=eq_true p141
     replace q141:=eq_true q141
     have ea_:=Option.some.inj (hx140_0.symm.trans hx141_0)
     injection ea_ with ea_ en_ ec_
     subst ea_
     subst ec_
     clear en_
     obtain ⟨Ao9,co9,eo9⟩:=Kd.N_slice HO_5.out
     (first|subst eo9|(injection eo9 with f1_ f2_ f3_;have f4_:=f1_.symm;have f5_:=f3_.symm;clear f1_ f2_ f3_;subst f4_;subst f5_))
     refine start_ (n:=13) (S:=fun w'=>w'.cell? (ad140.add ((x6_1).toNat * 2))=some (.slice A140_0 ((rd_T54 l1 x6_1).f0).length c140_0)∧w'.cell? ⟨(ad140.add ((x6_1).toNat * 2)).block,(ad140.add ((x6_1).toNat * 2)).off + 1,none⟩=some (.int .i64 ((rd_T54 l1 x6_1).f1))∧w'.cell? (ad140.add ((x6_1).toNat * 2))=some (.slice A140_0 ((rd_T54 l1 x6_1).f0).length c140_0)∧w'.cell? ⟨(ad140.add ((x6_1).toNat * 2)).block,(ad140.add ((x6_1).toNat * 2)).off + 1,none⟩=some (.int .i64 ((rd_T54 l1 x6_1).f1))) (ds:=[]) #[X,X,X,X,X,X,X,X,X,X,X,X,X] (by kernel_rfl) rfl rfl ⟨((HB.out.cell (World.block_lt_of_cell? w _ hw140_0)).trans hw140_0),((HB.out.cell (World.block_lt_of_cell? w _ hw140_1)).trans hw140_1),((HB.out.cell (World.block_lt_of_cell? w _ hw141_0)).trans hw141_0),((HB.out.cell (World.block_lt_of_cell? w _ hw141_1)).trans hw141_1)⟩ (fun hHeld=>?_);refine with_tabW spec_l2Add.tab5 spec_l2Add.bits5 (fun HT_ HW_=>?_)
     generalize wr.drew=w8 at HO_5 HB HR140_0 HR141_0 hx140_0 hx140_1 hx141_0 hx141_1 hHeld ⊢
     refine pure_ (i:=0) (N:=some 15) (v:=?_) (a':=?_) #[Y,X,X,X,X,X,X,X,X,X,X,X,X] rfl rfl zan (fun _ _ _ h=>h) (Or.inl ⟨by rfl,?_⟩) ?_ ?_
     rotate_left
     ·intro w'
      go_simp
      with_reducible rfl
     rotate_left
     ·simp only [Act.put,zp1,zp2,zp3,i64_w,i32_w]
      rfl
     refine pure_ (i:=1) (N:=some 16) (v:=?_) (a':=?_) #[Y,Y,X,X,X,X,X,X,X,X,X,X,X] rfl rfl zan (fun _ _ _ h=>h) (Or.inl ⟨by rfl,?_⟩) ?_ ?_
     rotate_left
     ·intro w'
      go_simp
      with_reducible rfl
     rotate_left
     ·simp only [Act.put,zp1,zp2,zp3,i64_w,i32_w]
      rfl
     refine pure_ (i:=2) (N:=some 17) (v:=?_) (a':=?_) #[Y,Y,Y,X,X,X,X,X,X,X,X,X,X] rfl rfl zan (fun _ _ _ h=>h) (Or.inl ⟨by rfl,?_⟩) ?_ ?_
     rotate_left
     ·intro w'
      go_simp
      with_reducible rfl
     rotate_left
     ·simp only [Act.put,zp1,zp2,zp3,i64_w,i32_w]
      rfl
     refine pure_ (i:=3) (N:=some 18) (v:=?_) (a':=?_) #[Y,Y,Y,Y,X,X,X,X,X,X,X,X,X] rfl rfl zan (fun _ _ _ h=>h) (Or.inl ⟨by rfl,?_⟩) ?_ ?_
     rotate_left
     ·intro w'
      go_simp
      with_reducible rfl
     rotate_left
     ·simp only [Act.put,zp1,zp2,zp3,i64_w,i32_w]
      rfl
     refine pure_ (i:=4) (N:=some 19) (v:=?_) (a':=?_) #[Y,Y,Y,Y,Y,X,X,X,X,X,X,X,X] rfl rfl zan (fun _ _ _ h=>h) (Or.inl ⟨by rfl,?_⟩) ?_ ?_
     rotate_left
     ·intro w'
      go_simp
      with_reducible rfl
     rotate_left
     ·simp only [Act.put,zp1,zp2,zp3,i64_w,i32_w]
      rfl
     refine pure_ (i:=6) (N:=some 21) (v:=?_) (a':=?_) #[Y,Y,Y,Y,Y,X,Y,X,X,X,X,X,X] rfl rfl zan (fun _ _ _ h=>h) (Or.inl ⟨by rfl,?_⟩) ?_ ?_
     rotate_left
     ·intro w'
      go_simp
      with_reducible rfl
     rotate_left
     ·simp only [Act.put,zp1,zp2,zp3,i64_w,i32_w]
      rfl
     refine pure_ (i:=7) (N:=some 22) (v:=?_) (a':=?_) #[Y,Y,Y,Y,Y,X,Y,Y,X,X,X,X,X] rfl rfl zan (fun _ _ _ h=>h) (Or.inl ⟨by rfl,?_⟩) ?_ ?_
     rotate_left
     ·intro w'
      go_simp
      with_reducible rfl
     rotate_left
     ·simp only [Act.put,zp1,zp2,zp3,i64_w,i32_w]
      rfl
     refine pure_ (i:=8) (N:=some 23) (v:=?_) (a':=?_) #[Y,Y,Y,Y,Y,X,Y,Y,Y,X,X,X,X] rfl rfl zan (fun _ _ _ h=>h) (Or.inl ⟨by rfl,?_⟩) ?_ ?_
     rotate_left
     ·intro w'
      go_simp
      with_reducible rfl
     rotate_left
     ·simp only [Act.put,zp1,zp2,zp3,i64_w,i32_w]
      rfl
     refine pure_ (i:=9) (N:=some 24) (v:=?_) (a':=?_) #[Y,Y,Y,Y,Y,X,Y,Y,Y,Y,X,X,X] rfl rfl zan (fun _ _ _ h=>h) (Or.inl ⟨by rfl,?_⟩) ?_ ?_
     rotate_left
     ·intro w'
      go_simp
      with_reducible rfl
     rotate_left
     ·simp only [Act.put,zp1,zp2,zp3,i64_w,i32_w]
      rfl
     refine take_ (i:=5) (N:=some 20) (v:=?_) (a':=?_) #[Y,Y,Y,Y,Y,Y,Y,Y,Y,Y,X,X,X] rfl rfl ztw (fun _ _ _ h=>h) (Or.inl ⟨by rfl,?_⟩) hHeld ?_ ?_
     rotate_left
     ·rintro w' ⟨s0,s1,s2,s3⟩
      go_simp
      with_reducible rfl
     rotate_left
     ·simp only [Act.put,zp1,zp2,zp3,i64_w,i32_w]
      rfl
     refine take_ (i:=10) (N:=some 25) (v:=?_) (a':=?_) #[Y,Y,Y,Y,Y,Y,Y,Y,Y,Y,Y,X,X] rfl rfl ztw (fun _ _ _ h=>h) (Or.inl ⟨by rfl,?_⟩) hHeld ?_ ?_
     rotate_left
     ·rintro w' ⟨s0,s1,s2,s3⟩
      go_simp
      with_reducible rfl
     rotate_left
     ·simp only [Act.put,zp1,zp2,zp3,i64_w,i32_w]
      rfl
     refine one_ (i:=11) (N:=some 26) #[Y,Y,Y,Y,Y,Y,Y,Y,Y,Y,Y,Y,X] rfl rfl (one_of HT_.out (by kernel_rfl)) (by decide) (fun K hK=>?_)
     refine goes_ Try.func107 (by kernel_rfl) rfl #[.slice Ao9 x5_1.length co9,.slice A140_0 ((rd_T54 l1 x6_1).f0).length c140_0,.int .i64 ((rd_T54 l1 x6_1).f1)] (by rfl) rfl rfl zar ?_
     refine (spec_l2Put.calls k1 w.heap.size (fun k_=>(w.heap.size≤k_)) (.slice Ao9 x5_1.length co9) x5_1 _ _ ((rd_T54 l1 x6_1).f0) ((rd_T54 l1 x6_1).f1) t142 w _ ?side1 ?side2 ?side3 ?side4 ?side5 ?side6 A7.out).mono ?_
     (case side1=>exact (below_size zhb))
     (case side2=>exact zhb)
     (case side3=>exact (zN HO_5.out))
     (case side4=>exact (fun k_ hk=>(Nat.le_trans (below_size zhb) hk)))
     (case side5=>exact zC (Kd.C_below HR140_0.out HB.out))
     (case side6=>exact HC140_0.out)
     rintro e w10 ⟨v143,rfl,ho,hb,hg,hat⟩
     refine ⟨_,rfl,?_⟩
     have n0_:=Aside0.mk (hb)
     have n1_:=Aside0.mk (ho)
     clear HB
     clear HO_5
     have HB:=n0_
     have HO144:=n1_
     clear n0_ n1_
     clear ho hb hg hat
     refine hK.out _ _ ⟨((HB.out.cell (World.block_lt_of_cell? w _ hw140_0)).trans hw140_0),((HB.out.cell (World.block_lt_of_cell? w _ hw140_1)).trans hw140_1),((HB.out.cell (World.block_lt_of_cell? w _ hw141_0)).trans hw141_0),((HB.out.cell (World.block_lt_of_cell? w _ hw141_1)).trans hw141_1)⟩ (fun hHeld=>?_)
     clear hK K
     refine norm_ (a':=?_) ?_ ?_
     rotate_left
     ·show Act.put _ (some 26) _=_
      simp only [Act.put,zp1,zp2,zp3,i64_w,i32_w]
      rfl
     refine pure_ (i:=12) (N:=some 5) (v:=?_) (a':=?_) #[Y,Y,Y,Y,Y,Y,Y,Y,Y,Y,Y,Y,Y] rfl rfl zan (fun _ _ _ h=>h) (Or.inl ⟨by rfl,?_⟩) ?_ ?_
     rotate_left
     ·intro w'
      go_simp
      with_reducible rfl
     rotate_left
     ·simp only [Act.put,zp1,zp2,zp3,i64_w,i32_w]
      rfl
     refine done_ (done_of HT_.out (by kernel_rfl)) ?_
     try go_wp2
     go_roundg k1
     case measure=>have:=HK1.out;omega
     case rel=>exact ⟨(t142),(wrap64 (x6_1 + 1)),(by first|rfl|(simp;done)|(simp [*];done)),H',⟨by have:=HK1.out;omega⟩,⟨by (with_reducible repeat (first|apply Kd.N_alloc|apply Kd.N_drewN|apply Kd.N_drew));exact HO144.out⟩,⟨zhb⟩⟩
    ·rw [if_neg c6] at H
     exact absurd H (by simp)
   ·rw [if_neg c5] at H
    have c5b0:decide (x6_1 < (l1.length:Int))=false:=decide_eq_false c5
    clear c5
    obtain rfl:=Option.some.inj H
    go_wp2
    go_ret
    exact ⟨_,by first|rfl|(simp [errW_none,errW_some] <;> rfl)|(simp [*,errW_none,errW_some] <;> rfl),by (with_reducible repeat (first|apply Kd.N_alloc|apply Kd.N_drewN|apply Kd.N_drew));exact HO_5.out,zhb⟩

/-! ### spec_ZAdd: function 12 -/
def spec_ZAdd.f (k:Nat) (l0:List (S54)) (l1:List (S54)):Option ((List (S54)) × Bool):=(spec_ZOk.f k l0).bind fun t145=>(if t145=true then ((spec_ZOk.f k l1).bind fun t146=>(if t146=true then ((spec_l2Add.f k l0 l1).bind fun t147=>((spec_l2Told.f k t147).bind fun bt150=>(some (bt150.1,bt150.2)))) else (some ((([]:List (S54))),false)))) else (some ((([]:List (S54))),false)))
theorem spec_ZAdd.mono : ∀ a0 a1 k,LeO (spec_ZAdd.f k a0 a1) (spec_ZAdd.f (k + 1) a0 a1):=by
 intro a0 a1 k
 unfold spec_ZAdd.f
 repeat' first
   | (with_reducible exact spec_ZOk.mono _ _)
   | (with_reducible exact spec_l2Add.mono _ _ _)
   | (with_reducible exact spec_l2Told.mono _ _)
   | (with_reducible exact LeO.refl _)
   | (with_reducible exact LeO.none _)
   | (with_reducible refine LeO.ite ?_ ?_)
   | (with_reducible refine LeO.bind ?_ (fun _=>?_))
   | exact LeO.none _
   | refine LeO.ite ?_ ?_
   | refine LeO.bind ?_ (fun _=>?_)
set_option maxHeartbeats 8000000 in
set_option maxRecDepth 100000 in
theorem spec_ZAdd.calls (k:Nat) (A0:Option Addr) (c0:Nat) (l0:List (S54)) (A1:Option Addr) (c1:Nat) (l1:List (S54)) (r1:List (S54)) (r2:Bool) (w:World) (hr0:Kd.C k54 w A0 l0.length l0) (hc0:l0.length≤c0) (hr1:Kd.C k54 w A1 l1.length l1) (hc1:l1.length≤c1) (h:spec_ZAdd.f k l0 l1=some (r1,r2)) :
  Calls Try.prog 12 #[.slice A0 l0.length c0,.slice A1 l1.length c1] w fun e w'=>∃ v0_:Value,e=.returned (.tuple #[v0_,.bool r2])∧Kd.V k54 54 w' w.heap.size (fun k_=>(w.heap.size≤k_)) v0_ r1∧Below w.heap.size w w':=by
 have HR0:=Aside0.mk hr0
 have HC0:=Aside0.mk hc0
 clear hr0 hc0
 have HR1:=Aside0.mk hr1
 have HC1:=Aside0.mk hc1
 clear hr1 hc1
 have HB:=Aside0.mk (Below.refl w.heap.size w)
 have H:((spec_ZOk.f k l0).bind fun t145=>(if t145=true then ((spec_ZOk.f k l1).bind fun t146=>(if t146=true then ((spec_l2Add.f k l0 l1).bind fun t147=>((spec_l2Told.f k t147).bind fun bt150=>(some (bt150.1,bt150.2)))) else (some ((([]:List (S54))),false)))) else (some ((([]:List (S54))),false))))=some (r1,r2):=h
 clear h
 replace H:=Option.bind_eq_some_iff.mp H
 obtain ⟨t145,A30,H⟩:=H
 (try dsimp only at H)
 have A3:=Aside0.mk A30
 clear A30
 by_cases c4:t145=true
 ·subst c4
  have H1:((spec_ZOk.f k l1).bind fun t146=>(if t146=true then ((spec_l2Add.f k l0 l1).bind fun t147=>((spec_l2Told.f k t147).bind fun bt150=>(some (bt150.1,bt150.2)))) else (some ((([]:List (S54))),false))))=some (r1,r2):=by rw [if_pos rfl] at H;exact H
  clear H
  have H:=H1
  clear H1
  replace H:=Option.bind_eq_some_iff.mp H
  obtain ⟨t146,A50,H⟩:=H
  (try dsimp only at H)
  have A5:=Aside0.mk A50
  clear A50
  by_cases c6:t146=true
  ·subst c6
   have H1:((spec_l2Add.f k l0 l1).bind fun t147=>((spec_l2Told.f k t147).bind fun bt150=>(some (bt150.1,bt150.2))))=some (r1,r2):=by rw [if_pos rfl] at H;exact H
   clear H
   have H:=H1
   clear H1
   replace H:=Option.bind_eq_some_iff.mp H
   obtain ⟨t147,A70,H⟩:=H
   (try dsimp only at H)
   have A7:=Aside0.mk A70
   clear A70
   replace H:=Option.bind_eq_some_iff.mp H
   obtain ⟨⟨t150,t153⟩,A80,H⟩:=H
   (try dsimp only at H)
   have A8:=Aside0.mk A80
   clear A80
   simp only [Option.some.injEq,Prod.mk.injEq] at H
   obtain ⟨rfl,rfl⟩:=H
   go_enter Try.func12,Try.ntmps12
   go_wp2_with (first|((with_reducible refine gate_callee (f:=35) rfl ?_);refine goesL_ (some 7) rfl rfl Try.func35 (by kernel_rfl) rfl #[.slice A0 l0.length c0] rfl zar ?_;(with_reducible refine (spec_ZOk.calls k _ _ l0 true _ ?side1 ?side2 A3.out).mono ?_);(case side1=>exact zC HR0.out);(case side2=>exact HC0.out);rintro e w9 ⟨rfl,hb⟩;refine ⟨_,rfl,?_⟩;have n0_:=Aside0.mk (below_step zhb hb);clear HB;have HB:=n0_;clear n0_;(try clear hb);(try clear hb2);(try clear hk);(try clear hi))|(go_at_call 35;(with_reducible refine (spec_ZOk.calls k _ _ l1 true _ ?side1 ?side2 A5.out).mono ?_);(case side1=>exact zC (Kd.C_below HR1.out HB.out));(case side2=>exact HC1.out);rintro e w10 ⟨rfl,hb⟩;have n0_:=Aside0.mk (below_step zhb hb);clear HB;have HB:=n0_;clear n0_;(try clear hb);(try clear hb2);(try clear hk);(try clear hi))|((with_reducible refine gate_callee (f:=51) rfl ?_);refine goesL_ (some 17) rfl rfl Try.func51 (by kernel_rfl) rfl #[.slice A0 l0.length c0,.slice A1 l1.length c1] rfl zar ?_;(with_reducible refine (spec_l2Add.calls k _ _ l0 _ _ l1 t147 _ ?side1 ?side2 ?side3 ?side4 A7.out).mono ?_);(case side1=>exact zC (Kd.C_below HR0.out HB.out));(case side2=>exact HC0.out);(case side3=>exact zC (Kd.C_below HR1.out HB.out));(case side4=>exact HC1.out);rintro e w11 ⟨v148,rfl,ho0,hb⟩;refine ⟨_,rfl,?_⟩;have n0_:=Aside0.mk (Kd.N_lower (Kd.N_mono (ok':=fun k_=>(w.heap.size≤k_)) ho0 (fun k_ hk_=>(Nat.le_trans (below_size zhb) hk_))) (below_size zhb));have n1_:=Aside0.mk (below_step zhb hb);clear HB;have HO149:=n0_;have HB:=n1_;clear n0_ n1_;(try clear hb);(try clear hb2);(try clear hk);(try clear hi);(try clear ho0);obtain ⟨Ao12,co12,eo12⟩:=Kd.N_slice HO149.out;subst eo12)|((with_reducible refine gate_callee (f:=50) rfl ?_);refine goesL_ (some 18) rfl rfl Try.func50 (by kernel_rfl) rfl #[.slice Ao12 t147.length co12] rfl zar ?_;(with_reducible refine (spec_l2Told.calls k (fun k_=>(w.heap.size≤k_)) _ _ t147 t150 t153 _ ?side1 A8.out).mono ?_);(case side1=>exact Kd.N_V (HO149.out));rintro e w13 ⟨v151,rfl,ho0,hb⟩;refine ⟨_,rfl,?_⟩;have n0_:=Aside0.mk (Kd.N_below (zN HO149.out) hb);have n1_:=Aside0.mk (Kd.V_lower (Kd.V_mono (ok':=fun k_=>(w.heap.size≤k_)) ho0 (fun k_ hk_=>Or.elim hk_ (fun hs_=>hs_) (fun hn_=>(Nat.le_trans (below_size zhb) hn_)))) (below_size zhb));have n2_:=Aside0.mk (below_step zhb hb);clear HO149;clear HB;have HO149:=n0_;have HO152:=n1_;have HB:=n2_;clear n0_ n1_ n2_;(try clear hb);(try clear hb2);(try clear hk);(try clear hi);(try clear ho0)))
   go_ret2
   exact ⟨_,by first|rfl|(simp [errW_none,errW_some] <;> rfl)|(simp [*,errW_none,errW_some] <;> rfl),by (with_reducible repeat (first|apply Kd.V_alloc|apply Kd.V_drewN|apply Kd.V_drew));exact HO152.out,zhb⟩
  ·replace c6:=Bool.eq_false_iff.mpr c6
   subst c6
   have H1:(some ((([]:List (S54))),false))=some (r1,r2):=by rw [if_neg (show ¬ (false=true) by decide)] at H;exact H
   clear H
   have H:=H1
   clear H1
   obtain ⟨y154,hy154⟩ : ∃ y_:List (S54),y_=(([]:List (S54))):=⟨_,rfl⟩
   replace H:(some (y154,false))=some (r1,r2):=by first|(rw [hy154];with_reducible exact H)|(have H2_:=(Option.bind_some _ _).symm.trans H;rw [hy154];with_reducible exact H2_)|(have H2_:=(Option.bind_some _ _).symm.trans H;with_reducible exact H2_)|with_reducible exact H|(rw [hy154];exact H)|exact H
   have Ny154:=Aside0.mk hy154
   clear hy154
   simp only [Option.some.injEq,Prod.mk.injEq] at H
   obtain ⟨rfl,rfl⟩:=H
   go_enter Try.func12,Try.ntmps12
   go_wp2_with (first|((with_reducible refine gate_callee (f:=35) rfl ?_);refine goesL_ (some 7) rfl rfl Try.func35 (by kernel_rfl) rfl #[.slice A0 l0.length c0] rfl zar ?_;(with_reducible refine (spec_ZOk.calls k _ _ l0 true _ ?side1 ?side2 A3.out).mono ?_);(case side1=>exact zC HR0.out);(case side2=>exact HC0.out);rintro e w14 ⟨rfl,hb⟩;refine ⟨_,rfl,?_⟩;have n0_:=Aside0.mk (below_step zhb hb);clear HB;have HB:=n0_;clear n0_;(try clear hb);(try clear hb2);(try clear hk);(try clear hi))|(go_at_call 35;(with_reducible refine (spec_ZOk.calls k _ _ l1 false _ ?side1 ?side2 A5.out).mono ?_);(case side1=>exact zC (Kd.C_below HR1.out HB.out));(case side2=>exact HC1.out);rintro e w15 ⟨rfl,hb⟩;have n0_:=Aside0.mk (below_step zhb hb);clear HB;have HB:=n0_;clear n0_;(try clear hb);(try clear hb2);(try clear hk);(try clear hi))|((with_reducible refine gate_dst (N:=14) rfl ?_);refine Kd.N_lit k54 _ 54 ?hg (N':=14) ?hd (xs:=([]:List (S54))) (inner:=[]) (ok:=(fun k_=>(w.heap.size≤k_))) (okp:=(fun k_=>(w.heap.size≤k_))) ?hr ?hp (fun _ hk=>hk) ((show ∀ k_,w15.heap.size≤k_→(fun k_=>(w.heap.size≤k_)) k_ from fun k_ hk=>(Nat.le_trans (below_size zhb) hk)) _ (Nat.le_refl _)) (Below.refl _ _) (Nat.le_refl _) (by simp) ?_;(case hd=>rfl);(case hg=>rfl);(case hr=>first|(go_simp;done)|(go_simp;rfl));(case hp=>exact (Reps.none _ _));intro v155 w16 ho17 hb hg_ hnew_;clear hg_ hnew_;(first|rw [← Ny154.out] at ho17|(simp only [Int.reduceToNat] at ho17;rw [← Ny154.out] at ho17));have n0_:=Aside0.mk (Kd.N_lower ho17 (below_size zhb));have n1_:=Aside0.mk (below_step zhb hb);clear HB;have HO156:=n0_;have HB:=n1_;clear n0_ n1_;clear hb ho17))
   go_ret2
   exact ⟨_,by first|rfl|(simp [errW_none,errW_some] <;> rfl)|(simp [*,errW_none,errW_some] <;> rfl),Kd.N_V (zN HO156.out),zhb⟩
 ·replace c4:=Bool.eq_false_iff.mpr c4
  subst c4
  have H1:(some ((([]:List (S54))),false))=some (r1,r2):=by rw [if_neg (show ¬ (false=true) by decide)] at H;exact H
  clear H
  have H:=H1
  clear H1
  obtain ⟨y157,hy157⟩ : ∃ y_:List (S54),y_=(([]:List (S54))):=⟨_,rfl⟩
  replace H:(some (y157,false))=some (r1,r2):=by first|(rw [hy157];with_reducible exact H)|(have H2_:=(Option.bind_some _ _).symm.trans H;rw [hy157];with_reducible exact H2_)|(have H2_:=(Option.bind_some _ _).symm.trans H;with_reducible exact H2_)|with_reducible exact H|(rw [hy157];exact H)|exact H
  have Ny157:=Aside0.mk hy157
  clear hy157
  simp only [Option.some.injEq,Prod.mk.injEq] at H
  obtain ⟨rfl,rfl⟩:=H
  go_enter Try.func12,Try.ntmps12
  go_wp2_with (first|((with_reducible refine gate_callee (f:=35) rfl ?_);refine goesL_ (some 7) rfl rfl Try.func35 (by kernel_rfl) rfl #[.slice A0 l0.length c0] rfl zar ?_;(with_reducible refine (spec_ZOk.calls k _ _ l0 false _ ?side1 ?side2 A3.out).mono ?_);(case side1=>exact zC HR0.out);(case side2=>exact HC0.out);rintro e w18 ⟨rfl,hb⟩;refine ⟨_,rfl,?_⟩;have n0_:=Aside0.mk (below_step zhb hb);clear HB;have HB:=n0_;clear n0_;(try clear hb);(try clear hb2);(try clear hk);(try clear hi))|((with_reducible refine gate_dst (N:=14) rfl ?_);refine Kd.N_lit k54 _ 54 ?hg (N':=14) ?hd (xs:=([]:List (S54))) (inner:=[]) (ok:=(fun k_=>(w.heap.size≤k_))) (okp:=(fun k_=>(w.heap.size≤k_))) ?hr ?hp (fun _ hk=>hk) ((show ∀ k_,w18.heap.size≤k_→(fun k_=>(w.heap.size≤k_)) k_ from fun k_ hk=>(Nat.le_trans (below_size zhb) hk)) _ (Nat.le_refl _)) (Below.refl _ _) (Nat.le_refl _) (by simp) ?_;(case hd=>rfl);(case hg=>rfl);(case hr=>first|(go_simp;done)|(go_simp;rfl));(case hp=>exact (Reps.none _ _));intro v158 w19 ho20 hb hg_ hnew_;clear hg_ hnew_;(first|rw [← Ny157.out] at ho20|(simp only [Int.reduceToNat] at ho20;rw [← Ny157.out] at ho20));have n0_:=Aside0.mk (Kd.N_lower ho20 (below_size zhb));have n1_:=Aside0.mk (below_step zhb hb);clear HB;have HO159:=n0_;have HB:=n1_;clear n0_ n1_;clear hb ho20))
  go_ret2
  exact ⟨_,by first|rfl|(simp [errW_none,errW_some] <;> rfl)|(simp [*,errW_none,errW_some] <;> rfl),Kd.N_V (zN HO159.out),zhb⟩

-- NOT PRINTED: function 136 (slices_IndexFunc_int_int)

-- NOT PRINTED: function 118 (slices_ContainsFunc_int_int)

/-! ### impl_isCell: function 120 -/
def impl_isCell.f (a0:Int):Option (Bool):=if a0 ≥ (-1000000000) then (some (decide (a0≤1000000000))) else (some false)
set_option maxHeartbeats 8000000 in
set_option maxRecDepth 100000 in
theorem impl_isCell.calls (a0:Int) (r:Bool) (w:World) (h:impl_isCell.f a0=some r) :
  Calls Try.prog 120 #[.int .i64 a0] w fun e w'=>e=.returned (.bool r)∧Drawn0 w w':=by
 have H:(if a0 ≥ (-1000000000) then (some (decide (a0≤1000000000))) else (some false))=some r:=h
 clear h
 by_cases c2:a0 ≥ (-1000000000)
 ·rw [if_pos c2] at H
  have c2b0:decide ((-1000000000)≤a0)=true:=decide_eq_true c2
  clear c2
  obtain rfl:=Option.some.inj H
  go_enter Try.func120,Try.ntmps120
  go_wp2
  go_ret
  exact ⟨by first|rfl|(simp;done)|(simp [*];done),zdw⟩
 ·rw [if_neg c2] at H
  have c2b0:decide ((-1000000000)≤a0)=false:=decide_eq_false c2
  clear c2
  obtain rfl:=Option.some.inj H
  go_enter Try.func120,Try.ntmps120
  go_wp2
  go_ret
  exact ⟨by first|rfl|(simp;done)|(simp [*];done),zdw⟩

/-! ### impl_RowOk_1: function 119 -/
def impl_RowOk_1.f (a0:Int):Option (Bool):=(impl_isCell.f a0).bind fun t160=>(some (!t160))
set_option maxHeartbeats 8000000 in
set_option maxRecDepth 100000 in
theorem impl_RowOk_1.calls (a0:Int) (r:Bool) (w:World) (h:impl_RowOk_1.f a0=some r) :
  Calls Try.prog 119 #[.int .i64 a0] w fun e w'=>e=.returned (.bool r)∧Drawn0 w w':=by
 have H:((impl_isCell.f a0).bind fun t160=>(some (!t160)))=some r:=h
 clear h
 replace H:=Option.bind_eq_some_iff.mp H
 obtain ⟨t160,A20,H⟩:=H
 (try dsimp only at H)
 have A2:=Aside0.mk A20
 clear A20
 obtain rfl:=Option.some.inj H
 go_enter Try.func119,Try.ntmps119
 go_wp2_with (first|((with_reducible refine gate_callee (f:=120) rfl ?_);refine goesL_ (some 4) rfl rfl Try.func120 (by kernel_rfl) rfl #[.int .i64 a0] rfl zar ?_;(with_reducible refine (impl_isCell.calls a0 t160 _ A2.out).mono ?_);rintro e w' ⟨rfl,⟨nd,rfl⟩⟩;refine ⟨_,rfl,?_⟩))
 go_ret
 exact ⟨by first|rfl|(simp;done)|(simp [*];done),zdw⟩

/-! ### slices_IndexFunc_int_int__impl_RowOk_1: function 136 -/
def slices_IndexFunc_int_int__impl_RowOk_1.l0:Nat→List Int→Int→Int→Option (Int)
 | 0,_,_,_=>none
 | k + 1,x0,x7,x8=>if x8 < x7 then (if 0≤x8 then (if x8 < (x0.length:Int) then ((impl_RowOk_1.f (rd x0 x8)).bind fun t162=>(if t162=true then (some x8) else (slices_IndexFunc_int_int__impl_RowOk_1.l0 k x0 x7 (wrap64 (x8 + 1))))) else (none)) else (none)) else (some (-1))
def slices_IndexFunc_int_int__impl_RowOk_1.f (k:Nat) (l0:List Int) :Option (Int):=slices_IndexFunc_int_int__impl_RowOk_1.l0 k l0 (l0.length:Int) 0
theorem slices_IndexFunc_int_int__impl_RowOk_1.mono_l : ∀ k,(∀ y0 y1 y2,LeO (slices_IndexFunc_int_int__impl_RowOk_1.l0 k y0 y1 y2) (slices_IndexFunc_int_int__impl_RowOk_1.l0 (k + 1) y0 y1 y2))
 | 0=>fun _ _ _ r h=>by simp [slices_IndexFunc_int_int__impl_RowOk_1.l0] at h
 | k + 1=>by
  have ih0:=slices_IndexFunc_int_int__impl_RowOk_1.mono_l k
  ·intro y0 y1 y2
   unfold slices_IndexFunc_int_int__impl_RowOk_1.l0
   repeat' first
   | (with_reducible exact ih0 _ _ _)
   | (with_reducible exact LeO.refl _)
   | (with_reducible exact LeO.none _)
   | (with_reducible refine LeO.ite ?_ ?_)
   | (with_reducible refine LeO.bind ?_ (fun _=>?_))
   | exact LeO.none _
   | refine LeO.ite ?_ ?_
   | refine LeO.bind ?_ (fun _=>?_)
theorem slices_IndexFunc_int_int__impl_RowOk_1.mono : ∀ a0 k,LeO (slices_IndexFunc_int_int__impl_RowOk_1.f k a0) (slices_IndexFunc_int_int__impl_RowOk_1.f (k + 1) a0):=by
 intro a0 k
 have ih0:=slices_IndexFunc_int_int__impl_RowOk_1.mono_l k
 unfold slices_IndexFunc_int_int__impl_RowOk_1.f
 repeat' first
   | (with_reducible exact ih0 _ _ _)
   | (with_reducible exact LeO.refl _)
   | (with_reducible exact LeO.none _)
   | (with_reducible refine LeO.ite ?_ ?_)
   | (with_reducible refine LeO.bind ?_ (fun _=>?_))
   | exact LeO.none _
   | refine LeO.ite ?_ ?_
   | refine LeO.bind ?_ (fun _=>?_)
set_option maxHeartbeats 8000000 in
set_option maxRecDepth 100000 in
theorem slices_IndexFunc_int_int__impl_RowOk_1.calls (k:Nat) (A0:Option Addr) (c0:Nat) (l0:List Int)  (r:Int) (w:World) (hr0:Kd.C (Kd.int .i64) w A0 l0.length l0) (hc0:l0.length≤c0) (h:slices_IndexFunc_int_int__impl_RowOk_1.f k l0=some r) :
  Calls Try.prog 136 #[.slice A0 l0.length c0,.func (.func 119) #[] #[]] w fun e w'=>e=.returned (.int .i64 r)∧Drawn0 w w':=by
 have HR0:=Aside0.mk hr0
 have HC0:=Aside0.mk hc0
 clear hr0 hc0
 have H:(slices_IndexFunc_int_int__impl_RowOk_1.l0 k l0 (l0.length:Int) 0)=some r:=h
 clear h
 have H':=Aside0.mk H
 clear H
 go_enter Try.func136,Try.ntmps136
 go_wp2
 go_loopg [8] k (fun kq v8 w'=>∃ (x8_1:Int),v8=.int .i64 x8_1∧Aside0 (slices_IndexFunc_int_int__impl_RowOk_1.l0 kq l0 (l0.length:Int) x8_1=some r)∧Aside0 (kq≤k)∧Drawn0 w w')
 case atStart=>exact ⟨(0),(by first|rfl|(simp;done)|(simp [*];done)),H',⟨Nat.le_refl _⟩,zdw⟩
 case round =>
  clear H'
  try clear p2
  obtain ⟨x8_1,rfl,HA,HK1,⟨m1,rfl⟩⟩:=hrel
  cases gk with
  | zero=>exact absurd HA.out (by simp [slices_IndexFunc_int_int__impl_RowOk_1.l0])
  | succ k1 =>
   have H:=HA.out
   clear HA
   simp only [slices_IndexFunc_int_int__impl_RowOk_1.l0] at H
   by_cases c3:x8_1 < (l0.length:Int)
   ·rw [if_pos c3] at H
    have c3b0:decide (x8_1 < (l0.length:Int))=true:=decide_eq_true c3
    clear c3
    by_cases c4:0≤x8_1
    ·rw [if_pos c4] at H
     have c4b0:decide (0≤x8_1)=true:=decide_eq_true c4
     clear c4
     by_cases c5:x8_1 < (l0.length:Int)
     ·rw [if_pos c5] at H
      have c5b0:decide (x8_1 < (l0.length:Int))=true:=decide_eq_true c5
      clear c5
      replace H:=Option.bind_eq_some_iff.mp H
      obtain ⟨t162,A60,H⟩:=H
      (try dsimp only at H)
      have A6:=Aside0.mk A60
      clear A60
      by_cases c7:t162=true
      ·subst c7
       have H1:(some x8_1)=some r:=by rw [if_pos rfl] at H;exact H
       clear H
       have H:=H1
       clear H1
       obtain rfl:=Option.some.inj H
       have p161:0≤(x8_1:Int):=zod
       have q161:x8_1 < (l0.length:Int):=zod
       obtain ⟨ad161,e161,hx161_0⟩:=Kd.at_int HR0.out x8_1 p161 q161
       cases e161
       replace p161:=eq_true p161
       replace q161:=eq_true q161
       go_wp2_with (first|(go_at_call 119;(with_reducible refine (impl_RowOk_1.calls (rd l0 x8_1) true _ A6.out).mono ?_);rintro e w' ⟨rfl,⟨nd,rfl⟩⟩))
       go_ret
       exact ⟨by first|rfl|(simp;done)|(simp [*];done),zdw⟩
      ·replace c7:=Bool.eq_false_iff.mpr c7
       subst c7
       have H1:(slices_IndexFunc_int_int__impl_RowOk_1.l0 k1 l0 (l0.length:Int) (wrap64 (x8_1 + 1)))=some r:=by rw [if_neg (show ¬ (false=true) by decide)] at H;exact H
       clear H
       have H:=H1
       clear H1
       have H':=Aside0.mk H
       clear H
       have p161:0≤(x8_1:Int):=zod
       have q161:x8_1 < (l0.length:Int):=zod
       obtain ⟨ad161,e161,hx161_0⟩:=Kd.at_int HR0.out x8_1 p161 q161
       cases e161
       replace p161:=eq_true p161
       replace q161:=eq_true q161
       go_wp2_with (first|(go_at_call 119;(with_reducible refine (impl_RowOk_1.calls (rd l0 x8_1) false _ A6.out).mono ?_);rintro e w' ⟨rfl,⟨nd,rfl⟩⟩))
       go_roundg k1
       case measure=>have:=HK1.out;omega
       case rel=>exact ⟨(wrap64 (x8_1 + 1)),(by first|rfl|(simp;done)|(simp [*];done)),H',⟨by have:=HK1.out;omega⟩,zdw⟩
     ·rw [if_neg c5] at H
      exact absurd H (by simp)
    ·rw [if_neg c4] at H
     exact absurd H (by simp)
   ·rw [if_neg c3] at H
    have c3b0:decide (x8_1 < (l0.length:Int))=false:=decide_eq_false c3
    clear c3
    obtain rfl:=Option.some.inj H
    go_wp2
    go_ret
    exact ⟨by first|rfl|(simp;done)|(simp [*];done),zdw⟩

/-! ### slices_ContainsFunc_int_int__impl_RowOk_1: function 118 -/
def slices_ContainsFunc_int_int__impl_RowOk_1.f (k:Nat) (l0:List Int) :Option (Bool):=(slices_IndexFunc_int_int__impl_RowOk_1.f k l0).bind fun t163=>(some (decide (t163 ≥ 0)))
theorem slices_ContainsFunc_int_int__impl_RowOk_1.mono : ∀ a0 k,LeO (slices_ContainsFunc_int_int__impl_RowOk_1.f k a0) (slices_ContainsFunc_int_int__impl_RowOk_1.f (k + 1) a0):=by
 intro a0 k
 unfold slices_ContainsFunc_int_int__impl_RowOk_1.f
 repeat' first
   | (with_reducible exact slices_IndexFunc_int_int__impl_RowOk_1.mono _ _)
   | (with_reducible exact LeO.refl _)
   | (with_reducible exact LeO.none _)
   | (with_reducible refine LeO.ite ?_ ?_)
   | (with_reducible refine LeO.bind ?_ (fun _=>?_))
   | exact LeO.none _
   | refine LeO.ite ?_ ?_
   | refine LeO.bind ?_ (fun _=>?_)
set_option maxHeartbeats 8000000 in
set_option maxRecDepth 100000 in
theorem slices_ContainsFunc_int_int__impl_RowOk_1.calls (k:Nat) (A0:Option Addr) (c0:Nat) (l0:List Int)  (r:Bool) (w:World) (hr0:Kd.C (Kd.int .i64) w A0 l0.length l0) (hc0:l0.length≤c0) (h:slices_ContainsFunc_int_int__impl_RowOk_1.f k l0=some r) :
  Calls Try.prog 118 #[.slice A0 l0.length c0,.func (.func 119) #[] #[]] w fun e w'=>e=.returned (.bool r)∧Drawn0 w w':=by
 have HR0:=Aside0.mk hr0
 have HC0:=Aside0.mk hc0
 clear hr0 hc0
 have H:((slices_IndexFunc_int_int__impl_RowOk_1.f k l0).bind fun t163=>(some (decide (t163 ≥ 0))))=some r:=h
 clear h
 replace H:=Option.bind_eq_some_iff.mp H
 obtain ⟨t163,A30,H⟩:=H
 (try dsimp only at H)
 have A3:=Aside0.mk A30
 clear A30
 obtain rfl:=Option.some.inj H
 go_enter Try.func118,Try.ntmps118
 go_wp2_with (first|(go_at_call 136;(with_reducible refine (slices_IndexFunc_int_int__impl_RowOk_1.calls k _ _ l0  t163 _ ?side1 ?side2 A3.out).mono ?_);(case side1=>exact zC HR0.out);(case side2=>exact HC0.out);rintro e w' ⟨rfl,⟨nd,rfl⟩⟩))
 go_ret
 exact ⟨by first|rfl|(simp;done)|(simp [*];done),zdw⟩

/-! ### impl_RowOk: function 78 -/
def impl_RowOk.f (k:Nat) (l0:List Int):Option (Bool):=if (l0.length:Int) ≥ 1 then (if (l0.length:Int)≤6 then ((slices_ContainsFunc_int_int__impl_RowOk_1.f k l0).bind fun t164=>(some (!t164))) else (some false)) else (some false)
theorem impl_RowOk.mono : ∀ a0 k,LeO (impl_RowOk.f k a0) (impl_RowOk.f (k + 1) a0):=by
 intro a0 k
 unfold impl_RowOk.f
 repeat' first
   | (with_reducible exact slices_ContainsFunc_int_int__impl_RowOk_1.mono _ _)
   | (with_reducible exact LeO.refl _)
   | (with_reducible exact LeO.none _)
   | (with_reducible refine LeO.ite ?_ ?_)
   | (with_reducible refine LeO.bind ?_ (fun _=>?_))
   | exact LeO.none _
   | refine LeO.ite ?_ ?_
   | refine LeO.bind ?_ (fun _=>?_)
set_option maxHeartbeats 8000000 in
set_option maxRecDepth 100000 in
theorem impl_RowOk.calls (k:Nat) (A0:Option Addr) (c0:Nat) (l0:List Int) (r:Bool) (w:World) (hr0:Kd.C (Kd.int .i64) w A0 l0.length l0) (hc0:l0.length≤c0) (h:impl_RowOk.f k l0=some r) :
  Calls Try.prog 78 #[.slice A0 l0.length c0] w fun e w'=>e=.returned (.bool r)∧Drawn0 w w':=by
 have HR0:=Aside0.mk hr0
 have HC0:=Aside0.mk hc0
 clear hr0 hc0
 have H:(if (l0.length:Int) ≥ 1 then (if (l0.length:Int)≤6 then ((slices_ContainsFunc_int_int__impl_RowOk_1.f k l0).bind fun t164=>(some (!t164))) else (some false)) else (some false))=some r:=h
 clear h
 by_cases c2:(l0.length:Int) ≥ 1
 ·rw [if_pos c2] at H
  have c2b0:decide (1≤(l0.length:Int))=true:=decide_eq_true c2
  have c2b1:decide (1≤l0.length)=true:=decide_eq_true (by omega)
  clear c2
  by_cases c3:(l0.length:Int)≤6
  ·rw [if_pos c3] at H
   have c3b0:decide ((l0.length:Int)≤6)=true:=decide_eq_true c3
   have c3b1:decide (l0.length≤6)=true:=decide_eq_true (by omega)
   clear c3
   replace H:=Option.bind_eq_some_iff.mp H
   obtain ⟨t164,A40,H⟩:=H
   (try dsimp only at H)
   have A4:=Aside0.mk A40
   clear A40
   obtain rfl:=Option.some.inj H
   go_enter Try.func78,Try.ntmps78
   go_wp2_with (first|(go_at_call 118;(with_reducible refine (slices_ContainsFunc_int_int__impl_RowOk_1.calls k _ _ l0  t164 _ ?side1 ?side2 A4.out).mono ?_);(case side1=>exact zC HR0.out);(case side2=>exact HC0.out);rintro e w' ⟨rfl,⟨nd,rfl⟩⟩))
   go_ret
   exact ⟨by first|rfl|(simp;done)|(simp [*];done),zdw⟩
  ·rw [if_neg c3] at H
   have c3b0:decide ((l0.length:Int)≤6)=false:=decide_eq_false c3
   have c3b1:decide (l0.length≤6)=false:=decide_eq_false (by omega)
   clear c3
   obtain rfl:=Option.some.inj H
   go_enter Try.func78,Try.ntmps78
   go_wp2
   go_ret
   exact ⟨by first|rfl|(simp;done)|(simp [*];done),zdw⟩
 ·rw [if_neg c2] at H
  have c2b0:decide (1≤(l0.length:Int))=false:=decide_eq_false c2
  have c2b1:decide (1≤l0.length)=false:=decide_eq_false (by omega)
  clear c2
  obtain rfl:=Option.some.inj H
  go_enter Try.func78,Try.ntmps78
  go_wp2
  go_ret
  exact ⟨by first|rfl|(simp;done)|(simp [*];done),zdw⟩

/-! ### cmp_isNaN_int: function 135 -/
def cmp_isNaN_int.f (a0:Int):Option (Bool):=some (a0 != a0)
set_option maxHeartbeats 8000000 in
set_option maxRecDepth 100000 in
theorem cmp_isNaN_int.calls (a0:Int) (r:Bool) (w:World) (h:cmp_isNaN_int.f a0=some r) :
  Calls Try.prog 135 #[.int .i64 a0] w fun e w'=>e=.returned (.bool r)∧Drawn0 w w':=by
 have H:(some (a0 != a0))=some r:=h
 clear h
 obtain rfl:=Option.some.inj H
 go_enter Try.func135,Try.ntmps135
 go_wp2
 go_ret
 exact ⟨by first|rfl|(simp;done)|(simp [*];done),zdw⟩

/-! ### cmp_Compare_int: function 116 -/
def cmp_Compare_int.f (a0:Int) (a1:Int):Option (Int):=(cmp_isNaN_int.f a0).bind fun t165=>((cmp_isNaN_int.f a1).bind fun t166=>(if t165=true then (if t166=true then (some 0) else (some (-1))) else (if t166=true then (some 1) else (if a0 < a1 then (some (-1)) else (if a0 > a1 then (some 1) else (some 0))))))
set_option maxHeartbeats 8000000 in
set_option maxRecDepth 100000 in
theorem cmp_Compare_int.calls (a0:Int) (a1:Int) (r:Int) (w:World) (h:cmp_Compare_int.f a0 a1=some r) :
  Calls Try.prog 116 #[.int .i64 a0,.int .i64 a1] w fun e w'=>e=.returned (.int .i64 r)∧Drawn0 w w':=by
 have H:((cmp_isNaN_int.f a0).bind fun t165=>((cmp_isNaN_int.f a1).bind fun t166=>(if t165=true then (if t166=true then (some 0) else (some (-1))) else (if t166=true then (some 1) else (if a0 < a1 then (some (-1)) else (if a0 > a1 then (some 1) else (some 0)))))))=some r:=h
 clear h
 replace H:=Option.bind_eq_some_iff.mp H
 obtain ⟨t165,A30,H⟩:=H
 (try dsimp only at H)
 have A3:=Aside0.mk A30
 clear A30
 replace H:=Option.bind_eq_some_iff.mp H
 obtain ⟨t166,A40,H⟩:=H
 (try dsimp only at H)
 have A4:=Aside0.mk A40
 clear A40
 by_cases c5:t165=true
 ·subst c5
  have H1:(if t166=true then (some 0) else (some (-1)))=some r:=by rw [if_pos rfl] at H;exact H
  clear H
  have H:=H1
  clear H1
  by_cases c6:t166=true
  ·subst c6
   have H1:(some 0)=some r:=by rw [if_pos rfl] at H;exact H
   clear H
   have H:=H1
   clear H1
   obtain rfl:=Option.some.inj H
   go_enter Try.func116,Try.ntmps116
   go_wp2_with (first|((with_reducible refine gate_callee (f:=135) rfl ?_);refine goesL_ (some 8) rfl rfl Try.func135 (by kernel_rfl) rfl #[.int .i64 a0] rfl zar ?_;(with_reducible refine (cmp_isNaN_int.calls a0 true _ A3.out).mono ?_);rintro e w' ⟨rfl,⟨nd,rfl⟩⟩;refine ⟨_,rfl,?_⟩)|((with_reducible refine gate_callee (f:=135) rfl ?_);refine goesL_ (some 10) rfl rfl Try.func135 (by kernel_rfl) rfl #[.int .i64 a1] rfl zar ?_;(with_reducible refine (cmp_isNaN_int.calls a1 true _ A4.out).mono ?_);rintro e w' ⟨rfl,⟨nd,rfl⟩⟩;refine ⟨_,rfl,?_⟩))
   go_ret
   exact ⟨by first|rfl|(simp;done)|(simp [*];done),zdw⟩
  ·replace c6:=Bool.eq_false_iff.mpr c6
   subst c6
   have H1:(some (-1))=some r:=by rw [if_neg (show ¬ (false=true) by decide)] at H;exact H
   clear H
   have H:=H1
   clear H1
   obtain rfl:=Option.some.inj H
   go_enter Try.func116,Try.ntmps116
   go_wp2_with (first|((with_reducible refine gate_callee (f:=135) rfl ?_);refine goesL_ (some 8) rfl rfl Try.func135 (by kernel_rfl) rfl #[.int .i64 a0] rfl zar ?_;(with_reducible refine (cmp_isNaN_int.calls a0 true _ A3.out).mono ?_);rintro e w' ⟨rfl,⟨nd,rfl⟩⟩;refine ⟨_,rfl,?_⟩)|((with_reducible refine gate_callee (f:=135) rfl ?_);refine goesL_ (some 10) rfl rfl Try.func135 (by kernel_rfl) rfl #[.int .i64 a1] rfl zar ?_;(with_reducible refine (cmp_isNaN_int.calls a1 false _ A4.out).mono ?_);rintro e w' ⟨rfl,⟨nd,rfl⟩⟩;refine ⟨_,rfl,?_⟩))
   go_ret
   exact ⟨by first|rfl|(simp;done)|(simp [*];done),zdw⟩
 ·replace c5:=Bool.eq_false_iff.mpr c5
  subst c5
  have H1:(if t166=true then (some 1) else (if a0 < a1 then (some (-1)) else (if a0 > a1 then (some 1) else (some 0))))=some r:=by rw [if_neg (show ¬ (false=true) by decide)] at H;exact H
  clear H
  have H:=H1
  clear H1
  by_cases c7:t166=true
  ·subst c7
   have H1:(some 1)=some r:=by rw [if_pos rfl] at H;exact H
   clear H
   have H:=H1
   clear H1
   obtain rfl:=Option.some.inj H
   go_enter Try.func116,Try.ntmps116
   go_wp2_with (first|((with_reducible refine gate_callee (f:=135) rfl ?_);refine goesL_ (some 8) rfl rfl Try.func135 (by kernel_rfl) rfl #[.int .i64 a0] rfl zar ?_;(with_reducible refine (cmp_isNaN_int.calls a0 false _ A3.out).mono ?_);rintro e w' ⟨rfl,⟨nd,rfl⟩⟩;refine ⟨_,rfl,?_⟩)|((with_reducible refine gate_callee (f:=135) rfl ?_);refine goesL_ (some 10) rfl rfl Try.func135 (by kernel_rfl) rfl #[.int .i64 a1] rfl zar ?_;(with_reducible refine (cmp_isNaN_int.calls a1 true _ A4.out).mono ?_);rintro e w' ⟨rfl,⟨nd,rfl⟩⟩;refine ⟨_,rfl,?_⟩))
   go_ret
   exact ⟨by first|rfl|(simp;done)|(simp [*];done),zdw⟩
  ·replace c7:=Bool.eq_false_iff.mpr c7
   subst c7
   have H1:(if a0 < a1 then (some (-1)) else (if a0 > a1 then (some 1) else (some 0)))=some r:=by rw [if_neg (show ¬ (false=true) by decide)] at H;exact H
   clear H
   have H:=H1
   clear H1
   by_cases c8:a0 < a1
   ·rw [if_pos c8] at H
    have c8b0:decide (a0 < a1)=true:=decide_eq_true c8
    clear c8
    obtain rfl:=Option.some.inj H
    go_enter Try.func116,Try.ntmps116
    go_wp2_with (first|((with_reducible refine gate_callee (f:=135) rfl ?_);refine goesL_ (some 8) rfl rfl Try.func135 (by kernel_rfl) rfl #[.int .i64 a0] rfl zar ?_;(with_reducible refine (cmp_isNaN_int.calls a0 false _ A3.out).mono ?_);rintro e w' ⟨rfl,⟨nd,rfl⟩⟩;refine ⟨_,rfl,?_⟩)|((with_reducible refine gate_callee (f:=135) rfl ?_);refine goesL_ (some 10) rfl rfl Try.func135 (by kernel_rfl) rfl #[.int .i64 a1] rfl zar ?_;(with_reducible refine (cmp_isNaN_int.calls a1 false _ A4.out).mono ?_);rintro e w' ⟨rfl,⟨nd,rfl⟩⟩;refine ⟨_,rfl,?_⟩))
    go_ret
    exact ⟨by first|rfl|(simp;done)|(simp [*];done),zdw⟩
   ·rw [if_neg c8] at H
    have c8b0:decide (a0 < a1)=false:=decide_eq_false c8
    clear c8
    by_cases c9:a0 > a1
    ·rw [if_pos c9] at H
     have c9b0:decide (a1 < a0)=true:=decide_eq_true c9
     clear c9
     obtain rfl:=Option.some.inj H
     go_enter Try.func116,Try.ntmps116
     go_wp2_with (first|((with_reducible refine gate_callee (f:=135) rfl ?_);refine goesL_ (some 8) rfl rfl Try.func135 (by kernel_rfl) rfl #[.int .i64 a0] rfl zar ?_;(with_reducible refine (cmp_isNaN_int.calls a0 false _ A3.out).mono ?_);rintro e w' ⟨rfl,⟨nd,rfl⟩⟩;refine ⟨_,rfl,?_⟩)|((with_reducible refine gate_callee (f:=135) rfl ?_);refine goesL_ (some 10) rfl rfl Try.func135 (by kernel_rfl) rfl #[.int .i64 a1] rfl zar ?_;(with_reducible refine (cmp_isNaN_int.calls a1 false _ A4.out).mono ?_);rintro e w' ⟨rfl,⟨nd,rfl⟩⟩;refine ⟨_,rfl,?_⟩))
     go_ret
     exact ⟨by first|rfl|(simp;done)|(simp [*];done),zdw⟩
    ·rw [if_neg c9] at H
     have c9b0:decide (a1 < a0)=false:=decide_eq_false c9
     clear c9
     obtain rfl:=Option.some.inj H
     go_enter Try.func116,Try.ntmps116
     go_wp2_with (first|((with_reducible refine gate_callee (f:=135) rfl ?_);refine goesL_ (some 8) rfl rfl Try.func135 (by kernel_rfl) rfl #[.int .i64 a0] rfl zar ?_;(with_reducible refine (cmp_isNaN_int.calls a0 false _ A3.out).mono ?_);rintro e w' ⟨rfl,⟨nd,rfl⟩⟩;refine ⟨_,rfl,?_⟩)|((with_reducible refine gate_callee (f:=135) rfl ?_);refine goesL_ (some 10) rfl rfl Try.func135 (by kernel_rfl) rfl #[.int .i64 a1] rfl zar ?_;(with_reducible refine (cmp_isNaN_int.calls a1 false _ A4.out).mono ?_);rintro e w' ⟨rfl,⟨nd,rfl⟩⟩;refine ⟨_,rfl,?_⟩))
     go_ret
     exact ⟨by first|rfl|(simp;done)|(simp [*];done),zdw⟩

end Go.Proofs.Ytaifnkapbffmaaa.PFnZ
