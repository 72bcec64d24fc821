-- Written by wip/tools/pp.py, a program of this session over the kit's printer: not the kit's own print
import Derived.Test.YtaifnkapbffmaaaPFnZTwicex0
import Derived.Test.YtaifnkapbffmaaaPFnZTwicex5
import Derived.Test.YtaifnkapbffmaaaPFnZTwicex10
import Derived.Test.YtaifnkapbffmaaaPFnZTwicex11
import Derived.Test.YtaifnkapbffmaaaPFnZTwicex12
namespace Go.Proofs.Ytaifnkapbffmaaa.PFnZTwice
open Go.RowKit Go.Proofs.YtaifnkapbffmaaaW.PrintWords Go.Proofs.YtaifnkapbffmaaaW.PrintLast Go.Proofs.YtaifnkapbffmaaaW.PrintMore
attribute [local go_sem] max2_int min2_int max_two min_two max_three min_three max_four min_four   -- for this text's walks alone
set_option linter.unusedVariables false
set_option linter.unusedSimpArgs false

/-! ### laws_FnZTwice: function 6 -/
def laws_FnZTwice.l0:Nat→List (S54)→List (S54)→Int→Option (Bool)
 | 0,_,_,_=>none
 | k + 1,x3,x4,x8=>if x8 < (x3.length:Int) then (if 0≤x8 then ((impl_ZGet.f k x4 ((rd_T54 x3 x8).f0)).bind fun t382=>(if t382=(wrap64 (2 * ((rd_T54 x3 x8).f1))) then (laws_FnZTwice.l0 k x3 x4 (wrap64 (x8 + 1))) else (some false))) else (none)) else ((impl_ZNeg.f k x3).bind fun t384=>((impl_ZAdd.f k x4 t384).bind fun bt387=>(if bt387.2=true then ((impl_ZSame.f k bt387.1 x3).bind fun t391=>(if t391=true then (if (x4.length:Int)=(x3.length:Int) then ((impl_ZPos.f k x4).bind fun t392=>((impl_ZPos.f k x3).bind fun t395=>((impl_ZSame.f k t392 t395).bind fun t398=>(some t398)))) else (some false)) else (some false))) else (some false))))
def laws_FnZTwice.f (k:Nat) (l0:List Int):Option (Bool):=if (l0.length:Int) > 1048576 then (some true) else ((spec_DrawZNeg.f k l0).bind fun t368=>((impl_ZAdd.f k t368 t368).bind fun bt371=>((spec_ZAdd.f k t368 t368).bind fun bt375=>(if (bt371.2 != bt375.2)=true then (if (bt371.2 == bt375.2)=true then ((impl_ZSame.f k bt371.1 bt375.1).bind fun t379=>(some t379)) else (some false)) else ((impl_ZSame.f k bt371.1 bt375.1).bind fun t380=>(if t380=true then (if bt371.2=true then (laws_FnZTwice.l0 k t368 bt371.1 0) else (if (bt371.2 == bt375.2)=true then ((impl_ZSame.f k bt371.1 bt375.1).bind fun t399=>(some t399)) else (some false))) else (if (bt371.2 == bt375.2)=true then ((impl_ZSame.f k bt371.1 bt375.1).bind fun t400=>(some t400)) else (some false))))))))
theorem laws_FnZTwice.mono_l : ∀ k,(∀ y0 y1 y2,LeO (laws_FnZTwice.l0 k y0 y1 y2) (laws_FnZTwice.l0 (k + 1) y0 y1 y2))
 | 0=>fun _ _ _ r h=>by simp [laws_FnZTwice.l0] at h
 | k + 1=>by
  have ih0:=laws_FnZTwice.mono_l k
  ·intro y0 y1 y2
   unfold laws_FnZTwice.l0
   repeat' first
   | (with_reducible exact ih0 _ _ _)
   | (with_reducible exact impl_ZAdd.mono _ _ _)
   | (with_reducible exact impl_ZGet.mono _ _ _)
   | (with_reducible exact impl_ZNeg.mono _ _)
   | (with_reducible exact impl_ZPos.mono _ _)
   | (with_reducible exact impl_ZSame.mono _ _ _)
   | (with_reducible exact spec_DrawZNeg.mono _ _)
   | (with_reducible exact spec_ZAdd.mono _ _ _)
   | (with_reducible exact LeO.refl _)
   | (with_reducible exact LeO.none _)
   | (with_reducible refine LeO.ite ?_ ?_)
   | (with_reducible refine LeO.bind ?_ (fun _=>?_))
   | exact LeO.none _
   | refine LeO.ite ?_ ?_
   | refine LeO.bind ?_ (fun _=>?_)
theorem laws_FnZTwice.mono : ∀ a0 k,LeO (laws_FnZTwice.f k a0) (laws_FnZTwice.f (k + 1) a0):=by
 intro a0 k
 have ih0:=laws_FnZTwice.mono_l k
 unfold laws_FnZTwice.f
 repeat' first
   | (with_reducible exact ih0 _ _ _)
   | (with_reducible exact impl_ZAdd.mono _ _ _)
   | (with_reducible exact impl_ZGet.mono _ _ _)
   | (with_reducible exact impl_ZNeg.mono _ _)
   | (with_reducible exact impl_ZPos.mono _ _)
   | (with_reducible exact impl_ZSame.mono _ _ _)
   | (with_reducible exact spec_DrawZNeg.mono _ _)
   | (with_reducible exact spec_ZAdd.mono _ _ _)
   | (with_reducible exact LeO.refl _)
   | (with_reducible exact LeO.none _)
   | (with_reducible refine LeO.ite ?_ ?_)
   | (with_reducible refine LeO.bind ?_ (fun _=>?_))
   | exact LeO.none _
   | refine LeO.ite ?_ ?_
   | refine LeO.bind ?_ (fun _=>?_)
def laws_FnZTwice.T11:Bool × List (List Nat × List Nat):=(true,[([],[]),([],[]),([],[]),([1,2],[1,2]),([3],[3]),([4],[4]),([0,5],[0,5]),([],[]),([],[]),([7,8],[7,8]),([9],[9]),([10],[10]),([11],[11]),([6,12],[6,12])])
def laws_FnZTwice.B11:List Nat:=[0,0,0,6,14,30,63,0,0,384,896,1920,3968,8191]
theorem laws_FnZTwice.tab11:rtab .any (opsOf Try.f6 11)=laws_FnZTwice.T11:=by kernel_rfl
theorem laws_FnZTwice.bits11:waitsOk laws_FnZTwice.T11.2 laws_FnZTwice.B11=true:=by kernel_rfl
set_option maxHeartbeats 8000000 in
set_option maxRecDepth 100000 in
theorem laws_FnZTwice.calls (k:Nat) (A0:Option Addr) (c0:Nat) (l0:List Int) (r:Bool) (w:World) (hr0:Kd.C (Kd.int .u8) w A0 l0.length l0) (hc0:l0.length≤c0) (h:laws_FnZTwice.f k l0=some r) (hr_:r=true) :
  Calls Try.prog 6 #[.slice A0 l0.length c0] w fun e w'=>e=.returned (.bool r)∧Below w.heap.size w w':=by
 have HR_:=Aside0.mk hr_
 clear hr_
 have HR0:=Aside0.mk hr0
 have HC0:=Aside0.mk hc0
 clear hr0 hc0
 have HB:=Aside0.mk (Below.refl w.heap.size w)
 have H:(if (l0.length:Int) > 1048576 then (some true) else ((spec_DrawZNeg.f k l0).bind fun t368=>((impl_ZAdd.f k t368 t368).bind fun bt371=>((spec_ZAdd.f k t368 t368).bind fun bt375=>(if (bt371.2 != bt375.2)=true then (if (bt371.2 == bt375.2)=true then ((impl_ZSame.f k bt371.1 bt375.1).bind fun t379=>(some t379)) else (some false)) else ((impl_ZSame.f k bt371.1 bt375.1).bind fun t380=>(if t380=true then (if bt371.2=true then (laws_FnZTwice.l0 k t368 bt371.1 0) else (if (bt371.2 == bt375.2)=true then ((impl_ZSame.f k bt371.1 bt375.1).bind fun t399=>(some t399)) else (some false))) else (if (bt371.2 == bt375.2)=true then ((impl_ZSame.f k bt371.1 bt375.1).bind fun t400=>(some t400)) else (some false)))))))))=some r:=h
 clear h
 by_cases c2:(l0.length:Int) > 1048576
 ·rw [if_pos c2] at H
  have c2b0:decide (1048576 < (l0.length:Int))=true:=decide_eq_true c2
  have c2b1:decide (1048576 < l0.length)=true:=decide_eq_true (by omega)
  clear c2
  obtain rfl:=Option.some.inj H
  go_enter Try.func6,Try.ntmps6
  go_wp2
  go_ret
  exact ⟨by first|rfl|(rw [HR_.out];first|done|rfl)|(simp [errW_none,errW_some] <;> rfl)|(simp [*,errW_none,errW_some] <;> rfl),zhb⟩
 ·rw [if_neg c2] at H
  have c2b0:decide (1048576 < (l0.length:Int))=false:=decide_eq_false c2
  have c2b1:decide (1048576 < l0.length)=false:=decide_eq_false (by omega)
  clear c2
  replace H:=Option.bind_eq_some_iff.mp H
  obtain ⟨t368,A30,H⟩:=H
  (try dsimp only at H)
  have A3:=Aside0.mk A30
  clear A30
  replace H:=Option.bind_eq_some_iff.mp H
  obtain ⟨⟨t371,t372⟩,A40,H⟩:=H
  (try dsimp only at H)
  have A4:=Aside0.mk A40
  clear A40
  replace H:=Option.bind_eq_some_iff.mp H
  obtain ⟨⟨t375,t378⟩,A50,H⟩:=H
  (try dsimp only at H)
  have A5:=Aside0.mk A50
  clear A50
  by_cases c6:(t372 != t378)=true
  ·rw [if_pos c6] at H
   have c6b0:(t372 != t378)=true:=c6
   (try (have c6b1:decide (t372=t378)=false:=by simpa using c6))
   (try (have c6b2:(t372 == t378)=false:=by simpa using c6))
   (try (have c6b3 : ¬ (t372=t378):=by simpa using c6))
   clear c6
   by_cases c7:(t372 == t378)=true
   ·rw [if_pos c7] at H
    have c7b0:(t372 == t378)=true:=c7
    (try (have c7b1:decide (t372=t378)=true:=by simpa using c7))
    (try (have c7b2:(t372 == t378)=true:=by simpa using c7))
    clear c7
    exact absurd c7b0 (by have h_:=c6b0;simp at h_ ⊢;exact h_)
   ·rw [if_neg c7] at H
    have c7b0:(t372 == t378)=false:=by simpa using c7
    (try (have c7b1:decide (t372=t378)=false:=by simpa using c7))
    (try (have c7b2:(t372 == t378)=false:=by simpa using c7))
    (try (have c7b3 : ¬ (t372=t378):=by simpa using c7))
    clear c7
    exact absurd ((Option.some.inj H).trans HR_.out) (by decide)
  ·rw [if_neg c6] at H
   have c6b0:(t372 != t378)=false:=by simpa using c6
   (try (have c6b1:decide (t372=t378)=true:=by simpa using c6))
   (try (have c6b2:(t372 == t378)=true:=by simpa using c6))
   clear c6
   replace H:=Option.bind_eq_some_iff.mp H
   obtain ⟨t380,A80,H⟩:=H
   (try dsimp only at H)
   have A8:=Aside0.mk A80
   clear A80
   by_cases c9:t380=true
   ·subst c9
    have H1:(if t372=true then (laws_FnZTwice.l0 k t368 t371 0) else (if (t372 == t378)=true then ((impl_ZSame.f k t371 t375).bind fun t399=>(some t399)) else (some false)))=some r:=by rw [if_pos rfl] at H;exact H
    clear H
    have H:=H1
    clear H1
    by_cases c10:t372=true
    ·subst c10
     have H1:(laws_FnZTwice.l0 k t368 t371 0)=some r:=by rw [if_pos rfl] at H;exact H
     clear H
     have H:=H1
     clear H1
     have H':=Aside0.mk H
     clear H
     go_enter Try.func6,Try.ntmps6
     go_wp2_with (first|((with_reducible refine gate_callee (f:=28) rfl ?_);refine goesL_ (some 15) rfl rfl Try.func28 (by kernel_rfl) rfl #[.slice A0 l0.length c0] rfl zar ?_;(with_reducible refine (spec_DrawZNeg.calls k _ _ l0 t368 _ ?side1 ?side2 A3.out).mono ?_);(case side1=>exact zC HR0.out);(case side2=>exact HC0.out);rintro e w11 ⟨v369,rfl,ho0,hb⟩;refine ⟨_,rfl,?_⟩;have n0_:=Aside0.mk (Kd.N_lower (Kd.N_mono (ok':=fun k_=>True) ho0 (fun k_ hk_=>trivial)) (below_size zhb));have n1_:=Aside0.mk (below_step zhb hb);clear HB;have HO370:=n0_;have HB:=n1_;clear n0_ n1_;(try clear hb);(try clear hb2);(try clear hk);(try clear hi);(try clear ho0);obtain ⟨Ao12,co12,eo12⟩:=Kd.N_slice HO370.out;subst eo12)|((with_reducible refine gate_callee (f:=14) rfl ?_);refine goesL_ (some 19) rfl rfl Try.func14 (by kernel_rfl) rfl #[.slice Ao12 t368.length co12,.slice Ao12 t368.length co12] rfl zar ?_;(with_reducible refine (impl_ZAdd.calls k _ _ t368 _ _ t368 t371 true _ ?side1 ?side2 ?side3 ?side4 A4.out).mono ?_);(case side1=>exact zC (Kd.N_reads' HO370.out).2.2);(case side2=>exact (Kd.N_reads' HO370.out).2.1);(case side3=>exact zC (Kd.N_reads' HO370.out).2.2);(case side4=>exact (Kd.N_reads' HO370.out).2.1);rintro e w13 ⟨v373,rfl,ho0,hb⟩;refine ⟨_,rfl,?_⟩;have n0_:=Aside0.mk (Kd.N_elder' (zN HO370.out) (Kd.S_base ho0) hb);have n1_:=Aside0.mk (Kd.N_lower (Kd.N_mono (ok':=fun k_=>some k_≠(.slice Ao12 t368.length co12:Value).ownBlock) (Kd.S_N (Kd.S_bound ho0)) (fun k_ hk_=>(Kd.fresh' (Kd.N_lt (zN HO370.out)) k_ hk_.2.1))) (below_size zhb));have n2_:=Aside0.mk (below_step zhb hb);clear HO370;clear HB;have HO370:=n0_;have HO374:=n1_;have HB:=n2_;clear n0_ n1_ n2_;(try clear hb);(try clear hb2);(try clear hk);(try clear hi);(try clear ho0))|((with_reducible refine gate_callee (f:=12) rfl ?_);refine goesL_ (some 25) rfl rfl Try.func12 (by kernel_rfl) rfl #[.slice Ao12 t368.length co12,.slice Ao12 t368.length co12] rfl zar ?_;(with_reducible refine (spec_ZAdd.calls k _ _ t368 _ _ t368 t375 t378 _ ?side1 ?side2 ?side3 ?side4 A5.out).mono ?_);(case side1=>exact zC (Kd.N_reads' HO370.out).2.2);(case side2=>exact (Kd.N_reads' HO370.out).2.1);(case side3=>exact zC (Kd.N_reads' HO370.out).2.2);(case side4=>exact (Kd.N_reads' HO370.out).2.1);rintro e w14 ⟨v376,rfl,ho0,hb⟩;refine ⟨_,rfl,?_⟩;have n0_:=Aside0.mk (Kd.N_below (zN HO370.out) hb);have n1_:=Aside0.mk (Kd.N_below (zN HO374.out) hb);have n2_:=Aside0.mk (Kd.V_lower (Kd.V_mono (ok':=fun k_=>some k_≠(.slice Ao12 t368.length co12:Value).ownBlock∧some k_≠(v373:Value).ownBlock) ho0 (fun k_ hk_=>⟨(Kd.fresh' (Kd.N_lt (zN HO370.out)) k_ hk_),(Kd.fresh' (Kd.N_lt (zN HO374.out)) k_ hk_)⟩)) (below_size zhb));have n3_:=Aside0.mk (below_step zhb hb);clear HO370;clear HO374;clear HB;have HO370:=n0_;have HO374:=n1_;have HO377:=n2_;have HB:=n3_;clear n0_ n1_ n2_ n3_;(try clear hb);(try clear hb2);(try clear hk);(try clear hi);(try clear ho0);obtain ⟨Ao15,co15,eo15⟩:=Kd.N_slice HO374.out;subst eo15;obtain ⟨Ao16,co16,eo16⟩:=Kd.V_slice HO377.out;subst eo16)|(go_at_call 29;(with_reducible refine (impl_ZSame.calls k _ _ t371 _ _ t375 true _ ?side1 ?side2 ?side3 ?side4 A8.out).mono ?_);(case side1=>exact zC (Kd.N_reads' HO374.out).2.2);(case side2=>exact (Kd.N_reads' HO374.out).2.1);(case side3=>repeat (first|exact (Kd.V_reads' HO377.out).2.2|(with_reducible refine Kd.C_alloc ?_ _)|(with_reducible refine Kd.C_drewN ?_ _)|(with_reducible refine Kd.C_drew ?_)));(case side4=>exact (Kd.V_reads' HO377.out).2.1);rintro e w17 ⟨rfl,hb⟩;have n0_:=Aside0.mk (Kd.N_below (zN HO370.out) hb);have n1_:=Aside0.mk (Kd.N_below (zN HO374.out) hb);have n2_:=Aside0.mk (Kd.V_below (zV HO377.out) hb);have n3_:=Aside0.mk (below_step zhb hb);clear HO370;clear HO374;clear HO377;clear HB;have HO370:=n0_;have HO374:=n1_;have HO377:=n2_;have HB:=n3_;clear n0_ n1_ n2_ n3_;(try clear hb);(try clear hb2);(try clear hk);(try clear hi)))
     go_loopg [8] k (fun kq v8 w'=>∃ (x8_1:Int),v8=.int .i64 x8_1∧Aside0 (laws_FnZTwice.l0 kq t368 t371 x8_1=some r)∧Aside0 (kq≤k)∧Aside0 (Kd.N k54 54 w' w.heap.size (fun k_=>some k_≠((.slice Ao15 t371.length co15):Value).ownBlock) (.slice Ao12 t368.length co12) t368)∧Aside0 (Kd.N k54 54 w' w.heap.size (fun k_=>some k_≠((.slice Ao12 t368.length co12):Value).ownBlock) (.slice Ao15 t371.length co15) t371)∧Aside0 (Below w.heap.size w w'))
     case atStart=>exact ⟨(0),(by first|rfl|(rw [HR_.out];first|done|rfl)|(simp;done)|(simp [*];done)),H',⟨Nat.le_refl _⟩,⟨by (with_reducible repeat (first|apply Kd.N_alloc|apply Kd.N_drewN|apply Kd.N_drew));exact Kd.N_mono HO370.out (fun _ hk=>hk.2)⟩,⟨by (with_reducible repeat (first|apply Kd.N_alloc|apply Kd.N_drewN|apply Kd.N_drew));exact HO374.out⟩,⟨zhb⟩⟩
     case round =>
      clear H'
      try clear c1
      try clear c2
      try clear c2b0
      try clear c2b1
      try clear p2
      try clear c6
      try clear c6b0
      try clear c6b1
      try clear c6b2
      try clear c7
      try clear c7b0
      try clear c7b1
      try clear c7b2
      try clear c9
      try clear c10
      try clear c12
      try clear c14
      obtain ⟨x8_1,rfl,HA,HK1,HO_3,HO_4,HB⟩:=hrel
      cases gk with
      | zero=>exact absurd HA.out (by simp [laws_FnZTwice.l0])
      | succ k1 =>
       have H:=HA.out
       clear HA
       simp only [laws_FnZTwice.l0] at H
       by_cases c18:x8_1 < (t368.length:Int)
       ·rw [if_pos c18] at H
        have c18b0:decide (x8_1 < (t368.length:Int))=true:=decide_eq_true c18
        clear c18
        by_cases c19:0≤x8_1
        ·rw [if_pos c19] at H
         have c19b0:decide (0≤x8_1)=true:=decide_eq_true c19
         clear c19
         replace H:=Option.bind_eq_some_iff.mp H
         obtain ⟨t382,A200,H⟩:=H
         (try dsimp only at H)
         have A20:=Aside0.mk A200
         clear A200
         by_cases c21:t382=(wrap64 (2 * ((rd_T54 t368 x8_1).f1)))
         ·rw [if_pos c21] at H
          have c21b0:(t382 == (wrap64 (2 * ((rd_T54 t368 x8_1).f1))))=true:=beq_iff_eq.mpr c21
          have c21b1:(t382 != (wrap64 (2 * ((rd_T54 t368 x8_1).f1))))=false:=bne_eq_false_iff_eq.mpr c21
          clear c21
          have H':=Aside0.mk H
          clear H
          try go_wp2
          have n0_:=Aside0.mk (Kd.N_drew HO_3.out)
          have n1_:=Aside0.mk (Kd.N_drew HO_4.out)
          have n2_:=Aside0.mk (below_drew1 HB.out)
          clear HO_3
          clear HO_4
          clear HB
          have HO_3:=n0_
          have HO_4:=n1_
          have HB:=n2_
          clear n0_ n1_ n2_
          have p381:0≤(x8_1:Int):=zod
          have q381:x8_1 < (t368.length:Int):=zod
          obtain ⟨ad381,A381_0,c381_0,e381,hx381_0,hx381_1,hl381_0,hi381_0⟩:=at_T54 (Kd.N_reads' HO_3.out).2.2 x8_1 p381 q381
          cases e381
          obtain ⟨ce381,hce381,hMe381,hcc381⟩:=Kd.N_get HO_3.out z54 x8_1 p381 (by first|exact q381|exact zod|(have e_:=(Kd.N_reads' HO_3.out).1;omega))
          obtain ⟨ua381_0,uc381_0,rfl,ul381_0,ge381_0⟩:=k54_openF hMe381
          have hv381_0:=hcc381 0 _ rfl
          rw [Nat.add_zero] at hv381_0
          replace hv381_0:=Option.some.inj (hv381_0.symm.trans hx381_0)
          injection hv381_0 with hva_ hvn_ hvc_
          rw [hva_] at ge381_0
          rw [hvc_] at ul381_0
          have HL381_0:=Aside0.mk (show Kd.V (Kd.int .i64) 3 _ w.heap.size _ _ ((rd_T54 t368 x8_1).f0) from Kd.V_mk ul381_0 ge381_0)
          clear hva_ hvn_ hvc_ ge381_0 ul381_0
          clear hcc381 hce381
          have HR381_0:=Aside0.mk hi381_0
          have HC381_0:=Aside0.mk hl381_0
          clear hi381_0 hl381_0
          replace p381:=eq_true p381
          replace q381:=eq_true q381
          have p383:0≤(x8_1:Int):=zod
          have q383:x8_1 < (t368.length:Int):=zod
          obtain ⟨ad383,A383_0,c383_0,e383,hx383_0,hx383_1,hl383_0,hi383_0⟩:=at_T54 (Kd.N_reads' HO_3.out).2.2 x8_1 p383 q383
          obtain rfl:ad381=ad383:=(by injection e383)
          obtain ⟨ce383,hce383,hMe383,hcc383⟩:=Kd.N_get HO_3.out z54 x8_1 p383 (by first|exact q383|exact zod|(have e_:=(Kd.N_reads' HO_3.out).1;omega))
          obtain ⟨ua383_0,uc383_0,rfl,ul383_0,ge383_0⟩:=k54_openF hMe383
          have hv383_0:=hcc383 0 _ rfl
          rw [Nat.add_zero] at hv383_0
          replace hv383_0:=Option.some.inj (hv383_0.symm.trans hx383_0)
          injection hv383_0 with hva_ hvn_ hvc_
          rw [hva_] at ge383_0
          rw [hvc_] at ul383_0
          have HL383_0:=Aside0.mk (show Kd.V (Kd.int .i64) 3 _ w.heap.size _ _ ((rd_T54 t368 x8_1).f0) from Kd.V_mk ul383_0 ge383_0)
          clear hva_ hvn_ hvc_ ge383_0 ul383_0
          clear hcc383 hce383
          have HR383_0:=Aside0.mk hi383_0
          have HC383_0:=Aside0.mk hl383_0
          clear hi383_0 hl383_0
          replace p383:=eq_true p383
          replace q383:=eq_true q383
          have ea_:=Option.some.inj (hx381_0.symm.trans hx383_0)
          injection ea_ with ea_ en_ ec_
          subst ea_
          subst ec_
          clear en_
          refine start_ (n:=14) (S:=fun w'=>w'.cell? (ad381.add ((x8_1).toNat * 2))=some (.slice A381_0 ((rd_T54 t368 x8_1).f0).length c381_0)∧w'.cell? ⟨(ad381.add ((x8_1).toNat * 2)).block,(ad381.add ((x8_1).toNat * 2)).off + 1,none⟩=some (.int .i64 ((rd_T54 t368 x8_1).f1))∧w'.cell? (ad381.add ((x8_1).toNat * 2))=some (.slice A381_0 ((rd_T54 t368 x8_1).f0).length c381_0)∧w'.cell? ⟨(ad381.add ((x8_1).toNat * 2)).block,(ad381.add ((x8_1).toNat * 2)).off + 1,none⟩=some (.int .i64 ((rd_T54 t368 x8_1).f1))) (ds:=[]) #[X,X,X,X,X,X,X,X,X,X,X,X,X,X] (by kernel_rfl) rfl rfl ⟨hx381_0,hx381_1,hx383_0,hx383_1⟩ (fun hHeld=>?_);refine with_tabW laws_FnZTwice.tab11 laws_FnZTwice.bits11 (fun HT_ HW_=>?_)
          generalize wr.drew=w22 at HO_3 HO_4 HB HL381_0 HL383_0 HR381_0 HR383_0 hx381_0 hx381_1 hx383_0 hx383_1 hHeld ⊢
          refine pure_ (i:=0) (N:=some 55) (v:=?_) (a':=?_) #[Y,X,X,X,X,X,X,X,X,X,X,X,X,X] rfl rfl zan (fun _ _ _ h=>h) (Or.inl ⟨by rfl,?_⟩) ?_ ?_
          rotate_left
          ·intro w'
           go_simp
           with_reducible rfl
          rotate_left
          ·simp only [Act.put,zp1,zp2,zp3,i64_w,i32_w]
           rfl
          refine pure_ (i:=1) (N:=some 56) (v:=?_) (a':=?_) #[Y,Y,X,X,X,X,X,X,X,X,X,X,X,X] rfl rfl zan (fun _ _ _ h=>h) (Or.inl ⟨by rfl,?_⟩) ?_ ?_
          rotate_left
          ·intro w'
           go_simp
           with_reducible rfl
          rotate_left
          ·simp only [Act.put,zp1,zp2,zp3,i64_w,i32_w]
           rfl
          refine pure_ (i:=2) (N:=some 57) (v:=?_) (a':=?_) #[Y,Y,Y,X,X,X,X,X,X,X,X,X,X,X] rfl rfl zan (fun _ _ _ h=>h) (Or.inl ⟨by rfl,?_⟩) ?_ ?_
          rotate_left
          ·intro w'
           go_simp
           with_reducible rfl
          rotate_left
          ·simp only [Act.put,zp1,zp2,zp3,i64_w,i32_w]
           rfl
          refine pure_ (i:=3) (N:=some 58) (v:=?_) (a':=?_) #[Y,Y,Y,Y,X,X,X,X,X,X,X,X,X,X] rfl rfl zan (fun _ _ _ h=>h) (Or.inl ⟨by rfl,?_⟩) ?_ ?_
          rotate_left
          ·intro w'
           go_simp
           with_reducible rfl
          rotate_left
          ·simp only [Act.put,zp1,zp2,zp3,i64_w,i32_w]
           rfl
          refine pure_ (i:=4) (N:=some 59) (v:=?_) (a':=?_) #[Y,Y,Y,Y,Y,X,X,X,X,X,X,X,X,X] rfl rfl zan (fun _ _ _ h=>h) (Or.inl ⟨by rfl,?_⟩) ?_ ?_
          rotate_left
          ·intro w'
           go_simp
           with_reducible rfl
          rotate_left
          ·simp only [Act.put,zp1,zp2,zp3,i64_w,i32_w]
           rfl
          refine pure_ (i:=7) (N:=some 62) (v:=?_) (a':=?_) #[Y,Y,Y,Y,Y,X,X,Y,X,X,X,X,X,X] rfl rfl zan (fun _ _ _ h=>h) (Or.inl ⟨by rfl,?_⟩) ?_ ?_
          rotate_left
          ·intro w'
           go_simp
           with_reducible rfl
          rotate_left
          ·simp only [Act.put,zp1,zp2,zp3,i64_w,i32_w]
           rfl
          refine pure_ (i:=8) (N:=some 63) (v:=?_) (a':=?_) #[Y,Y,Y,Y,Y,X,X,Y,Y,X,X,X,X,X] rfl rfl zan (fun _ _ _ h=>h) (Or.inl ⟨by rfl,?_⟩) ?_ ?_
          rotate_left
          ·intro w'
           go_simp
           with_reducible rfl
          rotate_left
          ·simp only [Act.put,zp1,zp2,zp3,i64_w,i32_w]
           rfl
          refine pure_ (i:=9) (N:=some 64) (v:=?_) (a':=?_) #[Y,Y,Y,Y,Y,X,X,Y,Y,Y,X,X,X,X] rfl rfl zan (fun _ _ _ h=>h) (Or.inl ⟨by rfl,?_⟩) ?_ ?_
          rotate_left
          ·intro w'
           go_simp
           with_reducible rfl
          rotate_left
          ·simp only [Act.put,zp1,zp2,zp3,i64_w,i32_w]
           rfl
          refine pure_ (i:=10) (N:=some 65) (v:=?_) (a':=?_) #[Y,Y,Y,Y,Y,X,X,Y,Y,Y,Y,X,X,X] rfl rfl zan (fun _ _ _ h=>h) (Or.inl ⟨by rfl,?_⟩) ?_ ?_
          rotate_left
          ·intro w'
           go_simp
           with_reducible rfl
          rotate_left
          ·simp only [Act.put,zp1,zp2,zp3,i64_w,i32_w]
           rfl
          refine take_ (i:=5) (N:=some 60) (v:=?_) (a':=?_) #[Y,Y,Y,Y,Y,Y,X,Y,Y,Y,Y,X,X,X] rfl rfl ztw (fun _ _ _ h=>h) (Or.inl ⟨by rfl,?_⟩) hHeld ?_ ?_
          rotate_left
          ·rintro w' ⟨s0,s1,s2,s3⟩
           go_simp
           with_reducible rfl
          rotate_left
          ·simp only [Act.put,zp1,zp2,zp3,i64_w,i32_w]
           rfl
          refine take_ (i:=11) (N:=some 66) (v:=?_) (a':=?_) #[Y,Y,Y,Y,Y,Y,X,Y,Y,Y,Y,Y,X,X] rfl rfl ztw (fun _ _ _ h=>h) (Or.inl ⟨by rfl,?_⟩) hHeld ?_ ?_
          rotate_left
          ·rintro w' ⟨s0,s1,s2,s3⟩
           go_simp
           with_reducible rfl
          rotate_left
          ·simp only [Act.put,zp1,zp2,zp3,i64_w,i32_w]
           rfl
          refine pure_ (i:=12) (N:=some 67) (v:=?_) (a':=?_) #[Y,Y,Y,Y,Y,Y,X,Y,Y,Y,Y,Y,Y,X] rfl rfl zan (fun _ _ _ h=>h) (Or.inl ⟨by rfl,?_⟩) ?_ ?_
          rotate_left
          ·intro w'
           go_simp
           with_reducible rfl
          rotate_left
          ·simp only [Act.put,zp1,zp2,zp3,i64_w,i32_w]
           rfl
          refine one_ (i:=6) (N:=some 61) #[Y,Y,Y,Y,Y,Y,Y,Y,Y,Y,Y,Y,Y,X] rfl rfl (one_of HT_.out (by kernel_rfl)) (by decide) (fun K hK=>?_)
          refine goes_ Try.func30 (by kernel_rfl) rfl #[.slice Ao15 t371.length co15,.slice A381_0 ((rd_T54 t368 x8_1).f0).length c381_0] (by rfl) rfl rfl zar ?_
          with_reducible refine (impl_ZGet.calls k1 _ _ t371 _ _ ((rd_T54 t368 x8_1).f0) t382 _ ?side1 ?side2 ?side3 ?side4 A20.out).mono ?_
          (case side1=>exact zC (Kd.N_reads' HO_4.out).2.2)
          (case side2=>exact (Kd.N_reads' HO_4.out).2.1)
          (case side3=>exact zC (zC HR381_0.out))
          (case side4=>exact HC381_0.out)
          rintro e w23 ⟨rfl,hb⟩
          have HS0_:=zhs hb hHeld.1
          have HS1_:=zhs hb hHeld.2.1
          have HS2_:=zhs hb hHeld.2.2.1
          have HS3_:=zhs hb hHeld.2.2.2
          refine ⟨_,rfl,?_⟩
          have n0_:=Aside0.mk (Kd.N_below (zN HO_3.out) hb)
          have n1_:=Aside0.mk (Kd.N_below (zN HO_4.out) hb)
          have n2_:=Aside0.mk (Kd.V_below (zV HL381_0.out) hb)
          have n3_:=Aside0.mk (Kd.C_below (zC HR381_0.out) hb)
          have n4_:=Aside0.mk (below_step zhb hb)
          clear HO_3
          clear HO_4
          clear HL381_0
          clear HR381_0
          clear HB
          have HO_3:=n0_
          have HO_4:=n1_
          have HL381_0:=n2_
          have HR381_0:=n3_
          have HB:=n4_
          clear n0_ n1_ n2_ n3_ n4_
          (try clear hb)
          (try clear hb2)
          (try clear hk)
          (try clear hi)
          refine hK.out _ _ ⟨HS0_,HS1_,HS2_,HS3_⟩ (fun hHeld=>?_)
          clear hK K
          refine norm_ (a':=?_) ?_ ?_
          rotate_left
          ·show Act.put _ (some 61) _=_
           simp only [Act.put,zp1,zp2,zp3,i64_w,i32_w]
           rfl
          refine pure_ (i:=13) (N:=some 68) (v:=?_) (a':=?_) #[Y,Y,Y,Y,Y,Y,Y,Y,Y,Y,Y,Y,Y,Y] rfl rfl zan (fun _ _ _ h=>h) (Or.inl ⟨by rfl,?_⟩) ?_ ?_
          rotate_left
          ·intro w'
           go_simp
           with_reducible rfl
          rotate_left
          ·simp only [Act.put,zp1,zp2,zp3,i64_w,i32_w]
           rfl
          refine done_ (done_of HT_.out (by kernel_rfl)) ?_
          try go_wp2
          go_roundg k1
          case measure=>have:=HK1.out;omega
          case rel=>exact ⟨(wrap64 (x8_1 + 1)),(by first|rfl|(rw [HR_.out];first|done|rfl)|(simp;done)|(simp [*];done)),H',⟨by have:=HK1.out;omega⟩,⟨by (with_reducible repeat (first|apply Kd.N_alloc|apply Kd.N_drewN|apply Kd.N_drew));exact HO_3.out⟩,⟨by (with_reducible repeat (first|apply Kd.N_alloc|apply Kd.N_drewN|apply Kd.N_drew));exact HO_4.out⟩,⟨zhb⟩⟩
         ·rw [if_neg c21] at H
          have c21b0:(t382 == (wrap64 (2 * ((rd_T54 t368 x8_1).f1))))=false:=beq_eq_false_iff_ne.mpr c21
          have c21b1:(t382 != (wrap64 (2 * ((rd_T54 t368 x8_1).f1))))=true:=bne_iff_ne.mpr c21
          exact absurd ((Option.some.inj H).trans HR_.out) (by decide)
        ·rw [if_neg c19] at H
         exact absurd H (by simp)
       ·rw [if_neg c18] at H
        have c18b0:decide (x8_1 < (t368.length:Int))=false:=decide_eq_false c18
        clear c18
        replace H:=Option.bind_eq_some_iff.mp H
        obtain ⟨t384,A240,H⟩:=H
        (try dsimp only at H)
        have A24:=Aside0.mk A240
        clear A240
        replace H:=Option.bind_eq_some_iff.mp H
        obtain ⟨⟨t387,t388⟩,A250,H⟩:=H
        (try dsimp only at H)
        have A25:=Aside0.mk A250
        clear A250
        by_cases c26:t388=true
        ·subst c26
         have H1:((impl_ZSame.f k1 t387 t368).bind fun t391=>(if t391=true then (if (t371.length:Int)=(t368.length:Int) then ((impl_ZPos.f k1 t371).bind fun t392=>((impl_ZPos.f k1 t368).bind fun t395=>((impl_ZSame.f k1 t392 t395).bind fun t398=>(some t398)))) else (some false)) else (some false)))=some r:=by rw [if_pos rfl] at H;exact H
         clear H
         have H:=H1
         clear H1
         replace H:=Option.bind_eq_some_iff.mp H
         obtain ⟨t391,A270,H⟩:=H
         (try dsimp only at H)
         have A27:=Aside0.mk A270
         clear A270
         by_cases c28:t391=true
         ·subst c28
          have H1:(if (t371.length:Int)=(t368.length:Int) then ((impl_ZPos.f k1 t371).bind fun t392=>((impl_ZPos.f k1 t368).bind fun t395=>((impl_ZSame.f k1 t392 t395).bind fun t398=>(some t398)))) else (some false))=some r:=by rw [if_pos rfl] at H;exact H
          clear H
          have H:=H1
          clear H1
          by_cases c29:(t371.length:Int)=(t368.length:Int)
          ·rw [if_pos c29] at H
           have c29b0:((t371.length:Int) == (t368.length:Int))=true:=beq_iff_eq.mpr c29
           have c29b1:((t371.length:Int) != (t368.length:Int))=false:=bne_eq_false_iff_eq.mpr c29
           have c29b2:(t371.length == t368.length)=true:=by first|simpa using c29|(simp at c29 ⊢;omega)
           clear c29
           replace H:=Option.bind_eq_some_iff.mp H
           obtain ⟨t392,A300,H⟩:=H
           (try dsimp only at H)
           have A30:=Aside0.mk A300
           clear A300
           replace H:=Option.bind_eq_some_iff.mp H
           obtain ⟨t395,A310,H⟩:=H
           (try dsimp only at H)
           have A31:=Aside0.mk A310
           clear A310
           replace H:=Option.bind_eq_some_iff.mp H
           obtain ⟨t398,A320,H⟩:=H
           (try dsimp only at H)
           have A32:=Aside0.mk A320
           clear A320
           obtain rfl:=Option.some.inj H
           go_wp2_with (first|((with_reducible refine gate_callee (f:=31) rfl ?_);refine goesL_ (some 72) rfl rfl Try.func31 (by kernel_rfl) rfl #[.slice Ao12 t368.length co12] rfl zar ?_;(with_reducible refine (impl_ZNeg.calls k1 _ _ t368 t384 _ ?side1 ?side2 A24.out).mono ?_);(case side1=>exact zC (Kd.N_reads' HO_3.out).2.2);(case side2=>exact (Kd.N_reads' HO_3.out).2.1);rintro e w33 ⟨v385,rfl,ho0,hb⟩;refine ⟨_,rfl,?_⟩;have n0_:=Aside0.mk (Kd.N_elder' (zN HO_3.out) (Kd.S_base ho0) hb);have n1_:=Aside0.mk (Kd.N_elder' (zN HO_4.out) (Kd.S_base ho0) hb);have n2_:=Aside0.mk (Kd.N_lower (Kd.N_mono (ok':=fun k_=>some k_≠(.slice Ao12 t368.length co12:Value).ownBlock∧some k_≠(.slice Ao15 t371.length co15:Value).ownBlock) (Kd.S_N (Kd.S_bound ho0)) (fun k_ hk_=>⟨(Kd.fresh' (Kd.N_lt (zN HO_3.out)) k_ hk_.2.1),(Kd.fresh' (Kd.N_lt (zN HO_4.out)) k_ hk_.2.1)⟩)) (below_size zhb));have n3_:=Aside0.mk (below_step zhb hb);clear HO_3;clear HO_4;clear HB;have HO_3:=n0_;have HO_4:=n1_;have HO386:=n2_;have HB:=n3_;clear n0_ n1_ n2_ n3_;(try clear hb);(try clear hb2);(try clear hk);(try clear hi);(try clear ho0);obtain ⟨Ao34,co34,eo34⟩:=Kd.N_slice HO386.out;subst eo34)|((with_reducible refine gate_callee (f:=14) rfl ?_);refine goesL_ (some 73) rfl rfl Try.func14 (by kernel_rfl) rfl #[.slice Ao15 t371.length co15,.slice Ao34 t384.length co34] rfl zar ?_;(with_reducible refine (impl_ZAdd.calls k1 _ _ t371 _ _ t384 t387 true _ ?side1 ?side2 ?side3 ?side4 A25.out).mono ?_);(case side1=>exact zC (Kd.N_reads' HO_4.out).2.2);(case side2=>exact (Kd.N_reads' HO_4.out).2.1);(case side3=>exact zC (Kd.N_reads' HO386.out).2.2);(case side4=>exact (Kd.N_reads' HO386.out).2.1);rintro e w35 ⟨v389,rfl,ho0,hb⟩;refine ⟨_,rfl,?_⟩;have n0_:=Aside0.mk (Kd.N_elder' (zN HO_3.out) (Kd.S_base ho0) hb);have n1_:=Aside0.mk (Kd.N_elder' (zN HO_4.out) (Kd.S_base ho0) hb);have n2_:=Aside0.mk (Kd.N_elder' (zN HO386.out) (Kd.S_base ho0) hb);have n3_:=Aside0.mk (Kd.N_lower (Kd.N_mono (ok':=fun k_=>some k_≠(.slice Ao12 t368.length co12:Value).ownBlock∧some k_≠(.slice Ao15 t371.length co15:Value).ownBlock∧some k_≠(.slice Ao34 t384.length co34:Value).ownBlock) (Kd.S_N (Kd.S_bound ho0)) (fun k_ hk_=>⟨(Kd.fresh' (Kd.N_lt (zN HO_3.out)) k_ hk_.2.1),(Kd.fresh' (Kd.N_lt (zN HO_4.out)) k_ hk_.2.1),(Kd.fresh' (Kd.N_lt (zN HO386.out)) k_ hk_.2.1)⟩)) (below_size zhb));have n4_:=Aside0.mk (below_step zhb hb);clear HO_3;clear HO_4;clear HO386;clear HB;have HO_3:=n0_;have HO_4:=n1_;have HO386:=n2_;have HO390:=n3_;have HB:=n4_;clear n0_ n1_ n2_ n3_ n4_;(try clear hb);(try clear hb2);(try clear hk);(try clear hi);(try clear ho0);obtain ⟨Ao36,co36,eo36⟩:=Kd.N_slice HO390.out;subst eo36)|(go_at_call 29;(with_reducible refine (impl_ZSame.calls k1 _ _ t387 _ _ t368 true _ ?side1 ?side2 ?side3 ?side4 A27.out).mono ?_);(case side1=>exact zC (Kd.N_reads' HO390.out).2.2);(case side2=>exact (Kd.N_reads' HO390.out).2.1);(case side3=>exact zC (Kd.N_reads' HO_3.out).2.2);(case side4=>exact (Kd.N_reads' HO_3.out).2.1);rintro e w37 ⟨rfl,hb⟩;have n0_:=Aside0.mk (Kd.N_below (zN HO_3.out) hb);have n1_:=Aside0.mk (Kd.N_below (zN HO_4.out) hb);have n2_:=Aside0.mk (Kd.N_below (zN HO386.out) hb);have n3_:=Aside0.mk (Kd.N_below (zN HO390.out) hb);have n4_:=Aside0.mk (below_step zhb hb);clear HO_3;clear HO_4;clear HO386;clear HO390;clear HB;have HO_3:=n0_;have HO_4:=n1_;have HO386:=n2_;have HO390:=n3_;have HB:=n4_;clear n0_ n1_ n2_ n3_ n4_;(try clear hb);(try clear hb2);(try clear hk);(try clear hi))|(go_at_call 32;(with_reducible refine (impl_ZPos.calls k1 _ _ t371 t392 _ ?side1 ?side2 A30.out).mono ?_);(case side1=>exact zC (Kd.N_reads' HO_4.out).2.2);(case side2=>exact (Kd.N_reads' HO_4.out).2.1);rintro e w38 ⟨v393,rfl,ho0,hb⟩;have n0_:=Aside0.mk (Kd.N_elder' (zN HO_3.out) (Kd.S_base ho0) hb);have n1_:=Aside0.mk (Kd.N_elder' (zN HO_4.out) (Kd.S_base ho0) hb);have n2_:=Aside0.mk (Kd.N_elder' (zN HO386.out) (Kd.S_base ho0) hb);have n3_:=Aside0.mk (Kd.N_elder' (zN HO390.out) (Kd.S_base ho0) hb);have n4_:=Aside0.mk (Kd.N_lower (Kd.N_mono (ok':=fun k_=>some k_≠(.slice Ao12 t368.length co12:Value).ownBlock∧some k_≠(.slice Ao15 t371.length co15:Value).ownBlock∧some k_≠(.slice Ao34 t384.length co34:Value).ownBlock∧some k_≠(.slice Ao36 t387.length co36:Value).ownBlock) (Kd.S_N (Kd.S_bound ho0)) (fun k_ hk_=>⟨(Kd.fresh' (Kd.N_lt (zN HO_3.out)) k_ hk_.2.1),(Kd.fresh' (Kd.N_lt (zN HO_4.out)) k_ hk_.2.1),(Kd.fresh' (Kd.N_lt (zN HO386.out)) k_ hk_.2.1),(Kd.fresh' (Kd.N_lt (zN HO390.out)) k_ hk_.2.1)⟩)) (below_size zhb));have n5_:=Aside0.mk (below_step zhb hb);clear HO_3;clear HO_4;clear HO386;clear HO390;clear HB;have HO_3:=n0_;have HO_4:=n1_;have HO386:=n2_;have HO390:=n3_;have HO394:=n4_;have HB:=n5_;clear n0_ n1_ n2_ n3_ n4_ n5_;(try clear hb);(try clear hb2);(try clear hk);(try clear hi);(try clear ho0))|(go_at_call 32;(with_reducible refine (impl_ZPos.calls k1 _ _ t368 t395 _ ?side1 ?side2 A31.out).mono ?_);(case side1=>exact zC (Kd.N_reads' HO_3.out).2.2);(case side2=>exact (Kd.N_reads' HO_3.out).2.1);rintro e w39 ⟨v396,rfl,ho0,hb⟩;have n0_:=Aside0.mk (Kd.N_elder' (zN HO_3.out) (Kd.S_base ho0) hb);have n1_:=Aside0.mk (Kd.N_elder' (zN HO_4.out) (Kd.S_base ho0) hb);have n2_:=Aside0.mk (Kd.N_elder' (zN HO386.out) (Kd.S_base ho0) hb);have n3_:=Aside0.mk (Kd.N_elder' (zN HO390.out) (Kd.S_base ho0) hb);have n4_:=Aside0.mk (Kd.N_elder' (zN HO394.out) (Kd.S_base ho0) hb);have n5_:=Aside0.mk (Kd.N_lower (Kd.N_mono (ok':=fun k_=>some k_≠(.slice Ao12 t368.length co12:Value).ownBlock∧some k_≠(.slice Ao15 t371.length co15:Value).ownBlock∧some k_≠(.slice Ao34 t384.length co34:Value).ownBlock∧some k_≠(.slice Ao36 t387.length co36:Value).ownBlock∧some k_≠(v393:Value).ownBlock) (Kd.S_N (Kd.S_bound ho0)) (fun k_ hk_=>⟨(Kd.fresh' (Kd.N_lt (zN HO_3.out)) k_ hk_.2.1),(Kd.fresh' (Kd.N_lt (zN HO_4.out)) k_ hk_.2.1),(Kd.fresh' (Kd.N_lt (zN HO386.out)) k_ hk_.2.1),(Kd.fresh' (Kd.N_lt (zN HO390.out)) k_ hk_.2.1),(Kd.fresh' (Kd.N_lt (zN HO394.out)) k_ hk_.2.1)⟩)) (below_size zhb));have n6_:=Aside0.mk (below_step zhb hb);clear HO_3;clear HO_4;clear HO386;clear HO390;clear HO394;clear HB;have HO_3:=n0_;have HO_4:=n1_;have HO386:=n2_;have HO390:=n3_;have HO394:=n4_;have HO397:=n5_;have HB:=n6_;clear n0_ n1_ n2_ n3_ n4_ n5_ n6_;(try clear hb);(try clear hb2);(try clear hk);(try clear hi);(try clear ho0);obtain ⟨Ao40,co40,eo40⟩:=Kd.N_slice HO394.out;subst eo40;obtain ⟨Ao41,co41,eo41⟩:=Kd.N_slice HO397.out;subst eo41)|(go_at_call 29;(with_reducible refine (impl_ZSame.calls k1 _ _ t392 _ _ t395 t398 _ ?side1 ?side2 ?side3 ?side4 A32.out).mono ?_);(case side1=>exact zC (Kd.N_reads' HO394.out).2.2);(case side2=>exact (Kd.N_reads' HO394.out).2.1);(case side3=>exact zC (Kd.N_reads' HO397.out).2.2);(case side4=>exact (Kd.N_reads' HO397.out).2.1);rintro e w42 ⟨rfl,hb⟩;have n0_:=Aside0.mk (Kd.N_below (zN HO_3.out) hb);have n1_:=Aside0.mk (Kd.N_below (zN HO_4.out) hb);have n2_:=Aside0.mk (Kd.N_below (zN HO386.out) hb);have n3_:=Aside0.mk (Kd.N_below (zN HO390.out) hb);have n4_:=Aside0.mk (Kd.N_below (zN HO394.out) hb);have n5_:=Aside0.mk (Kd.N_below (zN HO397.out) hb);have n6_:=Aside0.mk (below_step zhb hb);clear HO_3;clear HO_4;clear HO386;clear HO390;clear HO394;clear HO397;clear HB;have HO_3:=n0_;have HO_4:=n1_;have HO386:=n2_;have HO390:=n3_;have HO394:=n4_;have HO397:=n5_;have HB:=n6_;clear n0_ n1_ n2_ n3_ n4_ n5_ n6_;(try clear hb);(try clear hb2);(try clear hk);(try clear hi)))
           go_ret
           exact ⟨by first|rfl|(rw [HR_.out];first|done|rfl)|(simp [errW_none,errW_some] <;> rfl)|(simp [*,errW_none,errW_some] <;> rfl),zhb⟩
          ·rw [if_neg c29] at H
           have c29b0:((t371.length:Int) == (t368.length:Int))=false:=beq_eq_false_iff_ne.mpr c29
           have c29b1:((t371.length:Int) != (t368.length:Int))=true:=bne_iff_ne.mpr c29
           have c29b2:(t371.length == t368.length)=false:=by first|simpa using c29|(simp at c29 ⊢;omega)
           exact absurd ((Option.some.inj H).trans HR_.out) (by decide)
         ·replace c28:=Bool.eq_false_iff.mpr c28
          subst c28
          have H1:(some false)=some r:=by rw [if_neg (show ¬ (false=true) by decide)] at H;exact H
          clear H
          have H:=H1
          clear H1
          exact absurd ((Option.some.inj H).trans HR_.out) (by decide)
        ·replace c26:=Bool.eq_false_iff.mpr c26
         subst c26
         have H1:(some false)=some r:=by rw [if_neg (show ¬ (false=true) by decide)] at H;exact H
         clear H
         have H:=H1
         clear H1
         exact absurd ((Option.some.inj H).trans HR_.out) (by decide)
    ·replace c10:=Bool.eq_false_iff.mpr c10
     subst c10
     have H1:(if (false == t378)=true then ((impl_ZSame.f k t371 t375).bind fun t399=>(some t399)) else (some false))=some r:=by rw [if_neg (show ¬ (false=true) by decide)] at H;exact H
     clear H
     have H:=H1
     clear H1
     by_cases c43:(false == t378)=true
     ·rw [if_pos c43] at H
      have c43b0:(false == t378)=true:=c43
      (try (have c43b1:decide (false=t378)=true:=by simpa using c43))
      (try (have c43b2:(false == t378)=true:=by simpa using c43))
      clear c43
      replace H:=Option.bind_eq_some_iff.mp H
      obtain ⟨t399,A440,H⟩:=H
      (try dsimp only at H)
      have A44:=Aside0.mk A440
      clear A440
      obtain rfl:=Option.some.inj H
      go_enter Try.func6,Try.ntmps6
      go_wp2_with (first|((with_reducible refine gate_callee (f:=28) rfl ?_);refine goesL_ (some 15) rfl rfl Try.func28 (by kernel_rfl) rfl #[.slice A0 l0.length c0] rfl zar ?_;(with_reducible refine (spec_DrawZNeg.calls k _ _ l0 t368 _ ?side1 ?side2 A3.out).mono ?_);(case side1=>exact zC HR0.out);(case side2=>exact HC0.out);rintro e w45 ⟨v369,rfl,ho0,hb⟩;refine ⟨_,rfl,?_⟩;have n0_:=Aside0.mk (Kd.N_lower (Kd.N_mono (ok':=fun k_=>True) ho0 (fun k_ hk_=>trivial)) (below_size zhb));have n1_:=Aside0.mk (below_step zhb hb);clear HB;have HO370:=n0_;have HB:=n1_;clear n0_ n1_;(try clear hb);(try clear hb2);(try clear hk);(try clear hi);(try clear ho0);obtain ⟨Ao46,co46,eo46⟩:=Kd.N_slice HO370.out;subst eo46)|((with_reducible refine gate_callee (f:=14) rfl ?_);refine goesL_ (some 19) rfl rfl Try.func14 (by kernel_rfl) rfl #[.slice Ao46 t368.length co46,.slice Ao46 t368.length co46] rfl zar ?_;(with_reducible refine (impl_ZAdd.calls k _ _ t368 _ _ t368 t371 false _ ?side1 ?side2 ?side3 ?side4 A4.out).mono ?_);(case side1=>exact zC (Kd.N_reads' HO370.out).2.2);(case side2=>exact (Kd.N_reads' HO370.out).2.1);(case side3=>exact zC (Kd.N_reads' HO370.out).2.2);(case side4=>exact (Kd.N_reads' HO370.out).2.1);rintro e w47 ⟨v373,rfl,ho0,hb⟩;refine ⟨_,rfl,?_⟩;have n0_:=Aside0.mk (Kd.N_elder' (zN HO370.out) (Kd.S_base ho0) hb);have n1_:=Aside0.mk (Kd.N_lower (Kd.N_mono (ok':=fun k_=>some k_≠(.slice Ao46 t368.length co46:Value).ownBlock) (Kd.S_N (Kd.S_bound ho0)) (fun k_ hk_=>(Kd.fresh' (Kd.N_lt (zN HO370.out)) k_ hk_.2.1))) (below_size zhb));have n2_:=Aside0.mk (below_step zhb hb);clear HO370;clear HB;have HO370:=n0_;have HO374:=n1_;have HB:=n2_;clear n0_ n1_ n2_;(try clear hb);(try clear hb2);(try clear hk);(try clear hi);(try clear ho0))|((with_reducible refine gate_callee (f:=12) rfl ?_);refine goesL_ (some 25) rfl rfl Try.func12 (by kernel_rfl) rfl #[.slice Ao46 t368.length co46,.slice Ao46 t368.length co46] rfl zar ?_;(with_reducible refine (spec_ZAdd.calls k _ _ t368 _ _ t368 t375 t378 _ ?side1 ?side2 ?side3 ?side4 A5.out).mono ?_);(case side1=>exact zC (Kd.N_reads' HO370.out).2.2);(case side2=>exact (Kd.N_reads' HO370.out).2.1);(case side3=>exact zC (Kd.N_reads' HO370.out).2.2);(case side4=>exact (Kd.N_reads' HO370.out).2.1);rintro e w48 ⟨v376,rfl,ho0,hb⟩;refine ⟨_,rfl,?_⟩;have n0_:=Aside0.mk (Kd.N_below (zN HO370.out) hb);have n1_:=Aside0.mk (Kd.N_below (zN HO374.out) hb);have n2_:=Aside0.mk (Kd.V_lower (Kd.V_mono (ok':=fun k_=>some k_≠(.slice Ao46 t368.length co46:Value).ownBlock∧some k_≠(v373:Value).ownBlock) ho0 (fun k_ hk_=>⟨(Kd.fresh' (Kd.N_lt (zN HO370.out)) k_ hk_),(Kd.fresh' (Kd.N_lt (zN HO374.out)) k_ hk_)⟩)) (below_size zhb));have n3_:=Aside0.mk (below_step zhb hb);clear HO370;clear HO374;clear HB;have HO370:=n0_;have HO374:=n1_;have HO377:=n2_;have HB:=n3_;clear n0_ n1_ n2_ n3_;(try clear hb);(try clear hb2);(try clear hk);(try clear hi);(try clear ho0);obtain ⟨Ao49,co49,eo49⟩:=Kd.N_slice HO374.out;subst eo49;obtain ⟨Ao50,co50,eo50⟩:=Kd.V_slice HO377.out;subst eo50)|(go_at_call 29;(with_reducible refine (impl_ZSame.calls k _ _ t371 _ _ t375 true _ ?side1 ?side2 ?side3 ?side4 A8.out).mono ?_);(case side1=>exact zC (Kd.N_reads' HO374.out).2.2);(case side2=>exact (Kd.N_reads' HO374.out).2.1);(case side3=>repeat (first|exact (Kd.V_reads' HO377.out).2.2|(with_reducible refine Kd.C_alloc ?_ _)|(with_reducible refine Kd.C_drewN ?_ _)|(with_reducible refine Kd.C_drew ?_)));(case side4=>exact (Kd.V_reads' HO377.out).2.1);rintro e w51 ⟨rfl,hb⟩;have n0_:=Aside0.mk (Kd.N_below (zN HO370.out) hb);have n1_:=Aside0.mk (Kd.N_below (zN HO374.out) hb);have n2_:=Aside0.mk (Kd.V_below (zV HO377.out) hb);have n3_:=Aside0.mk (below_step zhb hb);clear HO370;clear HO374;clear HO377;clear HB;have HO370:=n0_;have HO374:=n1_;have HO377:=n2_;have HB:=n3_;clear n0_ n1_ n2_ n3_;(try clear hb);(try clear hb2);(try clear hk);(try clear hi))|(go_at_call 29;(with_reducible refine (impl_ZSame.calls k _ _ t371 _ _ t375 t399 _ ?side1 ?side2 ?side3 ?side4 A44.out).mono ?_);(case side1=>exact zC (Kd.N_reads' HO374.out).2.2);(case side2=>exact (Kd.N_reads' HO374.out).2.1);(case side3=>repeat (first|exact (Kd.V_reads' HO377.out).2.2|(with_reducible refine Kd.C_alloc ?_ _)|(with_reducible refine Kd.C_drewN ?_ _)|(with_reducible refine Kd.C_drew ?_)));(case side4=>exact (Kd.V_reads' HO377.out).2.1);rintro e w52 ⟨rfl,hb⟩;have n0_:=Aside0.mk (Kd.N_below (zN HO370.out) hb);have n1_:=Aside0.mk (Kd.N_below (zN HO374.out) hb);have n2_:=Aside0.mk (Kd.V_below (zV HO377.out) hb);have n3_:=Aside0.mk (below_step zhb hb);clear HO370;clear HO374;clear HO377;clear HB;have HO370:=n0_;have HO374:=n1_;have HO377:=n2_;have HB:=n3_;clear n0_ n1_ n2_ n3_;(try clear hb);(try clear hb2);(try clear hk);(try clear hi)))
      go_ret
      exact ⟨by first|rfl|(rw [HR_.out];first|done|rfl)|(simp [errW_none,errW_some] <;> rfl)|(exact absurd ((Option.some.inj (A8.out.symm.trans A44.out)).trans HR_.out) (by decide))|(simp [*,errW_none,errW_some] <;> rfl),zhb⟩
     ·rw [if_neg c43] at H
      have c43b0:(false == t378)=false:=by simpa using c43
      (try (have c43b1:decide (false=t378)=false:=by simpa using c43))
      (try (have c43b2:(false == t378)=false:=by simpa using c43))
      (try (have c43b3 : ¬ (false=t378):=by simpa using c43))
      clear c43
      exact absurd ((Option.some.inj H).trans HR_.out) (by decide)
   ·replace c9:=Bool.eq_false_iff.mpr c9
    subst c9
    have H1:(if (t372 == t378)=true then ((impl_ZSame.f k t371 t375).bind fun t400=>(some t400)) else (some false))=some r:=by rw [if_neg (show ¬ (false=true) by decide)] at H;exact H
    clear H
    have H:=H1
    clear H1
    by_cases c53:(t372 == t378)=true
    ·rw [if_pos c53] at H
     have c53b0:(t372 == t378)=true:=c53
     (try (have c53b1:decide (t372=t378)=true:=by simpa using c53))
     (try (have c53b2:(t372 == t378)=true:=by simpa using c53))
     clear c53
     replace H:=Option.bind_eq_some_iff.mp H
     obtain ⟨t400,A540,H⟩:=H
     (try dsimp only at H)
     have A54:=Aside0.mk A540
     clear A540
     obtain rfl:=Option.some.inj H
     go_enter Try.func6,Try.ntmps6
     go_wp2_with (first|((with_reducible refine gate_callee (f:=28) rfl ?_);refine goesL_ (some 15) rfl rfl Try.func28 (by kernel_rfl) rfl #[.slice A0 l0.length c0] rfl zar ?_;(with_reducible refine (spec_DrawZNeg.calls k _ _ l0 t368 _ ?side1 ?side2 A3.out).mono ?_);(case side1=>exact zC HR0.out);(case side2=>exact HC0.out);rintro e w55 ⟨v369,rfl,ho0,hb⟩;refine ⟨_,rfl,?_⟩;have n0_:=Aside0.mk (Kd.N_lower (Kd.N_mono (ok':=fun k_=>True) ho0 (fun k_ hk_=>trivial)) (below_size zhb));have n1_:=Aside0.mk (below_step zhb hb);clear HB;have HO370:=n0_;have HB:=n1_;clear n0_ n1_;(try clear hb);(try clear hb2);(try clear hk);(try clear hi);(try clear ho0);obtain ⟨Ao56,co56,eo56⟩:=Kd.N_slice HO370.out;subst eo56)|((with_reducible refine gate_callee (f:=14) rfl ?_);refine goesL_ (some 19) rfl rfl Try.func14 (by kernel_rfl) rfl #[.slice Ao56 t368.length co56,.slice Ao56 t368.length co56] rfl zar ?_;(with_reducible refine (impl_ZAdd.calls k _ _ t368 _ _ t368 t371 t372 _ ?side1 ?side2 ?side3 ?side4 A4.out).mono ?_);(case side1=>exact zC (Kd.N_reads' HO370.out).2.2);(case side2=>exact (Kd.N_reads' HO370.out).2.1);(case side3=>exact zC (Kd.N_reads' HO370.out).2.2);(case side4=>exact (Kd.N_reads' HO370.out).2.1);rintro e w57 ⟨v373,rfl,ho0,hb⟩;refine ⟨_,rfl,?_⟩;have n0_:=Aside0.mk (Kd.N_elder' (zN HO370.out) (Kd.S_base ho0) hb);have n1_:=Aside0.mk (Kd.N_lower (Kd.N_mono (ok':=fun k_=>some k_≠(.slice Ao56 t368.length co56:Value).ownBlock) (Kd.S_N (Kd.S_bound ho0)) (fun k_ hk_=>(Kd.fresh' (Kd.N_lt (zN HO370.out)) k_ hk_.2.1))) (below_size zhb));have n2_:=Aside0.mk (below_step zhb hb);clear HO370;clear HB;have HO370:=n0_;have HO374:=n1_;have HB:=n2_;clear n0_ n1_ n2_;(try clear hb);(try clear hb2);(try clear hk);(try clear hi);(try clear ho0))|((with_reducible refine gate_callee (f:=12) rfl ?_);refine goesL_ (some 25) rfl rfl Try.func12 (by kernel_rfl) rfl #[.slice Ao56 t368.length co56,.slice Ao56 t368.length co56] rfl zar ?_;(with_reducible refine (spec_ZAdd.calls k _ _ t368 _ _ t368 t375 t378 _ ?side1 ?side2 ?side3 ?side4 A5.out).mono ?_);(case side1=>exact zC (Kd.N_reads' HO370.out).2.2);(case side2=>exact (Kd.N_reads' HO370.out).2.1);(case side3=>exact zC (Kd.N_reads' HO370.out).2.2);(case side4=>exact (Kd.N_reads' HO370.out).2.1);rintro e w58 ⟨v376,rfl,ho0,hb⟩;refine ⟨_,rfl,?_⟩;have n0_:=Aside0.mk (Kd.N_below (zN HO370.out) hb);have n1_:=Aside0.mk (Kd.N_below (zN HO374.out) hb);have n2_:=Aside0.mk (Kd.V_lower (Kd.V_mono (ok':=fun k_=>some k_≠(.slice Ao56 t368.length co56:Value).ownBlock∧some k_≠(v373:Value).ownBlock) ho0 (fun k_ hk_=>⟨(Kd.fresh' (Kd.N_lt (zN HO370.out)) k_ hk_),(Kd.fresh' (Kd.N_lt (zN HO374.out)) k_ hk_)⟩)) (below_size zhb));have n3_:=Aside0.mk (below_step zhb hb);clear HO370;clear HO374;clear HB;have HO370:=n0_;have HO374:=n1_;have HO377:=n2_;have HB:=n3_;clear n0_ n1_ n2_ n3_;(try clear hb);(try clear hb2);(try clear hk);(try clear hi);(try clear ho0);obtain ⟨Ao59,co59,eo59⟩:=Kd.N_slice HO374.out;subst eo59;obtain ⟨Ao60,co60,eo60⟩:=Kd.V_slice HO377.out;subst eo60)|(go_at_call 29;(with_reducible refine (impl_ZSame.calls k _ _ t371 _ _ t375 false _ ?side1 ?side2 ?side3 ?side4 A8.out).mono ?_);(case side1=>exact zC (Kd.N_reads' HO374.out).2.2);(case side2=>exact (Kd.N_reads' HO374.out).2.1);(case side3=>repeat (first|exact (Kd.V_reads' HO377.out).2.2|(with_reducible refine Kd.C_alloc ?_ _)|(with_reducible refine Kd.C_drewN ?_ _)|(with_reducible refine Kd.C_drew ?_)));(case side4=>exact (Kd.V_reads' HO377.out).2.1);rintro e w61 ⟨rfl,hb⟩;have n0_:=Aside0.mk (Kd.N_below (zN HO370.out) hb);have n1_:=Aside0.mk (Kd.N_below (zN HO374.out) hb);have n2_:=Aside0.mk (Kd.V_below (zV HO377.out) hb);have n3_:=Aside0.mk (below_step zhb hb);clear HO370;clear HO374;clear HO377;clear HB;have HO370:=n0_;have HO374:=n1_;have HO377:=n2_;have HB:=n3_;clear n0_ n1_ n2_ n3_;(try clear hb);(try clear hb2);(try clear hk);(try clear hi))|(go_at_call 29;(with_reducible refine (impl_ZSame.calls k _ _ t371 _ _ t375 t400 _ ?side1 ?side2 ?side3 ?side4 A54.out).mono ?_);(case side1=>exact zC (Kd.N_reads' HO374.out).2.2);(case side2=>exact (Kd.N_reads' HO374.out).2.1);(case side3=>repeat (first|exact (Kd.V_reads' HO377.out).2.2|(with_reducible refine Kd.C_alloc ?_ _)|(with_reducible refine Kd.C_drewN ?_ _)|(with_reducible refine Kd.C_drew ?_)));(case side4=>exact (Kd.V_reads' HO377.out).2.1);rintro e w62 ⟨rfl,hb⟩;have n0_:=Aside0.mk (Kd.N_below (zN HO370.out) hb);have n1_:=Aside0.mk (Kd.N_below (zN HO374.out) hb);have n2_:=Aside0.mk (Kd.V_below (zV HO377.out) hb);have n3_:=Aside0.mk (below_step zhb hb);clear HO370;clear HO374;clear HO377;clear HB;have HO370:=n0_;have HO374:=n1_;have HO377:=n2_;have HB:=n3_;clear n0_ n1_ n2_ n3_;(try clear hb);(try clear hb2);(try clear hk);(try clear hi)))
     go_ret
     exact ⟨by first|rfl|(rw [HR_.out];first|done|rfl)|(simp [errW_none,errW_some] <;> rfl)|(exact absurd ((Option.some.inj (A8.out.symm.trans A54.out)).trans HR_.out) (by decide))|(simp [*,errW_none,errW_some] <;> rfl),zhb⟩
    ·rw [if_neg c53] at H
     have c53b0:(t372 == t378)=false:=by simpa using c53
     (try (have c53b1:decide (t372=t378)=false:=by simpa using c53))
     (try (have c53b2:(t372 == t378)=false:=by simpa using c53))
     (try (have c53b3 : ¬ (t372=t378):=by simpa using c53))
     clear c53
     exact absurd ((Option.some.inj H).trans HR_.out) (by decide)

/-- THE ONE PURE STATEMENT of laws_FnZTwice: yours. -/
def laws_FnZTwice.Pure:Prop:=∀ (l0:List Int),l0.length≤maxLen→l0.length * 1≤140737488351232→(∀ x ∈ l0,(Lit.int .u8 x).wf=true)→∃ k,laws_FnZTwice.f k l0=some true
theorem laws_FnZTwice.walk (P:laws_FnZTwice.Pure) (a0:Option Addr) (len0 cap0:Nat) (z0:List Int) (w:World) (w0:(a0=none∧len0=0∧cap0=0∧z0 = [])∨∃ x,a0=some x∧len0≤cap0∧cap0≤maxLen∧z0.length=cap0∧(∀ i,i < z0.length→w.cell? (x.add i)=some (.int .u8 (z0.getD i 0)))∧∀ n ∈ z0,(Lit.int .u8 n).wf=true) (y0:len0 * 1≤140737488351232) :
  Calls Try.prog 6 #[.slice a0 len0 cap0] w fun e w'=>e=.returned (.bool true)∧Below w.heap.size w w':=by
 obtain ⟨l0,rfl,hr0,hm0,hw0,hc0⟩:=ReadsInt.ofRowC w0
 obtain ⟨k,h⟩:=P l0 hm0 y0 hw0
 refine (laws_FnZTwice.calls k _ _ l0 true w (Kd.C_of_reads (d:=(0:Int)) (h1:=fun _=>rfl) hr0) hc0 h rfl).mono ?_
 rintro e w' ⟨rfl,hd⟩
 exact ⟨rfl,hd⟩

end Go.Proofs.Ytaifnkapbffmaaa.PFnZTwice
