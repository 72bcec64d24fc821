-- Written by wip/tools/pp.py, a program of this session over the kit's printer: not the kit's own print
import Derived.Test.YtlknceioincaeaaDoorPFnExactJoinOfx0
import Derived.Test.YtlknceioincaeaaDoorPFnExactJoinOfx6
import Derived.Test.YtlknceioincaeaaDoorPFnExactJoinOfx7
import Derived.Test.YtlknceioincaeaaDoorPFnExactJoinOfx10
namespace Go.Proofs.YtlknceioincaeaaDoor.PFnExactJoinOf
open Go.RowKit Go.Proofs.YtlknceioincaeaaDoorW.PrintWords Go.Proofs.YtlknceioincaeaaDoorW.PrintLast Go.Proofs.YtlknceioincaeaaDoorW.PrintMore
attribute [local go_sem] max2_int min2_int max_two min_two max_three min_three max_four min_four   -- for this text's walks alone
set_option linter.unusedVariables false
set_option linter.unusedSimpArgs false

/-! ### spec_l2Told: function 31 -/
def spec_l2Told.f (k:Nat) (l0:List (S31)):Option ((List (S31)) × Bool):=(spec_ZOk.f k l0).bind fun t190=>(if t190=true then (some (l0,true)) else (some ((([]:List (S31))),false)))
theorem spec_l2Told.mono : ∀ a0 k,LeO (spec_l2Told.f k a0) (spec_l2Told.f (k + 1) a0):=by
 intro a0 k
 unfold spec_l2Told.f
 repeat' first
   | (with_reducible exact spec_ZOk.mono _ _)
   | (with_reducible exact LeO.refl _)
   | (with_reducible exact LeO.none _)
   | (with_reducible refine LeO.ite ?_ ?_)
   | (with_reducible refine LeO.bind ?_ (fun _=>?_))
   | exact LeO.none _
   | refine LeO.ite ?_ ?_
   | refine LeO.bind ?_ (fun _=>?_)
set_option maxHeartbeats 8000000 in
set_option maxRecDepth 100000 in
theorem spec_l2Told.calls (k:Nat) (P0_:Nat→Prop) (A0:Option Addr) (c0:Nat) (l0:List (S31)) (r1:List (S31)) (r2:Bool) (w:World) (hs0:Kd.V k31 31 w w.heap.size (fun k_=>P0_ k_) (.slice A0 l0.length c0) l0) (h:spec_l2Told.f k l0=some (r1,r2)) :
  Calls Tryd.prog 31 #[.slice A0 l0.length c0] w fun e w'=>∃ v0_:Value,e=.returned (.tuple #[v0_,.bool r2])∧Kd.V k31 31 w' w.heap.size (fun k_=>(P0_ k_∨w.heap.size≤k_)) v0_ r1∧Below w.heap.size w w':=by
 have HO0:=Aside0.mk (show Kd.V k31 31 w w.heap.size (fun k_=>(P0_ k_∨w.heap.size≤k_)) (.slice A0 l0.length c0) l0 from Kd.V_mono hs0 (fun k_ hk=>.inl hk))
 have HB:=Aside0.mk (Below.refl w.heap.size w)
 have H:((spec_ZOk.f k l0).bind fun t190=>(if t190=true then (some (l0,true)) else (some ((([]:List (S31))),false))))=some (r1,r2):=h
 clear h
 replace H:=Option.bind_eq_some_iff.mp H
 obtain ⟨t190,A20,H⟩:=H
 (try dsimp only at H)
 have A2:=Aside0.mk A20
 clear A20
 by_cases c3:t190=true
 ·subst c3
  have H1:(some (l0,true))=some (r1,r2):=by rw [if_pos rfl] at H;exact H
  clear H
  have H:=H1
  clear H1
  simp only [Option.some.injEq,Prod.mk.injEq] at H
  obtain ⟨rfl,rfl⟩:=H
  go_enter Tryd.func31,Tryd.ntmps31
  go_wp2_with (first|((with_reducible refine gate_callee (f:=28) rfl ?_);refine goesL_ (some 5) rfl rfl Tryd.func28 (by kernel_rfl) rfl #[.slice A0 l0.length c0] rfl zar ?_;(with_reducible refine (spec_ZOk.calls k _ _ l0 true _ ?side1 ?side2 A2.out).mono ?_);(case side1=>repeat (first|exact (Kd.V_reads' HO0.out).2.2|(with_reducible refine Kd.C_alloc ?_ _)|(with_reducible refine Kd.C_drewN ?_ _)|(with_reducible refine Kd.C_drew ?_)));(case side2=>exact (Kd.V_reads' HO0.out).2.1);rintro e w4 ⟨rfl,hb⟩;refine ⟨_,rfl,?_⟩;have n0_:=Aside0.mk (Kd.V_below (zV HO0.out) hb);have n1_:=Aside0.mk (below_step zhb hb);clear HO0;clear HB;have HO0:=n0_;have HB:=n1_;clear n0_ n1_;(try clear hb);(try clear hb2);(try clear hk);(try clear hi)))
  go_ret2
  exact ⟨_,by first|rfl|(simp [errW_none,errW_some] <;> rfl)|(simp [*,errW_none,errW_some] <;> rfl),by (with_reducible repeat (first|apply Kd.V_alloc|apply Kd.V_drewN|apply Kd.V_drew));exact HO0.out,zhb⟩
 ·replace c3:=Bool.eq_false_iff.mpr c3
  subst c3
  have H1:(some ((([]:List (S31))),false))=some (r1,r2):=by rw [if_neg (show ¬ (false=true) by decide)] at H;exact H
  clear H
  have H:=H1
  clear H1
  obtain ⟨y191,hy191⟩ : ∃ y_:List (S31),y_=(([]:List (S31))):=⟨_,rfl⟩
  replace H:(some (y191,false))=some (r1,r2):=by first|(rw [hy191];with_reducible exact H)|(have H2_:=(Option.bind_some _ _).symm.trans H;rw [hy191];with_reducible exact H2_)|(have H2_:=(Option.bind_some _ _).symm.trans H;with_reducible exact H2_)|with_reducible exact H|(rw [hy191];exact H)|exact H
  have Ny191:=Aside0.mk hy191
  clear hy191
  simp only [Option.some.injEq,Prod.mk.injEq] at H
  obtain ⟨rfl,rfl⟩:=H
  go_enter Tryd.func31,Tryd.ntmps31
  go_wp2_with (first|((with_reducible refine gate_callee (f:=28) rfl ?_);refine goesL_ (some 5) rfl rfl Tryd.func28 (by kernel_rfl) rfl #[.slice A0 l0.length c0] rfl zar ?_;(with_reducible refine (spec_ZOk.calls k _ _ l0 false _ ?side1 ?side2 A2.out).mono ?_);(case side1=>repeat (first|exact (Kd.V_reads' HO0.out).2.2|(with_reducible refine Kd.C_alloc ?_ _)|(with_reducible refine Kd.C_drewN ?_ _)|(with_reducible refine Kd.C_drew ?_)));(case side2=>exact (Kd.V_reads' HO0.out).2.1);rintro e w5 ⟨rfl,hb⟩;refine ⟨_,rfl,?_⟩;have n0_:=Aside0.mk (Kd.V_below (zV HO0.out) hb);have n1_:=Aside0.mk (below_step zhb hb);clear HO0;clear HB;have HO0:=n0_;have HB:=n1_;clear n0_ n1_;(try clear hb);(try clear hb2);(try clear hk);(try clear hi))|((with_reducible refine gate_dst (N:=7) rfl ?_);refine Kd.S_lit k31 _ 31 ?hg (N:=7) ?hd (xs:=([]:List (S31))) (inner:=[]) (ok:=fun _=>True) (okp:=fun _=>True) ?hr ?hp (fun _ hk=>hk) trivial (Below.refl _ _) (Nat.le_refl _) (by simp) ?_;(case hd=>rfl);(case hg=>rfl);(case hr=>first|(go_simp;done)|(go_simp;rfl));(case hp=>exact (Reps.none _ _));intro v192 w6 ho7 hb hg_ hnew_;clear hg_ hnew_;(first|rw [← Ny191.out] at ho7|(simp only [Int.reduceToNat] at ho7;rw [← Ny191.out] at ho7));have n0_:=Aside0.mk (Kd.V_elder' (zV HO0.out) (Kd.S_base ho7) hb);have n1_:=Aside0.mk (Kd.S_lower (Kd.S_newM (M:=fun k_=>(w.heap.size≤k_)) ho7 (below_size zhb) (fun k_ h_=>h_)) (below_size zhb));have n2_:=Aside0.mk (below_step zhb hb);clear HO0;clear HB;have HO0:=n0_;have HO193:=n1_;have HB:=n2_;clear n0_ n1_ n2_;clear hb ho7))
  go_ret2
  exact ⟨_,by first|rfl|(simp [errW_none,errW_some] <;> rfl)|(simp [*,errW_none,errW_some] <;> rfl),Kd.V_mono (Kd.S_V (by (with_reducible repeat (first|apply Kd.S_alloc|apply Kd.S_drewN|apply Kd.S_drew));exact Kd.S_mono HO193.out (fun _ hk=>hk.1))) (fun k_ hk=>by first|exact ⟨(.inr (hk.1)),hk.2⟩|exact (.inr (hk))),zhb⟩

/-! ### spec_JoinOf: function 9 -/
def spec_JoinOf.f (k:Nat) (l0:List (S31)) (l1:List (S31)) (a2:Int) (a3:Int):Option ((List (S31)) × Bool):=(spec_ZOk.f k l0).bind fun t194=>(if t194=true then ((spec_ZOk.f k l1).bind fun t195=>(if t195=true then ((spec_l3Col.f a2 6).bind fun t196=>(if t196=true then ((spec_l3Col.f a3 6).bind fun t197=>(if t197=true then ((spec_l5Join.f k l0 l1 a2 a3).bind fun bt198=>(if bt198.2=true then ((spec_l2Told.f k bt198.1).bind fun bt202=>(some (bt202.1,bt202.2))) else (some ((([]:List (S31))),false)))) else (some ((([]:List (S31))),false)))) else (some ((([]:List (S31))),false)))) else (some ((([]:List (S31))),false)))) else (some ((([]:List (S31))),false)))
theorem spec_JoinOf.mono : ∀ a0 a1 a2 a3 k,LeO (spec_JoinOf.f k a0 a1 a2 a3) (spec_JoinOf.f (k + 1) a0 a1 a2 a3):=by
 intro a0 a1 a2 a3 k
 unfold spec_JoinOf.f
 repeat' first
   | (with_reducible exact spec_ZOk.mono _ _)
   | (with_reducible exact spec_l2Told.mono _ _)
   | (with_reducible exact spec_l5Join.mono _ _ _ _ _)
   | (with_reducible exact LeO.refl _)
   | (with_reducible exact LeO.none _)
   | (with_reducible refine LeO.ite ?_ ?_)
   | (with_reducible refine LeO.bind ?_ (fun _=>?_))
   | exact LeO.none _
   | refine LeO.ite ?_ ?_
   | refine LeO.bind ?_ (fun _=>?_)
set_option maxHeartbeats 8000000 in
set_option maxRecDepth 100000 in
theorem spec_JoinOf.calls (k:Nat) (A0:Option Addr) (c0:Nat) (l0:List (S31)) (A1:Option Addr) (c1:Nat) (l1:List (S31)) (a2:Int) (a3:Int) (r1:List (S31)) (r2:Bool) (w:World) (hr0:Kd.C k31 w A0 l0.length l0) (hc0:l0.length≤c0) (hr1:Kd.C k31 w A1 l1.length l1) (hc1:l1.length≤c1) (h:spec_JoinOf.f k l0 l1 a2 a3=some (r1,r2)) :
  Calls Tryd.prog 9 #[.slice A0 l0.length c0,.slice A1 l1.length c1,.int .i64 a2,.int .i64 a3] w fun e w'=>∃ v0_:Value,e=.returned (.tuple #[v0_,.bool r2])∧Kd.V k31 31 w' w.heap.size (fun k_=>(w.heap.size≤k_)) v0_ r1∧Below w.heap.size w w':=by
 have HR0:=Aside0.mk hr0
 have HC0:=Aside0.mk hc0
 clear hr0 hc0
 have HR1:=Aside0.mk hr1
 have HC1:=Aside0.mk hc1
 clear hr1 hc1
 have HB:=Aside0.mk (Below.refl w.heap.size w)
 have H:((spec_ZOk.f k l0).bind fun t194=>(if t194=true then ((spec_ZOk.f k l1).bind fun t195=>(if t195=true then ((spec_l3Col.f a2 6).bind fun t196=>(if t196=true then ((spec_l3Col.f a3 6).bind fun t197=>(if t197=true then ((spec_l5Join.f k l0 l1 a2 a3).bind fun bt198=>(if bt198.2=true then ((spec_l2Told.f k bt198.1).bind fun bt202=>(some (bt202.1,bt202.2))) else (some ((([]:List (S31))),false)))) else (some ((([]:List (S31))),false)))) else (some ((([]:List (S31))),false)))) else (some ((([]:List (S31))),false)))) else (some ((([]:List (S31))),false))))=some (r1,r2):=h
 clear h
 replace H:=Option.bind_eq_some_iff.mp H
 obtain ⟨t194,A50,H⟩:=H
 (try dsimp only at H)
 have A5:=Aside0.mk A50
 clear A50
 by_cases c6:t194=true
 ·subst c6
  have H1:((spec_ZOk.f k l1).bind fun t195=>(if t195=true then ((spec_l3Col.f a2 6).bind fun t196=>(if t196=true then ((spec_l3Col.f a3 6).bind fun t197=>(if t197=true then ((spec_l5Join.f k l0 l1 a2 a3).bind fun bt198=>(if bt198.2=true then ((spec_l2Told.f k bt198.1).bind fun bt202=>(some (bt202.1,bt202.2))) else (some ((([]:List (S31))),false)))) else (some ((([]:List (S31))),false)))) else (some ((([]:List (S31))),false)))) else (some ((([]:List (S31))),false))))=some (r1,r2):=by rw [if_pos rfl] at H;exact H
  clear H
  have H:=H1
  clear H1
  replace H:=Option.bind_eq_some_iff.mp H
  obtain ⟨t195,A70,H⟩:=H
  (try dsimp only at H)
  have A7:=Aside0.mk A70
  clear A70
  by_cases c8:t195=true
  ·subst c8
   have H1:((spec_l3Col.f a2 6).bind fun t196=>(if t196=true then ((spec_l3Col.f a3 6).bind fun t197=>(if t197=true then ((spec_l5Join.f k l0 l1 a2 a3).bind fun bt198=>(if bt198.2=true then ((spec_l2Told.f k bt198.1).bind fun bt202=>(some (bt202.1,bt202.2))) else (some ((([]:List (S31))),false)))) else (some ((([]:List (S31))),false)))) else (some ((([]:List (S31))),false))))=some (r1,r2):=by rw [if_pos rfl] at H;exact H
   clear H
   have H:=H1
   clear H1
   replace H:=Option.bind_eq_some_iff.mp H
   obtain ⟨t196,A90,H⟩:=H
   (try dsimp only at H)
   have A9:=Aside0.mk A90
   clear A90
   by_cases c10:t196=true
   ·subst c10
    have H1:((spec_l3Col.f a3 6).bind fun t197=>(if t197=true then ((spec_l5Join.f k l0 l1 a2 a3).bind fun bt198=>(if bt198.2=true then ((spec_l2Told.f k bt198.1).bind fun bt202=>(some (bt202.1,bt202.2))) else (some ((([]:List (S31))),false)))) else (some ((([]:List (S31))),false))))=some (r1,r2):=by rw [if_pos rfl] at H;exact H
    clear H
    have H:=H1
    clear H1
    replace H:=Option.bind_eq_some_iff.mp H
    obtain ⟨t197,A110,H⟩:=H
    (try dsimp only at H)
    have A11:=Aside0.mk A110
    clear A110
    by_cases c12:t197=true
    ·subst c12
     have H1:((spec_l5Join.f k l0 l1 a2 a3).bind fun bt198=>(if bt198.2=true then ((spec_l2Told.f k bt198.1).bind fun bt202=>(some (bt202.1,bt202.2))) else (some ((([]:List (S31))),false))))=some (r1,r2):=by rw [if_pos rfl] at H;exact H
     clear H
     have H:=H1
     clear H1
     replace H:=Option.bind_eq_some_iff.mp H
     obtain ⟨⟨t198,t201⟩,A130,H⟩:=H
     (try dsimp only at H)
     have A13:=Aside0.mk A130
     clear A130
     by_cases c14:t201=true
     ·subst c14
      have H1:((spec_l2Told.f k t198).bind fun bt202=>(some (bt202.1,bt202.2)))=some (r1,r2):=by rw [if_pos rfl] at H;exact H
      clear H
      have H:=H1
      clear H1
      replace H:=Option.bind_eq_some_iff.mp H
      obtain ⟨⟨t202,t205⟩,A150,H⟩:=H
      (try dsimp only at H)
      have A15:=Aside0.mk A150
      clear A150
      simp only [Option.some.injEq,Prod.mk.injEq] at H
      obtain ⟨rfl,rfl⟩:=H
      go_enter Tryd.func9,Tryd.ntmps9
      go_wp2_with (first|((with_reducible refine gate_callee (f:=28) rfl ?_);refine goesL_ (some 13) rfl rfl Tryd.func28 (by kernel_rfl) rfl #[.slice A0 l0.length c0] rfl zar ?_;(with_reducible refine (spec_ZOk.calls k _ _ l0 true _ ?side1 ?side2 A5.out).mono ?_);(case side1=>exact zC HR0.out);(case side2=>exact HC0.out);rintro e w16 ⟨rfl,hb⟩;refine ⟨_,rfl,?_⟩;have n0_:=Aside0.mk (below_step zhb hb);clear HB;have HB:=n0_;clear n0_;(try clear hb);(try clear hb2);(try clear hk);(try clear hi))|(go_at_call 28;(with_reducible refine (spec_ZOk.calls k _ _ l1 true _ ?side1 ?side2 A7.out).mono ?_);(case side1=>exact zC (Kd.C_below HR1.out HB.out));(case side2=>exact HC1.out);rintro e w17 ⟨rfl,hb⟩;have n0_:=Aside0.mk (below_step zhb hb);clear HB;have HB:=n0_;clear n0_;(try clear hb);(try clear hb2);(try clear hk);(try clear hi))|(go_at_call 29;(with_reducible refine (spec_l3Col.calls a2 6 true _ A9.out).mono ?_);rintro e w' ⟨rfl,⟨nd,rfl⟩⟩)|(go_at_call 29;(with_reducible refine (spec_l3Col.calls a3 6 true _ A11.out).mono ?_);rintro e w' ⟨rfl,⟨nd,rfl⟩⟩)|((with_reducible refine gate_callee (f:=30) rfl ?_);refine goesL_ (some 36) rfl rfl Tryd.func30 (by kernel_rfl) rfl #[.slice A0 l0.length c0,.slice A1 l1.length c1,.int .i64 a2,.int .i64 a3] rfl zar ?_;(with_reducible refine (spec_l5Join.calls k _ _ l0 _ _ l1 a2 a3 t198 true _ ?side1 ?side2 ?side3 ?side4 A13.out).mono ?_);(case side1=>exact zC (Kd.C_below HR0.out zhb));(case side2=>exact HC0.out);(case side3=>exact zC (Kd.C_below HR1.out zhb));(case side4=>exact HC1.out);rintro e w18 ⟨v199,rfl,ho0,hb⟩;refine ⟨_,rfl,?_⟩;have n0_:=Aside0.mk (Kd.N_lower (Kd.N_mono (ok':=fun k_=>(w.heap.size≤k_)) ho0 (fun k_ hk_=>(Nat.le_trans (below_size zhb) hk_))) (below_size zhb));have n1_:=Aside0.mk (below_step zhb hb);clear HB;have HO200:=n0_;have HB:=n1_;clear n0_ n1_;(try clear hb);(try clear hb2);(try clear hk);(try clear hi);(try clear ho0);obtain ⟨Ao19,co19,eo19⟩:=Kd.N_slice HO200.out;subst eo19)|((with_reducible refine gate_callee (f:=31) rfl ?_);refine goesL_ (some 43) rfl rfl Tryd.func31 (by kernel_rfl) rfl #[.slice Ao19 t198.length co19] rfl zar ?_;(with_reducible refine (spec_l2Told.calls k (fun k_=>(w.heap.size≤k_)) _ _ t198 t202 t205 _ ?side1 A15.out).mono ?_);(case side1=>exact Kd.N_V (HO200.out));rintro e w20 ⟨v203,rfl,ho0,hb⟩;refine ⟨_,rfl,?_⟩;have n0_:=Aside0.mk (Kd.N_below (zN HO200.out) hb);have n1_:=Aside0.mk (Kd.V_lower (Kd.V_mono (ok':=fun k_=>(w.heap.size≤k_)) ho0 (fun k_ hk_=>Or.elim hk_ (fun hs_=>hs_) (fun hn_=>(Nat.le_trans (below_size zhb) hn_)))) (below_size zhb));have n2_:=Aside0.mk (below_step zhb hb);clear HO200;clear HB;have HO200:=n0_;have HO204:=n1_;have HB:=n2_;clear n0_ n1_ n2_;(try clear hb);(try clear hb2);(try clear hk);(try clear hi);(try clear ho0)))
      go_ret2
      exact ⟨_,by first|rfl|(simp [errW_none,errW_some] <;> rfl)|(simp [*,errW_none,errW_some] <;> rfl),by (with_reducible repeat (first|apply Kd.V_alloc|apply Kd.V_drewN|apply Kd.V_drew));exact HO204.out,zhb⟩
     ·replace c14:=Bool.eq_false_iff.mpr c14
      subst c14
      have H1:(some ((([]:List (S31))),false))=some (r1,r2):=by rw [if_neg (show ¬ (false=true) by decide)] at H;exact H
      clear H
      have H:=H1
      clear H1
      obtain ⟨y206,hy206⟩ : ∃ y_:List (S31),y_=(([]:List (S31))):=⟨_,rfl⟩
      replace H:(some (y206,false))=some (r1,r2):=by first|(rw [hy206];with_reducible exact H)|(have H2_:=(Option.bind_some _ _).symm.trans H;rw [hy206];with_reducible exact H2_)|(have H2_:=(Option.bind_some _ _).symm.trans H;with_reducible exact H2_)|with_reducible exact H|(rw [hy206];exact H)|exact H
      have Ny206:=Aside0.mk hy206
      clear hy206
      simp only [Option.some.injEq,Prod.mk.injEq] at H
      obtain ⟨rfl,rfl⟩:=H
      go_enter Tryd.func9,Tryd.ntmps9
      go_wp2_with (first|((with_reducible refine gate_callee (f:=28) rfl ?_);refine goesL_ (some 13) rfl rfl Tryd.func28 (by kernel_rfl) rfl #[.slice A0 l0.length c0] rfl zar ?_;(with_reducible refine (spec_ZOk.calls k _ _ l0 true _ ?side1 ?side2 A5.out).mono ?_);(case side1=>exact zC HR0.out);(case side2=>exact HC0.out);rintro e w21 ⟨rfl,hb⟩;refine ⟨_,rfl,?_⟩;have n0_:=Aside0.mk (below_step zhb hb);clear HB;have HB:=n0_;clear n0_;(try clear hb);(try clear hb2);(try clear hk);(try clear hi))|(go_at_call 28;(with_reducible refine (spec_ZOk.calls k _ _ l1 true _ ?side1 ?side2 A7.out).mono ?_);(case side1=>exact zC (Kd.C_below HR1.out HB.out));(case side2=>exact HC1.out);rintro e w22 ⟨rfl,hb⟩;have n0_:=Aside0.mk (below_step zhb hb);clear HB;have HB:=n0_;clear n0_;(try clear hb);(try clear hb2);(try clear hk);(try clear hi))|(go_at_call 29;(with_reducible refine (spec_l3Col.calls a2 6 true _ A9.out).mono ?_);rintro e w' ⟨rfl,⟨nd,rfl⟩⟩)|(go_at_call 29;(with_reducible refine (spec_l3Col.calls a3 6 true _ A11.out).mono ?_);rintro e w' ⟨rfl,⟨nd,rfl⟩⟩)|((with_reducible refine gate_callee (f:=30) rfl ?_);refine goesL_ (some 36) rfl rfl Tryd.func30 (by kernel_rfl) rfl #[.slice A0 l0.length c0,.slice A1 l1.length c1,.int .i64 a2,.int .i64 a3] rfl zar ?_;(with_reducible refine (spec_l5Join.calls k _ _ l0 _ _ l1 a2 a3 t198 false _ ?side1 ?side2 ?side3 ?side4 A13.out).mono ?_);(case side1=>exact zC (Kd.C_below HR0.out zhb));(case side2=>exact HC0.out);(case side3=>exact zC (Kd.C_below HR1.out zhb));(case side4=>exact HC1.out);rintro e w23 ⟨v199,rfl,ho0,hb⟩;refine ⟨_,rfl,?_⟩;have n0_:=Aside0.mk (Kd.N_lower (Kd.N_mono (ok':=fun k_=>(w.heap.size≤k_)) ho0 (fun k_ hk_=>(Nat.le_trans (below_size zhb) hk_))) (below_size zhb));have n1_:=Aside0.mk (below_step zhb hb);clear HB;have HO200:=n0_;have HB:=n1_;clear n0_ n1_;(try clear hb);(try clear hb2);(try clear hk);(try clear hi);(try clear ho0))|((with_reducible refine gate_dst (N:=41) rfl ?_);refine Kd.N_lit k31 _ 31 ?hg (N':=41) ?hd (xs:=([]:List (S31))) (inner:=[]) (ok:=(fun k_=>(w.heap.size≤k_)∧some k_≠(v199:Value).ownBlock)) (okp:=(fun k_=>(w.heap.size≤k_)∧some k_≠(v199:Value).ownBlock)) ?hr ?hp (fun _ hk=>hk) ((show ∀ k_,w23.heap.size≤k_→(fun k_=>(w.heap.size≤k_)∧some k_≠(v199:Value).ownBlock) k_ from fun k_ hk=>⟨(Nat.le_trans (below_size zhb) hk),Kd.fresh' (Kd.N_lt (zN HO200.out)) k_ hk⟩) _ (Nat.le_refl _)) (Below.refl _ _) (Nat.le_refl _) (by simp) ?_;(case hd=>rfl);(case hg=>rfl);(case hr=>first|(go_simp;done)|(go_simp;rfl));(case hp=>exact (Reps.none _ _));intro v207 w24 ho25 hb hg_ hnew_;clear hg_ hnew_;(first|rw [← Ny206.out] at ho25|(simp only [Int.reduceToNat] at ho25;rw [← Ny206.out] at ho25));have n0_:=Aside0.mk (Kd.N_elder' (zN HO200.out) (Kd.N_base ho25) hb);have n1_:=Aside0.mk (Kd.N_lower ho25 (below_size zhb));have n2_:=Aside0.mk (below_step zhb hb);clear HO200;clear HB;have HO200:=n0_;have HO208:=n1_;have HB:=n2_;clear n0_ n1_ n2_;clear hb ho25))
      go_ret2
      exact ⟨_,by first|rfl|(simp [errW_none,errW_some] <;> rfl)|(simp [*,errW_none,errW_some] <;> rfl),Kd.N_V (by (with_reducible repeat (first|apply Kd.N_alloc|apply Kd.N_drewN|apply Kd.N_drew));exact Kd.N_mono HO208.out (fun _ hk=>hk.1)),zhb⟩
    ·replace c12:=Bool.eq_false_iff.mpr c12
     subst c12
     have H1:(some ((([]:List (S31))),false))=some (r1,r2):=by rw [if_neg (show ¬ (false=true) by decide)] at H;exact H
     clear H
     have H:=H1
     clear H1
     obtain ⟨y209,hy209⟩ : ∃ y_:List (S31),y_=(([]:List (S31))):=⟨_,rfl⟩
     replace H:(some (y209,false))=some (r1,r2):=by first|(rw [hy209];with_reducible exact H)|(have H2_:=(Option.bind_some _ _).symm.trans H;rw [hy209];with_reducible exact H2_)|(have H2_:=(Option.bind_some _ _).symm.trans H;with_reducible exact H2_)|with_reducible exact H|(rw [hy209];exact H)|exact H
     have Ny209:=Aside0.mk hy209
     clear hy209
     simp only [Option.some.injEq,Prod.mk.injEq] at H
     obtain ⟨rfl,rfl⟩:=H
     go_enter Tryd.func9,Tryd.ntmps9
     go_wp2_with (first|((with_reducible refine gate_callee (f:=28) rfl ?_);refine goesL_ (some 13) rfl rfl Tryd.func28 (by kernel_rfl) rfl #[.slice A0 l0.length c0] rfl zar ?_;(with_reducible refine (spec_ZOk.calls k _ _ l0 true _ ?side1 ?side2 A5.out).mono ?_);(case side1=>exact zC HR0.out);(case side2=>exact HC0.out);rintro e w26 ⟨rfl,hb⟩;refine ⟨_,rfl,?_⟩;have n0_:=Aside0.mk (below_step zhb hb);clear HB;have HB:=n0_;clear n0_;(try clear hb);(try clear hb2);(try clear hk);(try clear hi))|(go_at_call 28;(with_reducible refine (spec_ZOk.calls k _ _ l1 true _ ?side1 ?side2 A7.out).mono ?_);(case side1=>exact zC (Kd.C_below HR1.out HB.out));(case side2=>exact HC1.out);rintro e w27 ⟨rfl,hb⟩;have n0_:=Aside0.mk (below_step zhb hb);clear HB;have HB:=n0_;clear n0_;(try clear hb);(try clear hb2);(try clear hk);(try clear hi))|(go_at_call 29;(with_reducible refine (spec_l3Col.calls a2 6 true _ A9.out).mono ?_);rintro e w' ⟨rfl,⟨nd,rfl⟩⟩)|(go_at_call 29;(with_reducible refine (spec_l3Col.calls a3 6 false _ A11.out).mono ?_);rintro e w' ⟨rfl,⟨nd,rfl⟩⟩)|((with_reducible refine gate_dst (N:=30) rfl ?_);refine Kd.N_lit k31 _ 31 ?hg (N':=30) ?hd (xs:=([]:List (S31))) (inner:=[]) (ok:=(fun k_=>(w.heap.size≤k_))) (okp:=(fun k_=>(w.heap.size≤k_))) ?hr ?hp (fun _ hk=>hk) ((show ∀ k_,w27.heap.size≤k_→(fun k_=>(w.heap.size≤k_)) k_ from fun k_ hk=>(Nat.le_trans (below_size zhb) hk)) _ (Nat.le_refl _)) (Below.refl _ _) (Nat.le_refl _) (by simp) ?_;(case hd=>rfl);(case hg=>rfl);(case hr=>first|(go_simp;done)|(go_simp;rfl));(case hp=>exact (Reps.none _ _));intro v210 w28 ho29 hb hg_ hnew_;clear hg_ hnew_;(first|rw [← Ny209.out] at ho29|(simp only [Int.reduceToNat] at ho29;rw [← Ny209.out] at ho29));have n0_:=Aside0.mk (Kd.N_lower ho29 (below_size zhb));have n1_:=Aside0.mk (below_step zhb hb);clear HB;have HO211:=n0_;have HB:=n1_;clear n0_ n1_;clear hb ho29))
     go_ret2
     exact ⟨_,by first|rfl|(simp [errW_none,errW_some] <;> rfl)|(simp [*,errW_none,errW_some] <;> rfl),Kd.N_V (zN HO211.out),zhb⟩
   ·replace c10:=Bool.eq_false_iff.mpr c10
    subst c10
    have H1:(some ((([]:List (S31))),false))=some (r1,r2):=by rw [if_neg (show ¬ (false=true) by decide)] at H;exact H
    clear H
    have H:=H1
    clear H1
    obtain ⟨y212,hy212⟩ : ∃ y_:List (S31),y_=(([]:List (S31))):=⟨_,rfl⟩
    replace H:(some (y212,false))=some (r1,r2):=by first|(rw [hy212];with_reducible exact H)|(have H2_:=(Option.bind_some _ _).symm.trans H;rw [hy212];with_reducible exact H2_)|(have H2_:=(Option.bind_some _ _).symm.trans H;with_reducible exact H2_)|with_reducible exact H|(rw [hy212];exact H)|exact H
    have Ny212:=Aside0.mk hy212
    clear hy212
    simp only [Option.some.injEq,Prod.mk.injEq] at H
    obtain ⟨rfl,rfl⟩:=H
    go_enter Tryd.func9,Tryd.ntmps9
    go_wp2_with (first|((with_reducible refine gate_callee (f:=28) rfl ?_);refine goesL_ (some 13) rfl rfl Tryd.func28 (by kernel_rfl) rfl #[.slice A0 l0.length c0] rfl zar ?_;(with_reducible refine (spec_ZOk.calls k _ _ l0 true _ ?side1 ?side2 A5.out).mono ?_);(case side1=>exact zC HR0.out);(case side2=>exact HC0.out);rintro e w30 ⟨rfl,hb⟩;refine ⟨_,rfl,?_⟩;have n0_:=Aside0.mk (below_step zhb hb);clear HB;have HB:=n0_;clear n0_;(try clear hb);(try clear hb2);(try clear hk);(try clear hi))|(go_at_call 28;(with_reducible refine (spec_ZOk.calls k _ _ l1 true _ ?side1 ?side2 A7.out).mono ?_);(case side1=>exact zC (Kd.C_below HR1.out HB.out));(case side2=>exact HC1.out);rintro e w31 ⟨rfl,hb⟩;have n0_:=Aside0.mk (below_step zhb hb);clear HB;have HB:=n0_;clear n0_;(try clear hb);(try clear hb2);(try clear hk);(try clear hi))|(go_at_call 29;(with_reducible refine (spec_l3Col.calls a2 6 false _ A9.out).mono ?_);rintro e w' ⟨rfl,⟨nd,rfl⟩⟩)|((with_reducible refine gate_dst (N:=30) rfl ?_);refine Kd.N_lit k31 _ 31 ?hg (N':=30) ?hd (xs:=([]:List (S31))) (inner:=[]) (ok:=(fun k_=>(w.heap.size≤k_))) (okp:=(fun k_=>(w.heap.size≤k_))) ?hr ?hp (fun _ hk=>hk) ((show ∀ k_,w31.heap.size≤k_→(fun k_=>(w.heap.size≤k_)) k_ from fun k_ hk=>(Nat.le_trans (below_size zhb) hk)) _ (Nat.le_refl _)) (Below.refl _ _) (Nat.le_refl _) (by simp) ?_;(case hd=>rfl);(case hg=>rfl);(case hr=>first|(go_simp;done)|(go_simp;rfl));(case hp=>exact (Reps.none _ _));intro v213 w32 ho33 hb hg_ hnew_;clear hg_ hnew_;(first|rw [← Ny212.out] at ho33|(simp only [Int.reduceToNat] at ho33;rw [← Ny212.out] at ho33));have n0_:=Aside0.mk (Kd.N_lower ho33 (below_size zhb));have n1_:=Aside0.mk (below_step zhb hb);clear HB;have HO214:=n0_;have HB:=n1_;clear n0_ n1_;clear hb ho33))
    go_ret2
    exact ⟨_,by first|rfl|(simp [errW_none,errW_some] <;> rfl)|(simp [*,errW_none,errW_some] <;> rfl),Kd.N_V (zN HO214.out),zhb⟩
  ·replace c8:=Bool.eq_false_iff.mpr c8
   subst c8
   have H1:(some ((([]:List (S31))),false))=some (r1,r2):=by rw [if_neg (show ¬ (false=true) by decide)] at H;exact H
   clear H
   have H:=H1
   clear H1
   obtain ⟨y215,hy215⟩ : ∃ y_:List (S31),y_=(([]:List (S31))):=⟨_,rfl⟩
   replace H:(some (y215,false))=some (r1,r2):=by first|(rw [hy215];with_reducible exact H)|(have H2_:=(Option.bind_some _ _).symm.trans H;rw [hy215];with_reducible exact H2_)|(have H2_:=(Option.bind_some _ _).symm.trans H;with_reducible exact H2_)|with_reducible exact H|(rw [hy215];exact H)|exact H
   have Ny215:=Aside0.mk hy215
   clear hy215
   simp only [Option.some.injEq,Prod.mk.injEq] at H
   obtain ⟨rfl,rfl⟩:=H
   go_enter Tryd.func9,Tryd.ntmps9
   go_wp2_with (first|((with_reducible refine gate_callee (f:=28) rfl ?_);refine goesL_ (some 13) rfl rfl Tryd.func28 (by kernel_rfl) rfl #[.slice A0 l0.length c0] rfl zar ?_;(with_reducible refine (spec_ZOk.calls k _ _ l0 true _ ?side1 ?side2 A5.out).mono ?_);(case side1=>exact zC HR0.out);(case side2=>exact HC0.out);rintro e w34 ⟨rfl,hb⟩;refine ⟨_,rfl,?_⟩;have n0_:=Aside0.mk (below_step zhb hb);clear HB;have HB:=n0_;clear n0_;(try clear hb);(try clear hb2);(try clear hk);(try clear hi))|(go_at_call 28;(with_reducible refine (spec_ZOk.calls k _ _ l1 false _ ?side1 ?side2 A7.out).mono ?_);(case side1=>exact zC (Kd.C_below HR1.out HB.out));(case side2=>exact HC1.out);rintro e w35 ⟨rfl,hb⟩;have n0_:=Aside0.mk (below_step zhb hb);clear HB;have HB:=n0_;clear n0_;(try clear hb);(try clear hb2);(try clear hk);(try clear hi))|((with_reducible refine gate_dst (N:=30) rfl ?_);refine Kd.N_lit k31 _ 31 ?hg (N':=30) ?hd (xs:=([]:List (S31))) (inner:=[]) (ok:=(fun k_=>(w.heap.size≤k_))) (okp:=(fun k_=>(w.heap.size≤k_))) ?hr ?hp (fun _ hk=>hk) ((show ∀ k_,w35.heap.size≤k_→(fun k_=>(w.heap.size≤k_)) k_ from fun k_ hk=>(Nat.le_trans (below_size zhb) hk)) _ (Nat.le_refl _)) (Below.refl _ _) (Nat.le_refl _) (by simp) ?_;(case hd=>rfl);(case hg=>rfl);(case hr=>first|(go_simp;done)|(go_simp;rfl));(case hp=>exact (Reps.none _ _));intro v216 w36 ho37 hb hg_ hnew_;clear hg_ hnew_;(first|rw [← Ny215.out] at ho37|(simp only [Int.reduceToNat] at ho37;rw [← Ny215.out] at ho37));have n0_:=Aside0.mk (Kd.N_lower ho37 (below_size zhb));have n1_:=Aside0.mk (below_step zhb hb);clear HB;have HO217:=n0_;have HB:=n1_;clear n0_ n1_;clear hb ho37))
   go_ret2
   exact ⟨_,by first|rfl|(simp [errW_none,errW_some] <;> rfl)|(simp [*,errW_none,errW_some] <;> rfl),Kd.N_V (zN HO217.out),zhb⟩
 ·replace c6:=Bool.eq_false_iff.mpr c6
  subst c6
  have H1:(some ((([]:List (S31))),false))=some (r1,r2):=by rw [if_neg (show ¬ (false=true) by decide)] at H;exact H
  clear H
  have H:=H1
  clear H1
  obtain ⟨y218,hy218⟩ : ∃ y_:List (S31),y_=(([]:List (S31))):=⟨_,rfl⟩
  replace H:(some (y218,false))=some (r1,r2):=by first|(rw [hy218];with_reducible exact H)|(have H2_:=(Option.bind_some _ _).symm.trans H;rw [hy218];with_reducible exact H2_)|(have H2_:=(Option.bind_some _ _).symm.trans H;with_reducible exact H2_)|with_reducible exact H|(rw [hy218];exact H)|exact H
  have Ny218:=Aside0.mk hy218
  clear hy218
  simp only [Option.some.injEq,Prod.mk.injEq] at H
  obtain ⟨rfl,rfl⟩:=H
  go_enter Tryd.func9,Tryd.ntmps9
  go_wp2_with (first|((with_reducible refine gate_callee (f:=28) rfl ?_);refine goesL_ (some 13) rfl rfl Tryd.func28 (by kernel_rfl) rfl #[.slice A0 l0.length c0] rfl zar ?_;(with_reducible refine (spec_ZOk.calls k _ _ l0 false _ ?side1 ?side2 A5.out).mono ?_);(case side1=>exact zC HR0.out);(case side2=>exact HC0.out);rintro e w38 ⟨rfl,hb⟩;refine ⟨_,rfl,?_⟩;have n0_:=Aside0.mk (below_step zhb hb);clear HB;have HB:=n0_;clear n0_;(try clear hb);(try clear hb2);(try clear hk);(try clear hi))|((with_reducible refine gate_dst (N:=30) rfl ?_);refine Kd.N_lit k31 _ 31 ?hg (N':=30) ?hd (xs:=([]:List (S31))) (inner:=[]) (ok:=(fun k_=>(w.heap.size≤k_))) (okp:=(fun k_=>(w.heap.size≤k_))) ?hr ?hp (fun _ hk=>hk) ((show ∀ k_,w38.heap.size≤k_→(fun k_=>(w.heap.size≤k_)) k_ from fun k_ hk=>(Nat.le_trans (below_size zhb) hk)) _ (Nat.le_refl _)) (Below.refl _ _) (Nat.le_refl _) (by simp) ?_;(case hd=>rfl);(case hg=>rfl);(case hr=>first|(go_simp;done)|(go_simp;rfl));(case hp=>exact (Reps.none _ _));intro v219 w39 ho40 hb hg_ hnew_;clear hg_ hnew_;(first|rw [← Ny218.out] at ho40|(simp only [Int.reduceToNat] at ho40;rw [← Ny218.out] at ho40));have n0_:=Aside0.mk (Kd.N_lower ho40 (below_size zhb));have n1_:=Aside0.mk (below_step zhb hb);clear HB;have HO220:=n0_;have HB:=n1_;clear n0_ n1_;clear hb ho40))
  go_ret2
  exact ⟨_,by first|rfl|(simp [errW_none,errW_some] <;> rfl)|(simp [*,errW_none,errW_some] <;> rfl),Kd.N_V (zN HO220.out),zhb⟩

/-! ### laws_szIntS: function 62 -/
def laws_szIntS.f (l0:List Int) (a1:Int):Option (Int):=if (wrap64 (a1 - (l0.length:Int))) < 0 then (some (-1)) else (some (wrap64 (a1 - (l0.length:Int))))
set_option maxHeartbeats 8000000 in
set_option maxRecDepth 100000 in
theorem laws_szIntS.calls (A0:Option Addr) (c0:Nat) (l0:List Int) (a1:Int) (r:Int) (w:World) (hr0:Kd.C (Kd.int .i64) w A0 l0.length l0) (hc0:l0.length≤c0) (h:laws_szIntS.f l0 a1=some r) :
  Calls Tryd.prog 62 #[.slice A0 l0.length c0,.int .i64 a1] w fun e w'=>e=.returned (.int .i64 r)∧Drawn0 w w':=by
 have HR0:=Aside0.mk hr0
 have HC0:=Aside0.mk hc0
 clear hr0 hc0
 have H:(if (wrap64 (a1 - (l0.length:Int))) < 0 then (some (-1)) else (some (wrap64 (a1 - (l0.length:Int)))))=some r:=h
 clear h
 by_cases c3:(wrap64 (a1 - (l0.length:Int))) < 0
 ·rw [if_pos c3] at H
  have c3b0:decide ((wrap64 (a1 - (l0.length:Int))) < 0)=true:=decide_eq_true c3
  clear c3
  obtain rfl:=Option.some.inj H
  go_enter Tryd.func62,Tryd.ntmps62
  go_wp2
  go_ret
  exact ⟨by first|rfl|(simp;done)|(simp [*];done),zdw⟩
 ·rw [if_neg c3] at H
  have c3b0:decide ((wrap64 (a1 - (l0.length:Int))) < 0)=false:=decide_eq_false c3
  clear c3
  obtain rfl:=Option.some.inj H
  go_enter Tryd.func62,Tryd.ntmps62
  go_wp2
  go_ret
  exact ⟨by first|rfl|(simp;done)|(simp [*];done),zdw⟩

/-! ### laws_szItem: function 37 -/
def laws_szItem.f (l0_0:List Int) (a0_1:Int) (a1:Int):Option (Int):=(laws_szIntS.f l0_0 a1).bind fun t222=>(if t222 < 0 then (some (-1)) else (some t222))
set_option maxHeartbeats 8000000 in
set_option maxRecDepth 100000 in
theorem laws_szItem.calls (A0_0:Option Addr) (c0_0:Nat) (l0_0:List Int) (a0_1:Int) (a1:Int) (r:Int) (w:World) (hr0_0:Kd.C (Kd.int .i64) w A0_0 l0_0.length l0_0) (hc0_0:l0_0.length≤c0_0) (h:laws_szItem.f l0_0 a0_1 a1=some r) :
  Calls Tryd.prog 37 #[.agg #[.slice A0_0 l0_0.length c0_0,.int .i64 a0_1],.int .i64 a1] w fun e w'=>e=.returned (.int .i64 r)∧Below w.heap.size w w':=by
 have hu59:=Tryd.underlying59
 have HR0_0:=Aside0.mk hr0_0
 have HC0_0:=Aside0.mk hc0_0
 clear hr0_0 hc0_0
 have HB:=Aside0.mk (Below.refl w.heap.size w)
 have H:((laws_szIntS.f l0_0 a1).bind fun t222=>(if t222 < 0 then (some (-1)) else (some t222)))=some r:=h
 clear h
 replace H:=Option.bind_eq_some_iff.mp H
 obtain ⟨t222,A30,H⟩:=H
 (try dsimp only at H)
 have A3:=Aside0.mk A30
 clear A30
 by_cases c4:t222 < 0
 ·rw [if_pos c4] at H
  have c4b0:decide (t222 < 0)=true:=decide_eq_true c4
  clear c4
  obtain rfl:=Option.some.inj H
  go_enter Tryd.func37,Tryd.ntmps37
  go_wp2_with (first|((with_reducible refine gate_dst (N:=2) rfl ?_);refine box_event ?hg (N:=2) ?hd (cs:=#[.slice A0_0 l0_0.length c0_0,.int .i64 a0_1]) (t:=59) ?hr ?_;(case hd=>rfl);(case hg=>rfl);(case hr=>first|(go_simp;done)|(go_simp;rfl));intro gb221 hg w5 hbox hb;have n0_:=Aside0.mk (below_step zhb hb);have n1_:=Aside0.mk (hbox);have n2_:=Aside0.mk ((by rw [hg];exact (below_size zhb):w.heap.size≤gb221));have n3_:=Aside0.mk ((by rw [hg];exact (below_size zhb):w.heap.size≤gb221));clear HB;have HB:=n0_;have BK221:=n1_;have GW221:=n2_;have GE221:=n3_;clear n0_ n1_ n2_ n3_;clear hb hbox hg;have hcz6_0:w5.cell? ⟨gb221,0,none⟩=some (.slice A0_0 l0_0.length c0_0):=(blk_cell BK221.out 0).trans rfl;have hcz6_1:w5.cell? ⟨gb221,1,none⟩=some (.int .i64 a0_1):=(blk_cell BK221.out 1).trans rfl;have hfz6_0:=blk_frozen BK221.out 0;have hfz6_1:=blk_frozen BK221.out 1)|((with_reducible refine gate_callee (f:=62) rfl ?_);refine goesL_ (some 8) rfl rfl Tryd.func62 (by kernel_rfl) rfl #[.slice A0_0 l0_0.length c0_0,.int .i64 a1] rfl zar ?_;(with_reducible refine (laws_szIntS.calls _ _ l0_0 a1 t222 _ ?side1 ?side2 A3.out).mono ?_);(case side1=>exact zC (Kd.C_below HR0_0.out HB.out));(case side2=>exact HC0_0.out);rintro e w' ⟨rfl,⟨nd,rfl⟩⟩;refine ⟨_,rfl,?_⟩))
  go_ret
  exact ⟨by first|rfl|(simp [errW_none,errW_some] <;> rfl)|(simp [*,errW_none,errW_some] <;> rfl),by repeat (first|(with_reducible first|exact HB.out|apply below_alloc|apply pw_below_drewN|apply below_drew1|refine below_set ?_ GE221.out)|exact HB.out)⟩
 ·rw [if_neg c4] at H
  have c4b0:decide (t222 < 0)=false:=decide_eq_false c4
  clear c4
  obtain rfl:=Option.some.inj H
  go_enter Tryd.func37,Tryd.ntmps37
  go_wp2_with (first|((with_reducible refine gate_dst (N:=2) rfl ?_);refine box_event ?hg (N:=2) ?hd (cs:=#[.slice A0_0 l0_0.length c0_0,.int .i64 a0_1]) (t:=59) ?hr ?_;(case hd=>rfl);(case hg=>rfl);(case hr=>first|(go_simp;done)|(go_simp;rfl));intro gb221 hg w7 hbox hb;have n0_:=Aside0.mk (below_step zhb hb);have n1_:=Aside0.mk (hbox);have n2_:=Aside0.mk ((by rw [hg];exact (below_size zhb):w.heap.size≤gb221));have n3_:=Aside0.mk ((by rw [hg];exact (below_size zhb):w.heap.size≤gb221));clear HB;have HB:=n0_;have BK221:=n1_;have GW221:=n2_;have GE221:=n3_;clear n0_ n1_ n2_ n3_;clear hb hbox hg;have hcz8_0:w7.cell? ⟨gb221,0,none⟩=some (.slice A0_0 l0_0.length c0_0):=(blk_cell BK221.out 0).trans rfl;have hcz8_1:w7.cell? ⟨gb221,1,none⟩=some (.int .i64 a0_1):=(blk_cell BK221.out 1).trans rfl;have hfz8_0:=blk_frozen BK221.out 0;have hfz8_1:=blk_frozen BK221.out 1)|((with_reducible refine gate_callee (f:=62) rfl ?_);refine goesL_ (some 8) rfl rfl Tryd.func62 (by kernel_rfl) rfl #[.slice A0_0 l0_0.length c0_0,.int .i64 a1] rfl zar ?_;(with_reducible refine (laws_szIntS.calls _ _ l0_0 a1 t222 _ ?side1 ?side2 A3.out).mono ?_);(case side1=>exact zC (Kd.C_below HR0_0.out HB.out));(case side2=>exact HC0_0.out);rintro e w' ⟨rfl,⟨nd,rfl⟩⟩;refine ⟨_,rfl,?_⟩))
  go_ret
  exact ⟨by first|rfl|(simp [errW_none,errW_some] <;> rfl)|(simp [*,errW_none,errW_some] <;> rfl),by repeat (first|(with_reducible first|exact HB.out|apply below_alloc|apply pw_below_drewN|apply below_drew1|refine below_set ?_ GE221.out)|exact HB.out)⟩

/-! ### laws_szItemS: function 12 -/
def laws_szItemS.l0:Nat→List (S59)→Int→Int→Option (Int)
 | 0,_,_,_=>none
 | k + 1,x0,x1,x5=>if x5 < (x0.length:Int) then (if 0≤x5 then ((laws_szItem.f ((rd_T59 x0 x5).f0) ((rd_T59 x0 x5).f1) x1).bind fun t224=>(if t224 < 0 then (some (-1)) else (laws_szItemS.l0 k x0 t224 (wrap64 (x5 + 1))))) else (none)) else (some x1)
def laws_szItemS.f (k:Nat) (l0:List (S59)) (a1:Int):Option (Int):=if (wrap64 (a1 - (l0.length:Int))) < 0 then (some (-1)) else (laws_szItemS.l0 k l0 (wrap64 (a1 - (l0.length:Int))) 0)
theorem laws_szItemS.mono_l : ∀ k,(∀ y0 y1 y2,LeO (laws_szItemS.l0 k y0 y1 y2) (laws_szItemS.l0 (k + 1) y0 y1 y2))
 | 0=>fun _ _ _ r h=>by simp [laws_szItemS.l0] at h
 | k + 1=>by
  have ih0:=laws_szItemS.mono_l k
  ·intro y0 y1 y2
   unfold laws_szItemS.l0
   repeat' first
   | (with_reducible exact ih0 _ _ _)
   | (with_reducible exact LeO.refl _)
   | (with_reducible exact LeO.none _)
   | (with_reducible refine LeO.ite ?_ ?_)
   | (with_reducible refine LeO.bind ?_ (fun _=>?_))
   | exact LeO.none _
   | refine LeO.ite ?_ ?_
   | refine LeO.bind ?_ (fun _=>?_)
theorem laws_szItemS.mono : ∀ a0 a1 k,LeO (laws_szItemS.f k a0 a1) (laws_szItemS.f (k + 1) a0 a1):=by
 intro a0 a1 k
 have ih0:=laws_szItemS.mono_l k
 unfold laws_szItemS.f
 repeat' first
   | (with_reducible exact ih0 _ _ _)
   | (with_reducible exact LeO.refl _)
   | (with_reducible exact LeO.none _)
   | (with_reducible refine LeO.ite ?_ ?_)
   | (with_reducible refine LeO.bind ?_ (fun _=>?_))
   | exact LeO.none _
   | refine LeO.ite ?_ ?_
   | refine LeO.bind ?_ (fun _=>?_)
set_option maxHeartbeats 8000000 in
set_option maxRecDepth 100000 in
theorem laws_szItemS.calls (k:Nat) (A0:Option Addr) (c0:Nat) (l0:List (S59)) (a1:Int) (r:Int) (w:World) (hr0:Kd.C k59 w A0 l0.length l0) (hc0:l0.length≤c0) (h:laws_szItemS.f k l0 a1=some r) :
  Calls Tryd.prog 12 #[.slice A0 l0.length c0,.int .i64 a1] w fun e w'=>e=.returned (.int .i64 r)∧Below w.heap.size w w':=by
 have hu59:=Tryd.underlying59
 have HR0:=Aside0.mk hr0
 have HC0:=Aside0.mk hc0
 clear hr0 hc0
 have HB:=Aside0.mk (Below.refl w.heap.size w)
 have H:(if (wrap64 (a1 - (l0.length:Int))) < 0 then (some (-1)) else (laws_szItemS.l0 k l0 (wrap64 (a1 - (l0.length:Int))) 0))=some r:=h
 clear h
 by_cases c3:(wrap64 (a1 - (l0.length:Int))) < 0
 ·rw [if_pos c3] at H
  have c3b0:decide ((wrap64 (a1 - (l0.length:Int))) < 0)=true:=decide_eq_true c3
  clear c3
  obtain rfl:=Option.some.inj H
  go_enter Tryd.func12,Tryd.ntmps12
  go_wp2
  go_ret
  exact ⟨by first|rfl|(simp [errW_none,errW_some] <;> rfl)|(simp [*,errW_none,errW_some] <;> rfl),zhb⟩
 ·rw [if_neg c3] at H
  have c3b0:decide ((wrap64 (a1 - (l0.length:Int))) < 0)=false:=decide_eq_false c3
  clear c3
  have H':=Aside0.mk H
  clear H
  go_enter Tryd.func12,Tryd.ntmps12
  go_wp2
  go_loopg [1,5] k (fun kq v1 v5 w'=>∃ (x1_1:Int) (x5_1:Int),v1=.int .i64 x1_1∧v5=.int .i64 x5_1∧Aside0 (laws_szItemS.l0 kq l0 x1_1 x5_1=some r)∧Aside0 (kq≤k)∧Aside0 (Below w.heap.size w w'))
  case atStart=>exact ⟨(wrap64 (a1 - (l0.length:Int))),(0),(by first|rfl|(simp;done)|(simp [*];done)),(by first|rfl|(simp;done)|(simp [*];done)),H',⟨Nat.le_refl _⟩,⟨zhb⟩⟩
  case round =>
   clear H'
   try clear c1
   try clear p2
   try clear c3
   try clear c3b0
   obtain ⟨x1_1,x5_1,rfl,rfl,HA,HK1,HB⟩:=hrel
   cases gk with
   | zero=>exact absurd HA.out (by simp [laws_szItemS.l0])
   | succ k1 =>
    have H:=HA.out
    clear HA
    simp only [laws_szItemS.l0] at H
    by_cases c4:x5_1 < (l0.length:Int)
    ·rw [if_pos c4] at H
     have c4b0:decide (x5_1 < (l0.length:Int))=true:=decide_eq_true c4
     clear c4
     by_cases c5:0≤x5_1
     ·rw [if_pos c5] at H
      have c5b0:decide (0≤x5_1)=true:=decide_eq_true c5
      clear c5
      replace H:=Option.bind_eq_some_iff.mp H
      obtain ⟨t224,A60,H⟩:=H
      (try dsimp only at H)
      have A6:=Aside0.mk A60
      clear A60
      by_cases c7:t224 < 0
      ·rw [if_pos c7] at H
       have c7b0:decide (t224 < 0)=true:=decide_eq_true c7
       clear c7
       obtain rfl:=Option.some.inj H
       have p223:0≤(x5_1:Int):=zod
       have q223:x5_1 < (l0.length:Int):=zod
       obtain ⟨ad223,A223_0,c223_0,e223,hx223_0,hx223_1,hl223_0,hi223_0⟩:=at_T59 HR0.out x5_1 p223 q223
       cases e223
       replace hx223_0:=(HB.out.cell (World.block_lt_of_cell? w _ hx223_0)).trans hx223_0
       replace hx223_1:=(HB.out.cell (World.block_lt_of_cell? w _ hx223_1)).trans hx223_1
       have HR223_0:=Aside0.mk hi223_0
       have HC223_0:=Aside0.mk hl223_0
       clear hi223_0 hl223_0
       replace p223:=eq_true p223
       replace q223:=eq_true q223
       go_wp2_with (first|((with_reducible refine gate_callee (f:=37) rfl ?_);refine goesL_ (some 23) rfl rfl Tryd.func37 (by kernel_rfl) rfl #[.agg #[.slice A223_0 ((rd_T59 l0 x5_1).f0).length c223_0,.int .i64 ((rd_T59 l0 x5_1).f1)],.int .i64 x1_1] rfl zar ?_;(with_reducible refine (laws_szItem.calls _ _ ((rd_T59 l0 x5_1).f0) ((rd_T59 l0 x5_1).f1) x1_1 t224 _ ?side1 ?side2 A6.out).mono ?_);(case side1=>exact zC (Kd.C_below HR223_0.out HB.out));(case side2=>exact HC223_0.out);rintro e w8 ⟨rfl,hb⟩;refine ⟨_,rfl,?_⟩;have n0_:=Aside0.mk (below_step zhb hb);clear HB;have HB:=n0_;clear n0_;(try clear hb);(try clear hb2);(try clear hk);(try clear hi)))
       go_ret
       exact ⟨by first|rfl|(simp [errW_none,errW_some] <;> rfl)|(simp [*,errW_none,errW_some] <;> rfl),zhb⟩
      ·rw [if_neg c7] at H
       have c7b0:decide (t224 < 0)=false:=decide_eq_false c7
       clear c7
       have H':=Aside0.mk H
       clear H
       have p223:0≤(x5_1:Int):=zod
       have q223:x5_1 < (l0.length:Int):=zod
       obtain ⟨ad223,A223_0,c223_0,e223,hx223_0,hx223_1,hl223_0,hi223_0⟩:=at_T59 HR0.out x5_1 p223 q223
       cases e223
       replace hx223_0:=(HB.out.cell (World.block_lt_of_cell? w _ hx223_0)).trans hx223_0
       replace hx223_1:=(HB.out.cell (World.block_lt_of_cell? w _ hx223_1)).trans hx223_1
       have HR223_0:=Aside0.mk hi223_0
       have HC223_0:=Aside0.mk hl223_0
       clear hi223_0 hl223_0
       replace p223:=eq_true p223
       replace q223:=eq_true q223
       go_wp2_with (first|((with_reducible refine gate_callee (f:=37) rfl ?_);refine goesL_ (some 23) rfl rfl Tryd.func37 (by kernel_rfl) rfl #[.agg #[.slice A223_0 ((rd_T59 l0 x5_1).f0).length c223_0,.int .i64 ((rd_T59 l0 x5_1).f1)],.int .i64 x1_1] rfl zar ?_;(with_reducible refine (laws_szItem.calls _ _ ((rd_T59 l0 x5_1).f0) ((rd_T59 l0 x5_1).f1) x1_1 t224 _ ?side1 ?side2 A6.out).mono ?_);(case side1=>exact zC (Kd.C_below HR223_0.out HB.out));(case side2=>exact HC223_0.out);rintro e w9 ⟨rfl,hb⟩;refine ⟨_,rfl,?_⟩;have n0_:=Aside0.mk (below_step zhb hb);clear HB;have HB:=n0_;clear n0_;(try clear hb);(try clear hb2);(try clear hk);(try clear hi)))
       go_roundg k1
       case measure=>have:=HK1.out;omega
       case rel=>exact ⟨(t224),(wrap64 (x5_1 + 1)),(by first|rfl|(simp;done)|(simp [*];done)),(by first|rfl|(simp;done)|(simp [*];done)),H',⟨by have:=HK1.out;omega⟩,⟨zhb⟩⟩
     ·rw [if_neg c5] at H
      exact absurd H (by simp)
    ·rw [if_neg c4] at H
     have c4b0:decide (x5_1 < (l0.length:Int))=false:=decide_eq_false c4
     clear c4
     obtain rfl:=Option.some.inj H
     go_wp2
     go_ret
     exact ⟨by first|rfl|(simp [errW_none,errW_some] <;> rfl)|(simp [*,errW_none,errW_some] <;> rfl),zhb⟩

/-! ### laws_toIntS: function 63 -/
def laws_toIntS.l0:Nat→List Int→List Int→Int→Option (List Int)
 | 0,_,_,_=>none
 | k + 1,x0,x3,x4=>if x4 < (x0.length:Int) then (if 0≤x4 then (if x4 < (x3.length:Int) then (laws_toIntS.l0 k x0 (x3.set (x4:Int).toNat (rd x0 x4)) (wrap64 (x4 + 1))) else (none)) else (none)) else (some x3)
def laws_toIntS.f (k:Nat) (l0:List Int):Option (List Int):=if 0≤(l0.length:Int) then (if ((l0.length:Int):Int).toNat≤35184372088832 then (laws_toIntS.l0 k l0 (List.replicate ((l0.length:Int):Int).toNat 0) 0) else (none)) else (none)
theorem laws_toIntS.mono_l : ∀ k,(∀ y0 y1 y2,LeO (laws_toIntS.l0 k y0 y1 y2) (laws_toIntS.l0 (k + 1) y0 y1 y2))
 | 0=>fun _ _ _ r h=>by simp [laws_toIntS.l0] at h
 | k + 1=>by
  have ih0:=laws_toIntS.mono_l k
  ·intro y0 y1 y2
   unfold laws_toIntS.l0
   repeat' first
   | (with_reducible exact ih0 _ _ _)
   | (with_reducible exact LeO.refl _)
   | (with_reducible exact LeO.none _)
   | (with_reducible refine LeO.ite ?_ ?_)
   | (with_reducible refine LeO.bind ?_ (fun _=>?_))
   | exact LeO.none _
   | refine LeO.ite ?_ ?_
   | refine LeO.bind ?_ (fun _=>?_)
theorem laws_toIntS.mono : ∀ a0 k,LeO (laws_toIntS.f k a0) (laws_toIntS.f (k + 1) a0):=by
 intro a0 k
 have ih0:=laws_toIntS.mono_l k
 unfold laws_toIntS.f
 repeat' first
   | (with_reducible exact ih0 _ _ _)
   | (with_reducible exact LeO.refl _)
   | (with_reducible exact LeO.none _)
   | (with_reducible refine LeO.ite ?_ ?_)
   | (with_reducible refine LeO.bind ?_ (fun _=>?_))
   | exact LeO.none _
   | refine LeO.ite ?_ ?_
   | refine LeO.bind ?_ (fun _=>?_)
set_option maxHeartbeats 8000000 in
set_option maxRecDepth 100000 in
theorem laws_toIntS.calls (k:Nat) (A0:Option Addr) (c0:Nat) (l0:List Int) (r:List Int) (w:World) (hr0:Kd.C (Kd.int .i64) w A0 l0.length l0) (hc0:l0.length≤c0) (h:laws_toIntS.f k l0=some r) :
  Calls Tryd.prog 63 #[.slice A0 l0.length c0] w fun e w'=>∃ v0_:Value,e=.returned (v0_)∧Kd.R (Kd.int .i64) 3 w' w.heap.size (fun _=>True) v0_ r∧Below w.heap.size w w':=by
 have HR0:=Aside0.mk hr0
 have HC0:=Aside0.mk hc0
 clear hr0 hc0
 have HB:=Aside0.mk (Below.refl w.heap.size w)
 have H:(if 0≤(l0.length:Int) then (if ((l0.length:Int):Int).toNat≤35184372088832 then (laws_toIntS.l0 k l0 (List.replicate ((l0.length:Int):Int).toNat 0) 0) else (none)) else (none))=some r:=h
 clear h
 by_cases c2:0≤(l0.length:Int)
 ·rw [if_pos c2] at H
  have c2b0:=eq_true c2
  have c2b1:decide (0≤(l0.length:Int))=true:=decide_eq_true c2
  clear c2
  by_cases c3:((l0.length:Int):Int).toNat≤35184372088832
  ·rw [if_pos c3] at H
   have c3b0:=eq_true c3
   have c3b1:decide (((l0.length:Int):Int).toNat≤35184372088832)=true:=decide_eq_true c3
   clear c3
   obtain ⟨y225,hy225⟩ : ∃ y_:List Int,y_=(List.replicate ((l0.length:Int):Int).toNat 0):=⟨_,rfl⟩
   replace H:(laws_toIntS.l0 k l0 y225 0)=some r:=by first|(rw [hy225];with_reducible exact H)|(have H2_:=(Option.bind_some _ _).symm.trans H;rw [hy225];with_reducible exact H2_)|(have H2_:=(Option.bind_some _ _).symm.trans H;with_reducible exact H2_)|with_reducible exact H|(rw [hy225];exact H)|exact H
   have Ny225:=Aside0.mk hy225
   clear hy225
   have H':=Aside0.mk H
   clear H
   go_enter Tryd.func63,Tryd.ntmps63
   go_wp2_with (first|((with_reducible refine gate_dst (N:=7) rfl ?_);refine Kd.R_make (Kd.int .i64) _ 3 rfl (N:=7) rfl 29 _ _ rfl (l0.length:Int) rfl rfl Tryd.underlying29 (.int .i64 0) 8 info3 rfl (by decide) (by omega) 0 (ok:=fun _=>True) (okp:=fun _=>True) rfl (fun _ hk=>hk) trivial (zod) (Nat.le_trans (Nat.mul_le_mul_right _ (zod:(l0.length:Int).toNat≤35184372088832)) (by omega)) (Below.refl _ _) (Nat.le_refl _) ?_;intro v226 w4 ho5 hb hg_ hnew_;clear hg_ hnew_;(first|rw [← Ny225.out] at ho5|(simp only [Int.reduceToNat] at ho5;rw [← Ny225.out] at ho5));have n0_:=Aside0.mk (Kd.R_lower ho5 (below_size zhb));have n1_:=Aside0.mk (below_step zhb hb);clear HB;have HO227:=n0_;have HB:=n1_;clear n0_ n1_;clear hb ho5))
   go_loopg [4] k (fun kq v4 w'=>∃ (x3_1:List Int) (x4_1:Int),v4=.int .i64 x4_1∧Aside0 (laws_toIntS.l0 kq l0 x3_1 x4_1=some r)∧Aside0 (kq≤k)∧Aside0 (Kd.R (Kd.int .i64) 3 w' w.heap.size (fun _=>True) v226 x3_1)∧Aside0 (Below w.heap.size w w'))
   case atStart=>exact ⟨(y225),(0),(by first|rfl|(simp;done)|(simp [*];done)),H',⟨Nat.le_refl _⟩,⟨by (with_reducible repeat (first|apply Kd.R_alloc|apply Kd.R_drewN|apply Kd.R_drew));exact HO227.out⟩,⟨zhb⟩⟩
   case round =>
    clear H'
    try clear c2
    try clear c2b0
    try clear c2b1
    try clear p2
    try clear c3
    try clear c3b0
    try clear c3b1
    obtain ⟨x3_1,x4_1,rfl,HA,HK1,HO_3,HB⟩:=hrel
    cases gk with
    | zero=>exact absurd HA.out (by simp [laws_toIntS.l0])
    | succ k1 =>
     have H:=HA.out
     clear HA
     simp only [laws_toIntS.l0] at H
     by_cases c6:x4_1 < (l0.length:Int)
     ·rw [if_pos c6] at H
      have c6b0:decide (x4_1 < (l0.length:Int))=true:=decide_eq_true c6
      clear c6
      by_cases c7:0≤x4_1
      ·rw [if_pos c7] at H
       have c7b0:decide (0≤x4_1)=true:=decide_eq_true c7
       clear c7
       by_cases c8:x4_1 < (x3_1.length:Int)
       ·rw [if_pos c8] at H
        have c8b0:decide (x4_1 < (x3_1.length:Int))=true:=decide_eq_true c8
        clear c8
        obtain ⟨y229,hy229⟩ : ∃ y_:List Int,y_=(x3_1.set (x4_1:Int).toNat (rd l0 x4_1)):=⟨_,rfl⟩
        replace H:(laws_toIntS.l0 k1 l0 y229 (wrap64 (x4_1 + 1)))=some r:=by first|(rw [hy229];with_reducible exact H)|(have H2_:=(Option.bind_some _ _).symm.trans H;rw [hy229];with_reducible exact H2_)|(have H2_:=(Option.bind_some _ _).symm.trans H;with_reducible exact H2_)|with_reducible exact H|(rw [hy229];exact H)|exact H
        have Ny229:=Aside0.mk hy229
        clear hy229
        have H':=Aside0.mk H
        clear H
        have p228:0≤(x4_1:Int):=zod
        have q228:x4_1 < (l0.length:Int):=zod
        obtain ⟨ad228,e228,hx228_0⟩:=Kd.at_int HR0.out x4_1 p228 q228
        cases e228
        replace hx228_0:=(HB.out.cell (World.block_lt_of_cell? w _ hx228_0)).trans hx228_0
        replace p228:=eq_true p228
        replace q228:=eq_true q228
        have p9:0≤(x4_1:Int):=zod
        have q9:(x4_1:Int) < ((x3_1.length:Int):Int):=zod
        obtain ⟨go9,co9,eo9,gb9,gl9,cl9,HG9⟩:=Kd.R_form HO_3.out (by omega)
        (first|cases eo9|(injection eo9 with ea_ en_ ec_;(first|subst ea_|(injection ea_ with ea_;subst ea_));subst ec_;clear en_))
        have GB9:=Aside0.mk gb9
        have GG9:=Aside0.mk HG9
        clear gb9 gl9 HG9
        obtain ⟨hx9_0,hf9_0⟩:=Kd.R_celln 0 HO_3.out (x4_1:Int) p9 q9
        replace p9:=eq_true p9
        replace q9:=eq_true q9
        have HP10:=Kd.R_putg HO_3.out (x4_1:Int) (rd l0 x4_1)
        go_wp2_with (first|((with_reducible refine gate_store (t:=3) (p:=20) rfl ?_);refine store_event (t:=3) (p:=20) (v:=?vo_w11) (w1:=(wr.setCell ⟨go9,(x4_1:Int).toNat,none⟩ (.int .i64 (rd l0 x4_1)))) ?hg ?ho ?hn ?hr ?_;(case ho=>rfl);(case hg=>rfl);(case hn=>rfl);(case hr=>first|(go_simp;done)|(go_simp;rfl));intro w11 hw;have hg:wr.grownBy w11 (some go9):=(by rw [hw];exact HP10.2);have hp_:Kd.R (Kd.int .i64) 3 w11 w.heap.size (fun _=>True) (.slice (some ⟨go9,0,none⟩) x3_1.length co9) y229:=(by rw [hw,Ny229.out];exact HP10.1);clear HP10;have n0_:=Aside0.mk (hp_);have n1_:=Aside0.mk ((by rw [hw];exact below_set (HB.out) GB9.out:Below w.heap.size w w11));clear HO_3;clear HB;have HO_3:=n0_;have HB:=n1_;clear n0_ n1_;clear hg hw hp_))
        go_roundg k1
        case measure=>have:=HK1.out;omega
        case rel=>exact ⟨(y229),(wrap64 (x4_1 + 1)),(by first|rfl|(simp;done)|(simp [*];done)),H',⟨by have:=HK1.out;omega⟩,⟨by (with_reducible repeat (first|apply Kd.R_alloc|apply Kd.R_drewN|apply Kd.R_drew));exact HO_3.out⟩,⟨zhb⟩⟩
       ·rw [if_neg c8] at H
        exact absurd H (by simp)
      ·rw [if_neg c7] at H
       exact absurd H (by simp)
     ·rw [if_neg c6] at H
      have c6b0:decide (x4_1 < (l0.length:Int))=false:=decide_eq_false c6
      clear c6
      obtain rfl:=Option.some.inj H
      go_wp2
      go_ret
      exact ⟨_,by first|rfl|(simp [errW_none,errW_some] <;> rfl)|(simp [*,errW_none,errW_some] <;> rfl),by (with_reducible repeat (first|apply Kd.R_alloc|apply Kd.R_drewN|apply Kd.R_drew));exact HO_3.out,zhb⟩
  ·rw [if_neg c3] at H
   exact absurd H (by simp)
 ·rw [if_neg c2] at H
  exact absurd H (by simp)

/-! ### laws_toItem: function 38 -/
def laws_toItem.f (k:Nat) (l0_0:List Int) (a0_1:Int):Option (List Int × Int):=(laws_toIntS.f k l0_0).bind fun t233=>(some (t233,a0_1))
theorem laws_toItem.mono : ∀ a0 a1 k,LeO (laws_toItem.f k a0 a1) (laws_toItem.f (k + 1) a0 a1):=by
 intro a0 a1 k
 unfold laws_toItem.f
 repeat' first
   | (with_reducible exact laws_toIntS.mono _ _)
   | (with_reducible exact LeO.refl _)
   | (with_reducible exact LeO.none _)
   | (with_reducible refine LeO.ite ?_ ?_)
   | (with_reducible refine LeO.bind ?_ (fun _=>?_))
   | exact LeO.none _
   | refine LeO.ite ?_ ?_
   | refine LeO.bind ?_ (fun _=>?_)
set_option maxHeartbeats 8000000 in
set_option maxRecDepth 100000 in
theorem laws_toItem.calls (k:Nat) (A0_0:Option Addr) (c0_0:Nat) (l0_0:List Int) (a0_1:Int) (r1:List Int) (r2:Int) (w:World) (hr0_0:Kd.C (Kd.int .i64) w A0_0 l0_0.length l0_0) (hc0_0:l0_0.length≤c0_0) (h:laws_toItem.f k l0_0 a0_1=some (r1,r2)) :
  Calls Tryd.prog 38 #[.agg #[.slice A0_0 l0_0.length c0_0,.int .i64 a0_1]] w fun e w'=>∃ v0_:Value,e=.returned (.agg #[v0_,.int .i64 r2])∧Kd.R (Kd.int .i64) 3 w' w.heap.size (fun _=>True) v0_ r1∧Below w.heap.size w w':=by
 have hu59:=Tryd.underlying59
 have hu31:=Tryd.underlying31
 have HR0_0:=Aside0.mk hr0_0
 have HC0_0:=Aside0.mk hc0_0
 clear hr0_0 hc0_0
 have HB:=Aside0.mk (Below.refl w.heap.size w)
 have H:((laws_toIntS.f k l0_0).bind fun t233=>(some (t233,a0_1)))=some (r1,r2):=h
 clear h
 replace H:=Option.bind_eq_some_iff.mp H
 obtain ⟨t233,A20,H⟩:=H
 (try dsimp only at H)
 have A2:=Aside0.mk A20
 clear A20
 simp only [Option.some.injEq,Prod.mk.injEq] at H
 obtain ⟨rfl,rfl⟩:=H
 go_enter Tryd.func38,Tryd.ntmps38
 go_wp2_with (first|((with_reducible refine gate_dst (N:=1) rfl ?_);refine box_event ?hg (N:=1) ?hd (cs:=#[.slice A0_0 l0_0.length c0_0,.int .i64 a0_1]) (t:=59) ?hr ?_;(case hd=>rfl);(case hg=>rfl);(case hr=>first|(go_simp;done)|(go_simp;rfl));intro gb230 hg w3 hbox hb;have n0_:=Aside0.mk (below_step zhb hb);have n1_:=Aside0.mk (hbox);have n2_:=Aside0.mk ((by rw [hg];exact (below_size zhb):w.heap.size≤gb230));have n3_:=Aside0.mk ((by rw [hg];exact (below_size zhb):w.heap.size≤gb230));clear HB;have HB:=n0_;have BK230:=n1_;have GW230:=n2_;have GE230:=n3_;clear n0_ n1_ n2_ n3_;clear hb hbox hg)|((with_reducible refine gate_dst (N:=2) rfl ?_);refine box_event ?hg (N:=2) ?hd (cs:=#[.slice none 0 0,.int .i64 0]) (t:=31) ?hr ?_;(case hd=>rfl);(case hg=>rfl);(case hr=>first|(go_simp;done)|(go_simp;rfl));intro gb231 hg w4 hbox hb;have n0_:=Aside0.mk (blk_below (g:=gb230) (o:=.cells #[.slice A0_0 l0_0.length c0_0,.int .i64 a0_1] 59 (0,0)) (by (with_reducible repeat (first|refine blk_drewN ?_ _|refine blk_drew ?_|refine blk_alloc ?_ _));exact BK230.out) hb);have n1_:=Aside0.mk (below_step (by repeat (first|(with_reducible first|exact HB.out|apply below_alloc|apply pw_below_drewN|apply below_drew1|refine below_set ?_ GE230.out)|exact HB.out)) hb);have n2_:=Aside0.mk (hbox);have n3_:=Aside0.mk ((by rw [hg];exact (below_size (by repeat (first|(with_reducible first|exact HB.out|apply below_alloc|apply pw_below_drewN|apply below_drew1|refine below_set ?_ GE230.out)|exact HB.out))):w.heap.size≤gb231));have n4_:=Aside0.mk ((by rw [hg];exact (below_size (by repeat (first|(with_reducible first|exact HB.out|apply below_alloc|apply pw_below_drewN|apply below_drew1|refine below_set ?_ GE230.out)|exact HB.out))):w.heap.size≤gb231));have n5_:=Aside0.mk ((by rw [hg];exact Nat.ne_of_lt (blk_lt (g:=gb230) (o:=.cells #[.slice A0_0 l0_0.length c0_0,.int .i64 a0_1] 59 (0,0)) (by (with_reducible repeat (first|refine blk_drewN ?_ _|refine blk_drew ?_|refine blk_alloc ?_ _));exact BK230.out)):gb230≠gb231));have n6_:=Aside0.mk ((by rw [hg];exact Nat.ne_of_gt (blk_lt (g:=gb230) (o:=.cells #[.slice A0_0 l0_0.length c0_0,.int .i64 a0_1] 59 (0,0)) (by (with_reducible repeat (first|refine blk_drewN ?_ _|refine blk_drew ?_|refine blk_alloc ?_ _));exact BK230.out)):gb231≠gb230));clear BK230;clear HB;have BK230:=n0_;have HB:=n1_;have BK231:=n2_;have GW231:=n3_;have GE231:=n4_;have NB230_231:=n5_;have NB231_230:=n6_;clear n0_ n1_ n2_ n3_ n4_ n5_ n6_;clear hb hbox hg)|((with_reducible refine gate_dst (N:=3) rfl ?_);refine box_event ?hg (N:=3) ?hd (cs:=#[.slice none 0 0,.int .i64 0]) (t:=31) ?hr ?_;(case hd=>rfl);(case hg=>rfl);(case hr=>first|(go_simp;done)|(go_simp;rfl));intro gb232 hg w5 hbox hb;have n0_:=Aside0.mk (blk_below (g:=gb230) (o:=.cells #[.slice A0_0 l0_0.length c0_0,.int .i64 a0_1] 59 (0,0)) (by (with_reducible repeat (first|refine blk_drewN ?_ _|refine blk_drew ?_|refine blk_alloc ?_ _));exact BK230.out) hb);have n1_:=Aside0.mk (blk_below (g:=gb231) (o:=.cells #[.slice none 0 0,.int .i64 0] 31 (0,0)) (by (with_reducible repeat (first|refine blk_drewN ?_ _|refine blk_drew ?_|refine blk_alloc ?_ _));exact BK231.out) hb);have n2_:=Aside0.mk (below_step (by repeat (first|(with_reducible first|exact HB.out|apply below_alloc|apply pw_below_drewN|apply below_drew1|refine below_set ?_ GE230.out|refine below_set ?_ GE231.out)|exact HB.out)) hb);have n3_:=Aside0.mk (hbox);have n4_:=Aside0.mk ((by rw [hg];exact (below_size (by repeat (first|(with_reducible first|exact HB.out|apply below_alloc|apply pw_below_drewN|apply below_drew1|refine below_set ?_ GE230.out|refine below_set ?_ GE231.out)|exact HB.out))):w.heap.size≤gb232));have n5_:=Aside0.mk ((by rw [hg];exact (below_size (by repeat (first|(with_reducible first|exact HB.out|apply below_alloc|apply pw_below_drewN|apply below_drew1|refine below_set ?_ GE230.out|refine below_set ?_ GE231.out)|exact HB.out))):w.heap.size≤gb232));have n6_:=Aside0.mk ((by rw [hg];exact Nat.ne_of_lt (blk_lt (g:=gb230) (o:=.cells #[.slice A0_0 l0_0.length c0_0,.int .i64 a0_1] 59 (0,0)) (by (with_reducible repeat (first|refine blk_drewN ?_ _|refine blk_drew ?_|refine blk_alloc ?_ _));exact BK230.out)):gb230≠gb232));have n7_:=Aside0.mk ((by rw [hg];exact Nat.ne_of_gt (blk_lt (g:=gb230) (o:=.cells #[.slice A0_0 l0_0.length c0_0,.int .i64 a0_1] 59 (0,0)) (by (with_reducible repeat (first|refine blk_drewN ?_ _|refine blk_drew ?_|refine blk_alloc ?_ _));exact BK230.out)):gb232≠gb230));have n8_:=Aside0.mk ((by rw [hg];exact Nat.ne_of_lt (blk_lt (g:=gb231) (o:=.cells #[.slice none 0 0,.int .i64 0] 31 (0,0)) (by (with_reducible repeat (first|refine blk_drewN ?_ _|refine blk_drew ?_|refine blk_alloc ?_ _));exact BK231.out)):gb231≠gb232));have n9_:=Aside0.mk ((by rw [hg];exact Nat.ne_of_gt (blk_lt (g:=gb231) (o:=.cells #[.slice none 0 0,.int .i64 0] 31 (0,0)) (by (with_reducible repeat (first|refine blk_drewN ?_ _|refine blk_drew ?_|refine blk_alloc ?_ _));exact BK231.out)):gb232≠gb231));clear BK230;clear BK231;clear HB;have BK230:=n0_;have BK231:=n1_;have HB:=n2_;have BK232:=n3_;have GW232:=n4_;have GE232:=n5_;have NB230_232:=n6_;have NB232_230:=n7_;have NB231_232:=n8_;have NB232_231:=n9_;clear n0_ n1_ n2_ n3_ n4_ n5_ n6_ n7_ n8_ n9_;clear hb hbox hg;have hnb6:=NB230_231.out;have hnc6:=NB231_230.out;have hnb7:=NB230_232.out;have hnc7:=NB232_230.out;have hcz8_0:w5.cell? ⟨gb230,0,none⟩=some (.slice A0_0 l0_0.length c0_0):=(blk_cell BK230.out 0).trans rfl;have hcz8_1:w5.cell? ⟨gb230,1,none⟩=some (.int .i64 a0_1):=(blk_cell BK230.out 1).trans rfl;have hfz8_0:=blk_frozen BK230.out 0;have hfz8_1:=blk_frozen BK230.out 1)|((with_reducible refine gate_callee (f:=63) rfl ?_);refine goesL_ (some 6) rfl rfl Tryd.func63 (by kernel_rfl) rfl #[.slice A0_0 l0_0.length c0_0] rfl zar ?_;(with_reducible refine (laws_toIntS.calls k _ _ l0_0 t233 _ ?side1 ?side2 A2.out).mono ?_);(case side1=>exact zC (Kd.C_below HR0_0.out HB.out));(case side2=>exact HC0_0.out);rintro e w9 ⟨v234,rfl,ho0,hb⟩;refine ⟨_,rfl,?_⟩;have n0_:=Aside0.mk (Kd.R_lower ho0 (below_size (by repeat (first|(with_reducible first|exact HB.out|apply below_alloc|apply pw_below_drewN|apply below_drew1|refine below_set ?_ GE230.out|refine below_set ?_ GE231.out|refine below_set ?_ GE232.out)|exact HB.out))));have n1_:=Aside0.mk (blk_below (g:=gb230) (o:=.cells #[.slice A0_0 l0_0.length c0_0,.int .i64 a0_1] 59 (0,0)) (by (with_reducible repeat (first|refine blk_drewN ?_ _|refine blk_drew ?_|refine blk_alloc ?_ _));exact BK230.out) hb);have n2_:=Aside0.mk (blk_below (g:=gb231) (o:=.cells #[.slice none 0 0,.int .i64 0] 31 (0,0)) (by (with_reducible repeat (first|refine blk_drewN ?_ _|refine blk_drew ?_|refine blk_alloc ?_ _));exact BK231.out) hb);have n3_:=Aside0.mk (blk_below (g:=gb232) (o:=.cells #[.slice none 0 0,.int .i64 0] 31 (0,0)) (by (with_reducible repeat (first|refine blk_drewN ?_ _|refine blk_drew ?_|refine blk_alloc ?_ _));exact BK232.out) hb);have n4_:=Aside0.mk (below_step (by repeat (first|(with_reducible first|exact HB.out|apply below_alloc|apply pw_below_drewN|apply below_drew1|refine below_set ?_ GE230.out|refine below_set ?_ GE231.out|refine below_set ?_ GE232.out)|exact HB.out)) hb);clear BK230;clear BK231;clear BK232;clear HB;have HO235:=n0_;have BK230:=n1_;have BK231:=n2_;have BK232:=n3_;have HB:=n4_;clear n0_ n1_ n2_ n3_ n4_;(try clear hb);(try clear hb2);(try clear hk);(try clear hi);(try clear ho0);obtain ⟨Ao10,co10,eo10⟩:=Kd.R_slice HO235.out;subst eo10;have hnb11:=NB232_231.out;have hnc11:=NB231_232.out;have hcz12_0:w9.cell? ⟨gb232,0,none⟩=some (.slice none 0 0):=(blk_cell BK232.out 0).trans rfl;have hcz12_1:w9.cell? ⟨gb232,1,none⟩=some (.int .i64 0):=(blk_cell BK232.out 1).trans rfl;have hfz12_0:=blk_frozen BK232.out 0;have hfz12_1:=blk_frozen BK232.out 1;have hcz13_0:w9.cell? ⟨gb230,0,none⟩=some (.slice A0_0 l0_0.length c0_0):=(blk_cell BK230.out 0).trans rfl;have hcz13_1:w9.cell? ⟨gb230,1,none⟩=some (.int .i64 a0_1):=(blk_cell BK230.out 1).trans rfl;have hfz13_0:=blk_frozen BK230.out 0;have hfz13_1:=blk_frozen BK230.out 1;have hcz14_0:w9.cell? ⟨gb231,0,none⟩=some (.slice none 0 0):=(blk_cell BK231.out 0).trans rfl;have hcz14_1:w9.cell? ⟨gb231,1,none⟩=some (.int .i64 0):=(blk_cell BK231.out 1).trans rfl;have hfz14_0:=blk_frozen BK231.out 0;have hfz14_1:=blk_frozen BK231.out 1))
 refine bodyPost_ret (results_cell_row rfl _ _ gb231 31 #[.slice Ao10 t233.length co10,.int .i64 a0_1] (0,0) _ rfl (by (with_reducible repeat (first|refine blk_drewN ?_ _|refine blk_drew ?_|refine blk_alloc ?_ _));refine blk_put (cs:=#[.slice Ao10 t233.length co10,.int .i64 0]) ?_ 1 _ rfl;(with_reducible repeat (first|refine blk_drewN ?_ _|refine blk_drew ?_|refine blk_alloc ?_ _));refine blk_put (cs:=#[.slice none 0 0,.int .i64 0]) ?_ 0 _ rfl;(with_reducible repeat (first|refine blk_drewN ?_ _|refine blk_drew ?_|refine blk_alloc ?_ _));refine blk_far ?_ NB231_232.out _;(with_reducible repeat (first|refine blk_drewN ?_ _|refine blk_drew ?_|refine blk_alloc ?_ _));refine blk_far ?_ NB231_232.out _;(with_reducible repeat (first|refine blk_drewN ?_ _|refine blk_drew ?_|refine blk_alloc ?_ _));exact BK231.out) Tryd.underlying31 rfl (by kernel_rfl)) rfl ?_
 exact ⟨_,by first|rfl|(simp [errW_none,errW_some] <;> rfl)|(simp [*,errW_none,errW_some] <;> rfl),by (with_reducible repeat (first|apply Kd.R_alloc|apply Kd.R_drewN|apply Kd.R_drew));exact Kd.R_mono (Kd.R_far (p:=⟨gb231,1,none⟩) (Kd.R_far (p:=⟨gb231,0,none⟩) (Kd.R_far (p:=⟨gb232,1,none⟩) (Kd.R_far (p:=⟨gb232,0,none⟩) (Kd.R_types (Kd.R_types HO235.out BK232.out (by decide)) BK231.out (by decide)) (fun _ hk=>hk.1.2) (.slice Ao10 t233.length co10)) (fun _ hk=>hk.1.2) (.int .i64 a0_1)) (fun _ hk=>hk.2) (.slice Ao10 t233.length co10)) (fun _ hk=>hk.2) (.int .i64 a0_1)) (fun _ hk=>trivial),by repeat (first|(with_reducible first|exact HB.out|apply below_alloc|apply pw_below_drewN|apply below_drew1|refine below_set ?_ GE230.out|refine below_set ?_ GE231.out|refine below_set ?_ GE232.out)|exact HB.out)⟩

/-! ### laws_toItemS: function 13 -/
def laws_toItemS.l0:Nat→List (S59)→List (S31)→Int→Option ((List (S31)))
 | 0,_,_,_=>none
 | k + 1,x0,x3,x4=>if x4 < (x0.length:Int) then (if 0≤x4 then ((laws_toItem.f k ((rd_T59 x0 x4).f0) ((rd_T59 x0 x4).f1)).bind fun bt240=>(if x4 < (x3.length:Int) then (laws_toItemS.l0 k x0 (x3.set (x4:Int).toNat (⟨bt240.1,bt240.2⟩:S31)) (wrap64 (x4 + 1))) else (none))) else (none)) else (some x3)
def laws_toItemS.f (k:Nat) (l0:List (S59)):Option ((List (S31))):=if 0≤(l0.length:Int) then (if ((l0.length:Int):Int).toNat≤8796093022208 then (laws_toItemS.l0 k l0 (List.replicate ((l0.length:Int):Int).toNat z31) 0) else (none)) else (none)
theorem laws_toItemS.mono_l : ∀ k,(∀ y0 y1 y2,LeO (laws_toItemS.l0 k y0 y1 y2) (laws_toItemS.l0 (k + 1) y0 y1 y2))
 | 0=>fun _ _ _ r h=>by simp [laws_toItemS.l0] at h
 | k + 1=>by
  have ih0:=laws_toItemS.mono_l k
  ·intro y0 y1 y2
   unfold laws_toItemS.l0
   repeat' first
   | (with_reducible exact ih0 _ _ _)
   | (with_reducible exact laws_toItem.mono _ _ _)
   | (with_reducible exact LeO.refl _)
   | (with_reducible exact LeO.none _)
   | (with_reducible refine LeO.ite ?_ ?_)
   | (with_reducible refine LeO.bind ?_ (fun _=>?_))
   | exact LeO.none _
   | refine LeO.ite ?_ ?_
   | refine LeO.bind ?_ (fun _=>?_)
theorem laws_toItemS.mono : ∀ a0 k,LeO (laws_toItemS.f k a0) (laws_toItemS.f (k + 1) a0):=by
 intro a0 k
 have ih0:=laws_toItemS.mono_l k
 unfold laws_toItemS.f
 repeat' first
   | (with_reducible exact ih0 _ _ _)
   | (with_reducible exact laws_toItem.mono _ _ _)
   | (with_reducible exact LeO.refl _)
   | (with_reducible exact LeO.none _)
   | (with_reducible refine LeO.ite ?_ ?_)
   | (with_reducible refine LeO.bind ?_ (fun _=>?_))
   | exact LeO.none _
   | refine LeO.ite ?_ ?_
   | refine LeO.bind ?_ (fun _=>?_)
set_option maxHeartbeats 8000000 in
set_option maxRecDepth 100000 in
theorem laws_toItemS.calls (k:Nat) (A0:Option Addr) (c0:Nat) (l0:List (S59)) (r:List (S31)) (w:World) (hr0:Kd.C k59 w A0 l0.length l0) (hc0:l0.length≤c0) (h:laws_toItemS.f k l0=some r) :
  Calls Tryd.prog 13 #[.slice A0 l0.length c0] w fun e w'=>∃ v0_:Value,e=.returned (v0_)∧Kd.S k31 31 w' w.heap.size (fun _=>True) v0_ r∧Below w.heap.size w w':=by
 have hu59:=Tryd.underlying59
 have hu31:=Tryd.underlying31
 have HR0:=Aside0.mk hr0
 have HC0:=Aside0.mk hc0
 clear hr0 hc0
 have HB:=Aside0.mk (Below.refl w.heap.size w)
 have H:(if 0≤(l0.length:Int) then (if ((l0.length:Int):Int).toNat≤8796093022208 then (laws_toItemS.l0 k l0 (List.replicate ((l0.length:Int):Int).toNat z31) 0) else (none)) else (none))=some r:=h
 clear h
 by_cases c2:0≤(l0.length:Int)
 ·rw [if_pos c2] at H
  have c2b0:=eq_true c2
  have c2b1:decide (0≤(l0.length:Int))=true:=decide_eq_true c2
  clear c2
  by_cases c3:((l0.length:Int):Int).toNat≤8796093022208
  ·rw [if_pos c3] at H
   have c3b0:=eq_true c3
   have c3b1:decide (((l0.length:Int):Int).toNat≤8796093022208)=true:=decide_eq_true c3
   clear c3
   obtain ⟨y236,hy236⟩ : ∃ y_:List (S31),y_=(List.replicate ((l0.length:Int):Int).toNat z31):=⟨_,rfl⟩
   replace H:(laws_toItemS.l0 k l0 y236 0)=some r:=by first|(rw [hy236];with_reducible exact H)|(have H2_:=(Option.bind_some _ _).symm.trans H;rw [hy236];with_reducible exact H2_)|(have H2_:=(Option.bind_some _ _).symm.trans H;with_reducible exact H2_)|with_reducible exact H|(rw [hy236];exact H)|exact H
   have Ny236:=Aside0.mk hy236
   clear hy236
   have H':=Aside0.mk H
   clear H
   go_enter Tryd.func13,Tryd.ntmps13
   go_wp2_with (first|((with_reducible refine gate_dst (N:=7) rfl ?_);refine Kd.S_make k31 _ 31 rfl (N:=7) rfl 23 _ _ rfl (l0.length:Int) rfl rfl Tryd.underlying23 (.agg #[(.slice none 0 0),(.int .i64 0)]) 32 info31 rfl (by decide) (by omega) z31 (ok:=fun _=>True) (okp:=fun _=>True) (k31_mkM _ _ _ z31 (Kd.R_nil _ _ _ _ _)) (fun _ hk=>hk) trivial (zod) (Nat.le_trans (Nat.mul_le_mul_right _ (zod:(l0.length:Int).toNat≤8796093022208)) (by omega)) (Below.refl _ _) (Nat.le_refl _) ?_;intro v237 w4 ho5 hb hg_ hnew_;clear hg_ hnew_;(first|rw [← Ny236.out] at ho5|(simp only [Int.reduceToNat] at ho5;rw [← Ny236.out] at ho5));have n0_:=Aside0.mk (Kd.S_lower ho5 (below_size zhb));have n1_:=Aside0.mk (below_step zhb hb);clear HB;have HO238:=n0_;have HB:=n1_;clear n0_ n1_;clear hb ho5))
   go_loopg [4] k (fun kq v4 w'=>∃ (x3_1:List (S31)) (x4_1:Int),v4=.int .i64 x4_1∧Aside0 (laws_toItemS.l0 kq l0 x3_1 x4_1=some r)∧Aside0 (kq≤k)∧Aside0 (Kd.S k31 31 w' w.heap.size (fun _=>True) v237 x3_1)∧Aside0 (Below w.heap.size w w'))
   case atStart=>exact ⟨(y236),(0),(by first|rfl|(simp;done)|(simp [*];done)),H',⟨Nat.le_refl _⟩,⟨by (with_reducible repeat (first|apply Kd.S_alloc|apply Kd.S_drewN|apply Kd.S_drew));exact HO238.out⟩,⟨zhb⟩⟩
   case round =>
    clear H'
    try clear c1
    try clear c2
    try clear c2b0
    try clear c2b1
    try clear p2
    try clear c3
    try clear c3b0
    try clear c3b1
    obtain ⟨x3_1,x4_1,rfl,HA,HK1,HO_3,HB⟩:=hrel
    cases gk with
    | zero=>exact absurd HA.out (by simp [laws_toItemS.l0])
    | succ k1 =>
     have H:=HA.out
     clear HA
     simp only [laws_toItemS.l0] at H
     by_cases c6:x4_1 < (l0.length:Int)
     ·rw [if_pos c6] at H
      have c6b0:decide (x4_1 < (l0.length:Int))=true:=decide_eq_true c6
      clear c6
      by_cases c7:0≤x4_1
      ·rw [if_pos c7] at H
       have c7b0:decide (0≤x4_1)=true:=decide_eq_true c7
       clear c7
       replace H:=Option.bind_eq_some_iff.mp H
       obtain ⟨⟨t240,t243⟩,A80,H⟩:=H
       (try dsimp only at H)
       have A8:=Aside0.mk A80
       clear A80
       by_cases c9:x4_1 < (x3_1.length:Int)
       ·rw [if_pos c9] at H
        have c9b0:decide (x4_1 < (x3_1.length:Int))=true:=decide_eq_true c9
        clear c9
        obtain ⟨y244,hy244⟩ : ∃ y_:List (S31),y_=(x3_1.set (x4_1:Int).toNat (⟨t240,t243⟩:S31)):=⟨_,rfl⟩
        replace H:(laws_toItemS.l0 k1 l0 y244 (wrap64 (x4_1 + 1)))=some r:=by first|(rw [hy244];with_reducible exact H)|(have H2_:=(Option.bind_some _ _).symm.trans H;rw [hy244];with_reducible exact H2_)|(have H2_:=(Option.bind_some _ _).symm.trans H;with_reducible exact H2_)|with_reducible exact H|(rw [hy244];exact H)|exact H
        have Ny244:=Aside0.mk hy244
        clear hy244
        have H':=Aside0.mk H
        clear H
        have p239:0≤(x4_1:Int):=zod
        have q239:x4_1 < (l0.length:Int):=zod
        obtain ⟨ad239,A239_0,c239_0,e239,hx239_0,hx239_1,hl239_0,hi239_0⟩:=at_T59 HR0.out x4_1 p239 q239
        cases e239
        replace hx239_0:=(HB.out.cell (World.block_lt_of_cell? w _ hx239_0)).trans hx239_0
        replace hx239_1:=(HB.out.cell (World.block_lt_of_cell? w _ hx239_1)).trans hx239_1
        have HR239_0:=Aside0.mk hi239_0
        have HC239_0:=Aside0.mk hl239_0
        clear hi239_0 hl239_0
        replace p239:=eq_true p239
        replace q239:=eq_true q239
        go_wp2_with (first|((with_reducible refine gate_callee (f:=38) rfl ?_);refine goesL_ (some 20) rfl rfl Tryd.func38 (by kernel_rfl) rfl #[.agg #[.slice A239_0 ((rd_T59 l0 x4_1).f0).length c239_0,.int .i64 ((rd_T59 l0 x4_1).f1)]] rfl zar ?_;(with_reducible refine (laws_toItem.calls k1 _ _ ((rd_T59 l0 x4_1).f0) ((rd_T59 l0 x4_1).f1) t240 t243 _ ?side1 ?side2 A8.out).mono ?_);(case side1=>exact zC (Kd.C_below HR239_0.out HB.out));(case side2=>exact HC239_0.out);rintro e w11 ⟨v241,rfl,ho0,hb⟩;refine ⟨_,rfl,?_⟩;have n0_:=Aside0.mk (Kd.S_elder' (by (with_reducible repeat (first|apply Kd.S_alloc|apply Kd.S_drewN|apply Kd.S_drew));exact HO_3.out) (Kd.R_base ho0) hb);have n1_:=Aside0.mk (Kd.R_lower ho0 (below_size zhb));have n2_:=Aside0.mk (below_step zhb hb);clear HO_3;clear HB;have HO_3:=n0_;have HO242:=n1_;have HB:=n2_;clear n0_ n1_ n2_;(try clear hb);(try clear hb2);(try clear hk);(try clear hi);(try clear ho0);have p10:0≤(x4_1:Int):=zod;have q10:(x4_1:Int) < ((x3_1.length:Int):Int):=zod;obtain ⟨go10,co10,eo10,gb10,gl10,cl10,HG10⟩:=Kd.S_form HO_3.out (by omega);(first|cases eo10|(injection eo10 with ea_ en_ ec_;(first|subst ea_|(injection ea_ with ea_;subst ea_));subst ec_;clear en_));have GB10:=Aside0.mk gb10;have GG10:=Aside0.mk HG10;clear gb10 gl10 HG10;obtain ⟨_,ce10,hcl10,hM10,hcc10,hfr10,_,_⟩:=Kd.S_elem HO_3.out z31 (x4_1:Int) p10 q10;obtain ⟨ve10_0,rfl,ge10_0⟩:=k31_openM hM10;have hx10_0:w11.cell? ⟨go10,(x4_1:Int).toNat * 2,none⟩=some (ve10_0):=hcc10 0 _ rfl;have hx10_1:w11.cell? ⟨go10,(x4_1:Int).toNat * 2 + 1,none⟩=some (.int .i64 ((rd_T31 x3_1 x4_1).f1)):=hcc10 1 _ rfl;have hf10_0:w11.frozen? ⟨go10,(x4_1:Int).toNat * 2,none⟩=false:=hfr10 0;have hf10_1:w11.frozen? ⟨go10,(x4_1:Int).toNat * 2 + 1,none⟩=false:=hfr10 1;clear hcl10 hcc10 hfr10 hM10;replace p10:=eq_true p10;replace q10:=eq_true q10;have n_:=Aside0.mk (Kd.S_mono (ok':=(fun k_=>some k_≠(v241:Value).ownBlock)) HO_3.out (fun k_ hk=>hk.2));clear HO_3;have HO_3:=n_;clear n_;have HX12:=Aside0.mk (show Kd.S k31 31 w11 w.heap.size (fun k_=>((fun _=>True)) k_∧¬ ((fun k_=>some k_=(v241:Value).ownBlock)) k_) (.slice (some ⟨go10,0,none⟩) x3_1.length co10) x3_1 from (by (with_reducible repeat (first|apply Kd.S_alloc|apply Kd.S_drewN|apply Kd.S_drew));exact Kd.S_mono HO_3.out (fun k_ hk=>⟨trivial,fun e_=>hk e_⟩)));obtain ⟨oki12,ce12,hcl12,hM12,hcc12,hfr12,hoki12,hH12⟩:=Kd.S_elem HX12.out z31 (x4_1:Int) (zod) (by have h_:(x4_1:Int) < ((x3_1.length:Int):Int):=zod;first|exact h_|(have e_:=(Kd.S_reads' HO_3.out).1;omega)|simpa using h_);obtain ⟨ve12_0,rfl,ge12_0⟩:=k31_openM hM12;have HP12:=Kd.S_seg hH12 (zod) (by have h_:(x4_1:Int) < ((x3_1.length:Int):Int):=zod;first|exact h_|(have e_:=(Kd.S_reads' HO_3.out).1;omega)|simpa using h_) (seg:=[v241,.int .i64 t243]) (j:=0) (show 2≤2 from by decide) (x':=(⟨t240,t243⟩:S31)) (k31_mkM _ _ _ (⟨t240,t243⟩:S31) (Kd.R_mono (Kd.R_tight rfl (Kd.R_mono (ok':=fun k_=>((fun _=>True)) k_∧k_≠go10) (Kd.R_apart' (HO242.out) (Kd.S_typed HO_3.out) (by decide)) (fun k_ hk=>⟨trivial,fun e_=>(hk.2) (by rw [e_];rfl)⟩))) (fun _ h_=>Or.inr (h_)))) (fun _ hk=>hk) (fun k_ hk_=>((Kd.R_mono (ok':=fun k_=>((fun _=>True)) k_∧k_≠go10) (Kd.R_apart' (HO242.out) (Kd.S_typed HO_3.out) (by decide)) (fun k_ hk=>⟨trivial,fun e_=>(hk.2) (by rw [e_];rfl)⟩))).1 k_ hk_.symm);have hx12_0:=hcc12 0 _ rfl;(try simp only [show (k31).sz=2 from rfl,Nat.mul_one,Nat.add_zero] at hx12_0);have hf12_0:=hfr12 0;(try simp only [show (k31).sz=2 from rfl,Nat.mul_one,Nat.add_zero] at hf12_0);have hx12_1:=hcc12 1 _ rfl;(try simp only [show (k31).sz=2 from rfl,Nat.mul_one,Nat.add_zero] at hx12_1);have hf12_1:=hfr12 1;(try simp only [show (k31).sz=2 from rfl,Nat.mul_one,Nat.add_zero] at hf12_1);clear hcl12 hcc12 hfr12 hM12 hoki12 hH12)|((with_reducible refine gate_store (t:=31) (p:=21) rfl ?_);refine store_event (t:=31) (p:=21) (v:=?vo_w13) (w1:=((w11.setCell ⟨go10,(x4_1:Int).toNat * 2,none⟩ (v241)).setCell ⟨go10,(x4_1:Int).toNat * 2 + 1,none⟩ (.int .i64 t243))) ?hg ?ho ?hn ?hr ?_;(case ho=>rfl);(case hg=>rfl);(case hn=>rfl);(case hr=>first|(go_simp;done)|(go_simp;rfl)|(obtain ⟨A0_,c0_,e0_⟩:=Kd.R_slice HO242.out;subst e0_;(first|(go_simp;done)|(go_simp;rfl))));intro w13 hw;have hg:w11.grownBy w13 (some go10):=(by rw [hw];exact HP12.2);have hp_:Kd.S k31 31 w13 w.heap.size (fun _=>True) (.slice (some ⟨go10,0,none⟩) x3_1.length co10) y244:=(by rw [hw,Ny244.out];exact HP12.1);clear HP12;have n0_:=Aside0.mk (hp_);have n1_:=Aside0.mk ((by rw [hw];exact below_set (below_set (HB.out) GB10.out) GB10.out:Below w.heap.size w w13));clear HO_3;clear HB;clear HO242;have HO_3:=n0_;have HB:=n1_;clear n0_ n1_;clear hg hw hp_))
        go_roundg k1
        case measure=>have:=HK1.out;omega
        case rel=>exact ⟨(y244),(wrap64 (x4_1 + 1)),(by first|rfl|(simp;done)|(simp [*];done)),H',⟨by have:=HK1.out;omega⟩,⟨by (with_reducible repeat (first|apply Kd.S_alloc|apply Kd.S_drewN|apply Kd.S_drew));exact HO_3.out⟩,⟨zhb⟩⟩
       ·rw [if_neg c9] at H
        exact absurd H (by simp)
      ·rw [if_neg c7] at H
       exact absurd H (by simp)
     ·rw [if_neg c6] at H
      have c6b0:decide (x4_1 < (l0.length:Int))=false:=decide_eq_false c6
      clear c6
      obtain rfl:=Option.some.inj H
      go_wp2
      go_ret
      exact ⟨_,by first|rfl|(simp [errW_none,errW_some] <;> rfl)|(simp [*,errW_none,errW_some] <;> rfl),by (with_reducible repeat (first|apply Kd.S_alloc|apply Kd.S_drewN|apply Kd.S_drew));exact HO_3.out,zhb⟩
  ·rw [if_neg c3] at H
   exact absurd H (by simp)
 ·rw [if_neg c2] at H
  exact absurd H (by simp)

end Go.Proofs.YtlknceioincaeaaDoor.PFnExactJoinOf
