-- Written by wip/tools/pp.py, a program of this session over the kit's printer: not the kit's own print
import Derived.Test.YtgcplipimcbhlaaDoorPFnExactZReadx0
import Derived.Test.YtgcplipimcbhlaaDoorPFnExactZReadx1
import Derived.Test.YtgcplipimcbhlaaDoorPFnExactZReadx2
import Derived.Test.YtgcplipimcbhlaaDoorPFnExactZReadx3
import Derived.Test.YtgcplipimcbhlaaDoorPFnExactZReadx4
namespace Go.Proofs.YtgcplipimcbhlaaDoor.PFnExactZRead
open Go.RowKit Go.Proofs.YtgcplipimcbhlaaDoorW.PrintWords Go.Proofs.YtgcplipimcbhlaaDoorW.PrintLast Go.Proofs.YtgcplipimcbhlaaDoorW.PrintMore
attribute [local go_sem] max2_int min2_int max_two min_two max_three min_three max_four min_four   -- for this text's walks alone
set_option linter.unusedVariables false
set_option linter.unusedSimpArgs false

/-! ### spec_RowRead: function 27 -/
def spec_RowRead.l0:Nat→List ByteArray→List Int→Int→Option (List Int × Bool)
 | 0,_,_,_=>none
 | k + 1,x4,x5,x6=>if x6 < (x4.length:Int) then (if 0≤x6 then ((spec_l12Num.f k (rdOf ByteArray.empty x4 x6)).bind fun bt131=>(if bt131.2=true then (if x5.length < 17592186044416 then (spec_RowRead.l0 k x4 (x5 ++ [bt131.1]) (wrap64 (x6 + 1))) else (none)) else (some (([]:List Int),false)))) else (none)) else ((spec_RowOk.f k x5).bind fun t136=>(if t136=true then (some (x5,true)) else (some (([]:List Int),false))))
def spec_RowRead.f (k:Nat) (a0:ByteArray):Option (List Int × Bool):=if (a0.size:Int) > 100 then (some (([]:List Int),false)) else ((spec_l12Cut.f k a0 44).bind fun t124=>(spec_RowRead.l0 k t124 (([]:List Int)) 0))
theorem spec_RowRead.mono_l : ∀ k,(∀ y0 y1 y2,LeO (spec_RowRead.l0 k y0 y1 y2) (spec_RowRead.l0 (k + 1) y0 y1 y2))
 | 0=>fun _ _ _ r h=>by simp [spec_RowRead.l0] at h
 | k + 1=>by
  have ih0:=spec_RowRead.mono_l k
  ·intro y0 y1 y2
   unfold spec_RowRead.l0
   repeat' first
   | (with_reducible exact ih0 _ _ _)
   | (with_reducible exact spec_RowOk.mono _ _)
   | (with_reducible exact spec_l12Cut.mono _ _ _)
   | (with_reducible exact spec_l12Num.mono _ _)
   | (with_reducible exact LeO.refl _)
   | (with_reducible exact LeO.none _)
   | (with_reducible refine LeO.ite ?_ ?_)
   | (with_reducible refine LeO.bind ?_ (fun _=>?_))
   | exact LeO.none _
   | refine LeO.ite ?_ ?_
   | refine LeO.bind ?_ (fun _=>?_)
theorem spec_RowRead.mono : ∀ a0 k,LeO (spec_RowRead.f k a0) (spec_RowRead.f (k + 1) a0):=by
 intro a0 k
 have ih0:=spec_RowRead.mono_l k
 unfold spec_RowRead.f
 repeat' first
   | (with_reducible exact ih0 _ _ _)
   | (with_reducible exact spec_RowOk.mono _ _)
   | (with_reducible exact spec_l12Cut.mono _ _ _)
   | (with_reducible exact spec_l12Num.mono _ _)
   | (with_reducible exact LeO.refl _)
   | (with_reducible exact LeO.none _)
   | (with_reducible refine LeO.ite ?_ ?_)
   | (with_reducible refine LeO.bind ?_ (fun _=>?_))
   | exact LeO.none _
   | refine LeO.ite ?_ ?_
   | refine LeO.bind ?_ (fun _=>?_)
set_option maxHeartbeats 8000000 in
set_option maxRecDepth 100000 in
theorem spec_RowRead.calls (k:Nat) (a0:ByteArray) (r1:List Int) (r2:Bool) (w:World) (h:spec_RowRead.f k a0=some (r1,r2)) :
  Calls Tryd.prog 27 #[.string a0] w fun e w'=>∃ v0_:Value,e=.returned (.tuple #[v0_,.bool r2])∧Kd.R (Kd.int .i64) 3 w' w.heap.size (fun _=>True) v0_ r1∧Below w.heap.size w w':=by
 have HB:=Aside0.mk (Below.refl w.heap.size w)
 have H:(if (a0.size:Int) > 100 then (some (([]:List Int),false)) else ((spec_l12Cut.f k a0 44).bind fun t124=>(spec_RowRead.l0 k t124 (([]:List Int)) 0)))=some (r1,r2):=h
 clear h
 by_cases c2:(a0.size:Int) > 100
 ·rw [if_pos c2] at H
  have c2b0:decide (100 < (a0.size:Int))=true:=decide_eq_true c2
  have c2b1:decide (100 < a0.size)=true:=decide_eq_true (by omega)
  clear c2
  simp only [Option.some.injEq,Prod.mk.injEq] at H
  obtain ⟨rfl,rfl⟩:=H
  go_enter Tryd.func27,Tryd.ntmps27
  go_wp2
  go_ret2
  exact ⟨_,by first|rfl|(simp [errW_none,errW_some] <;> rfl)|(simp [*,errW_none,errW_some] <;> rfl),by first|exact Kd.R_nil _ _ _ _ _|exact Kd.N_nil _ _ _ _ _|exact Kd.V_nil _ _ _ _ _|exact Kd.Q_nil _ _ _ _ _|exact Kd.S_nil _ _ _ _ _,zhb⟩
 ·rw [if_neg c2] at H
  have c2b0:decide (100 < (a0.size:Int))=false:=decide_eq_false c2
  have c2b1:decide (100 < a0.size)=false:=decide_eq_false (by omega)
  clear c2
  replace H:=Option.bind_eq_some_iff.mp H
  obtain ⟨t124,A30,H⟩:=H
  (try dsimp only at H)
  have A3:=Aside0.mk A30
  clear A30
  obtain ⟨y127,hy127⟩ : ∃ y_:List Int,y_=(([]:List Int)):=⟨_,rfl⟩
  replace H:(spec_RowRead.l0 k t124 y127 0)=some (r1,r2):=by first|(rw [hy127];with_reducible exact H)|(have H2_:=(Option.bind_some _ _).symm.trans H;rw [hy127];with_reducible exact H2_)|(have H2_:=(Option.bind_some _ _).symm.trans H;with_reducible exact H2_)|with_reducible exact H|(rw [hy127];exact H)|exact H
  have Ny127:=Aside0.mk hy127
  clear hy127
  have H':=Aside0.mk H
  clear H
  go_enter Tryd.func27,Tryd.ntmps27
  go_wp2_with (first|((with_reducible refine gate_callee (f:=36) rfl ?_);refine goesL_ (some 13) rfl rfl Tryd.func36 (by kernel_rfl) rfl #[.string a0,.int .u8 44] rfl zar ?_;(with_reducible refine (spec_l12Cut.calls k a0 44 t124 _ A3.out).mono ?_);rintro e w4 ⟨v125,rfl,ho0,hb⟩;refine ⟨_,rfl,?_⟩;have n0_:=Aside0.mk (Kd.R_lower ho0 (below_size zhb));have n1_:=Aside0.mk (below_step zhb hb);clear HB;have HO126:=n0_;have HB:=n1_;clear n0_ n1_;(try clear hb);(try clear hb2);(try clear hk);(try clear hi);(try clear ho0))|((with_reducible refine gate_dst (N:=14) rfl ?_);refine Kd.R_lit (Kd.int .i64) _ 3 ?hg (N:=14) ?hd (xs:=([]:List Int)) (inner:=[]) (ok:=fun _=>True) (okp:=fun _=>True) ?hr ?hp (fun _ hk=>hk) trivial (Below.refl _ _) (Nat.le_refl _) (by simp) ?_;(case hd=>rfl);(case hg=>rfl);(case hr=>first|(go_simp;done)|(go_simp;rfl));(case hp=>exact (Reps.none _ _));intro v128 w5 ho6 hb hg_ hnew_;clear hg_ hnew_;(first|rw [← Ny127.out] at ho6|(simp only [Int.reduceToNat] at ho6;rw [← Ny127.out] at ho6));have n0_:=Aside0.mk (Kd.R_below (by (with_reducible repeat (first|apply Kd.R_alloc|apply Kd.R_drewN|apply Kd.R_drew));exact HO126.out) hb);have n1_:=Aside0.mk (Kd.R_lower ho6 (below_size zhb));have n2_:=Aside0.mk (below_step zhb hb);clear HO126;clear HB;have HO126:=n0_;have HO129:=n1_;have HB:=n2_;clear n0_ n1_ n2_;clear hb ho6))
  go_loopg [5,6] k (fun kq v5 v6 w'=>∃ (x5_1:List Int) (x6_1:Int),v6=.int .i64 x6_1∧Aside0 (spec_RowRead.l0 kq t124 x5_1 x6_1=some (r1,r2))∧Aside0 (kq≤k)∧Aside0 (Kd.R Kd.string 9 w' w.heap.size (fun _=>True) v125 t124)∧Aside0 (Kd.R (Kd.int .i64) 3 w' w.heap.size (fun _=>True) v5 x5_1)∧Aside0 (Below w.heap.size w w'))
  case atStart=>exact ⟨(y127),(0),(by first|rfl|(simp;done)|(simp [*];done)),H',⟨Nat.le_refl _⟩,⟨by (with_reducible repeat (first|apply Kd.R_alloc|apply Kd.R_drewN|apply Kd.R_drew));exact HO126.out⟩,⟨by (with_reducible repeat (first|apply Kd.R_alloc|apply Kd.R_drewN|apply Kd.R_drew));exact HO129.out⟩,⟨zhb⟩⟩
  case round =>
   clear H'
   try clear c2
   try clear c2b0
   try clear c2b1
   try clear p2
   try clear c3
   obtain ⟨x5_1,x6_1,rfl,HA,HK1,HO_4,HO_5,HB⟩:=hrel
   cases gk with
   | zero=>exact absurd HA.out (by simp [spec_RowRead.l0])
   | succ k1 =>
    have H:=HA.out
    clear HA
    simp only [spec_RowRead.l0] at H
    by_cases c7:x6_1 < (t124.length:Int)
    ·rw [if_pos c7] at H
     have c7b0:decide (x6_1 < (t124.length:Int))=true:=decide_eq_true c7
     clear c7
     by_cases c8:0≤x6_1
     ·rw [if_pos c8] at H
      have c8b0:decide (0≤x6_1)=true:=decide_eq_true c8
      clear c8
      replace H:=Option.bind_eq_some_iff.mp H
      obtain ⟨⟨t131,t132⟩,A90,H⟩:=H
      (try dsimp only at H)
      have A9:=Aside0.mk A90
      clear A90
      by_cases c10:t132=true
      ·subst c10
       have H1:(if x5_1.length < 17592186044416 then (spec_RowRead.l0 k1 t124 (x5_1 ++ [t131]) (wrap64 (x6_1 + 1))) else (none))=some (r1,r2):=by rw [if_pos rfl] at H;exact H
       clear H
       have H:=H1
       clear H1
       by_cases c11:x5_1.length < 17592186044416
       ·rw [if_pos c11] at H
        have LMc11:=Aside0.mk c11
        clear c11
        obtain ⟨y133,hy133⟩ : ∃ y_:List Int,y_=(x5_1 ++ [t131]):=⟨_,rfl⟩
        replace H:(spec_RowRead.l0 k1 t124 y133 (wrap64 (x6_1 + 1)))=some (r1,r2):=by first|(rw [hy133];with_reducible exact H)|(have H2_:=(Option.bind_some _ _).symm.trans H;rw [hy133];with_reducible exact H2_)|(have H2_:=(Option.bind_some _ _).symm.trans H;with_reducible exact H2_)|with_reducible exact H|(rw [hy133];exact H)|exact H
        have Ny133:=Aside0.mk hy133
        clear hy133
        have H':=Aside0.mk H
        clear H
        obtain ⟨Ao12,co12,eo12⟩:=Kd.R_slice HO_4.out
        subst eo12
        have p130:0≤(x6_1:Int):=zod
        have q130:x6_1 < (t124.length:Int):=zod
        obtain ⟨ad130,e130,hx130_0⟩:=Kd.at_string (Kd.R_reads' HO_4.out).2.2 x6_1 p130 q130
        cases e130
        replace p130:=eq_true p130
        replace q130:=eq_true q130
        go_wp2_with (first|((with_reducible refine gate_callee (f:=57) rfl ?_);refine goesL_ (some 26) rfl rfl Tryd.func57 (by kernel_rfl) rfl #[.string (rdOf ByteArray.empty t124 x6_1)] rfl zar ?_;(with_reducible refine (spec_l12Num.calls k1 (rdOf ByteArray.empty t124 x6_1) t131 true _ A9.out).mono ?_);rintro e w' ⟨rfl,⟨nd,rfl⟩⟩;refine ⟨_,rfl,?_⟩)|((with_reducible refine gate_builtin (b:=.append) (xs:=#[.tmp 31,.tmp 33]) rfl ?_);at_builtin;refine Kd.R_append (Kd.int .i64) (w0:=w) w.heap.size rfl (.tmp 31) (.tmp 33) 28 3 (.int .i64 0) 8 rfl Tryd.underlying28 info3 rfl (by decide) (by omega) u5 x5_1 t131 [.int .i64 t131] (fun _=>True) (fun _=>False) rfl rfl ?aP (fun _ hk=>hk.elim) ?aF ?aO ?aB ?aS ?aL ?_;(case aP=>exact rfl);(case aB=>exact zhb);(case aF=>exact (fun _ _=>trivial));(case aO=>exact (by (with_reducible repeat (first|apply Kd.R_alloc|apply Kd.R_drewN|apply Kd.R_drew));exact HO_5.out));(case aS=>exact (below_size zhb));(case aL=>have:=LMc11.out;omega);intro v134 w13 ho hb hg hat;rw [← Ny133.out] at ho;have n0_:=Aside0.mk (Kd.R_over' (by (with_reducible repeat (first|apply Kd.R_alloc|apply Kd.R_drewN|apply Kd.R_drew));exact HO_4.out) (Kd.R_typed (by (with_reducible repeat (first|apply Kd.R_alloc|apply Kd.R_drewN|apply Kd.R_drew));exact HO_5.out)) (by decide) hg);have n1_:=Aside0.mk (hb);have n2_:=Aside0.mk (ho);clear HO_4;clear HB;clear HO_5;have HO_4:=n0_;have HB:=n1_;have HO135:=n2_;clear n0_ n1_ n2_;clear ho hb hg hat))
        go_roundg k1
        case measure=>have:=HK1.out;omega
        case rel=>exact ⟨(y133),(wrap64 (x6_1 + 1)),(by first|rfl|(simp;done)|(simp [*];done)),H',⟨by have:=HK1.out;omega⟩,⟨by (with_reducible repeat (first|apply Kd.R_alloc|apply Kd.R_drewN|apply Kd.R_drew));exact HO_4.out⟩,⟨by (with_reducible repeat (first|apply Kd.R_alloc|apply Kd.R_drewN|apply Kd.R_drew));exact HO135.out⟩,⟨zhb⟩⟩
       ·rw [if_neg c11] at H
        exact absurd H (by simp)
      ·replace c10:=Bool.eq_false_iff.mpr c10
       subst c10
       have H1:(some (([]:List Int),false))=some (r1,r2):=by rw [if_neg (show ¬ (false=true) by decide)] at H;exact H
       clear H
       have H:=H1
       clear H1
       simp only [Option.some.injEq,Prod.mk.injEq] at H
       obtain ⟨rfl,rfl⟩:=H
       obtain ⟨Ao14,co14,eo14⟩:=Kd.R_slice HO_4.out
       subst eo14
       have p130:0≤(x6_1:Int):=zod
       have q130:x6_1 < (t124.length:Int):=zod
       obtain ⟨ad130,e130,hx130_0⟩:=Kd.at_string (Kd.R_reads' HO_4.out).2.2 x6_1 p130 q130
       cases e130
       replace p130:=eq_true p130
       replace q130:=eq_true q130
       go_wp2_with (first|((with_reducible refine gate_callee (f:=57) rfl ?_);refine goesL_ (some 26) rfl rfl Tryd.func57 (by kernel_rfl) rfl #[.string (rdOf ByteArray.empty t124 x6_1)] rfl zar ?_;(with_reducible refine (spec_l12Num.calls k1 (rdOf ByteArray.empty t124 x6_1) t131 false _ A9.out).mono ?_);rintro e w' ⟨rfl,⟨nd,rfl⟩⟩;refine ⟨_,rfl,?_⟩))
       go_ret2
       exact ⟨_,by first|rfl|(simp [errW_none,errW_some] <;> rfl)|(simp [*,errW_none,errW_some] <;> rfl),by first|exact Kd.R_nil _ _ _ _ _|exact Kd.N_nil _ _ _ _ _|exact Kd.V_nil _ _ _ _ _|exact Kd.Q_nil _ _ _ _ _|exact Kd.S_nil _ _ _ _ _,zhb⟩
     ·rw [if_neg c8] at H
      exact absurd H (by simp)
    ·rw [if_neg c7] at H
     have c7b0:decide (x6_1 < (t124.length:Int))=false:=decide_eq_false c7
     clear c7
     replace H:=Option.bind_eq_some_iff.mp H
     obtain ⟨t136,A150,H⟩:=H
     (try dsimp only at H)
     have A15:=Aside0.mk A150
     clear A150
     by_cases c16:t136=true
     ·subst c16
      have H1:(some (x5_1,true))=some (r1,r2):=by rw [if_pos rfl] at H;exact H
      clear H
      have H:=H1
      clear H1
      simp only [Option.some.injEq,Prod.mk.injEq] at H
      obtain ⟨rfl,rfl⟩:=H
      obtain ⟨Ao17,co17,eo17⟩:=Kd.R_slice HO_4.out
      subst eo17
      obtain ⟨Ao18,co18,eo18⟩:=Kd.R_slice HO_5.out
      subst eo18
      go_wp2_with (first|((with_reducible refine gate_callee (f:=33) rfl ?_);refine goesL_ (some 36) rfl rfl Tryd.func33 (by kernel_rfl) rfl #[.slice Ao18 x5_1.length co18] rfl zar ?_;(with_reducible refine (spec_RowOk.calls k1 _ _ x5_1 true _ ?side1 ?side2 A15.out).mono ?_);(case side1=>repeat (first|exact (Kd.R_reads' HO_5.out).2.2|(with_reducible refine Kd.C_alloc ?_ _)|(with_reducible refine Kd.C_drewN ?_ _)|(with_reducible refine Kd.C_drew ?_)));(case side2=>exact (Kd.R_reads' HO_5.out).2.1);rintro e w' ⟨rfl,⟨nd,rfl⟩⟩;refine ⟨_,rfl,?_⟩))
      go_ret2
      exact ⟨_,by first|rfl|(simp [errW_none,errW_some] <;> rfl)|(simp [*,errW_none,errW_some] <;> rfl),by (with_reducible repeat (first|apply Kd.R_alloc|apply Kd.R_drewN|apply Kd.R_drew));exact HO_5.out,zhb⟩
     ·replace c16:=Bool.eq_false_iff.mpr c16
      subst c16
      have H1:(some (([]:List Int),false))=some (r1,r2):=by rw [if_neg (show ¬ (false=true) by decide)] at H;exact H
      clear H
      have H:=H1
      clear H1
      simp only [Option.some.injEq,Prod.mk.injEq] at H
      obtain ⟨rfl,rfl⟩:=H
      obtain ⟨Ao19,co19,eo19⟩:=Kd.R_slice HO_4.out
      subst eo19
      obtain ⟨Ao20,co20,eo20⟩:=Kd.R_slice HO_5.out
      subst eo20
      go_wp2_with (first|((with_reducible refine gate_callee (f:=33) rfl ?_);refine goesL_ (some 36) rfl rfl Tryd.func33 (by kernel_rfl) rfl #[.slice Ao20 x5_1.length co20] rfl zar ?_;(with_reducible refine (spec_RowOk.calls k1 _ _ x5_1 false _ ?side1 ?side2 A15.out).mono ?_);(case side1=>repeat (first|exact (Kd.R_reads' HO_5.out).2.2|(with_reducible refine Kd.C_alloc ?_ _)|(with_reducible refine Kd.C_drewN ?_ _)|(with_reducible refine Kd.C_drew ?_)));(case side2=>exact (Kd.R_reads' HO_5.out).2.1);rintro e w' ⟨rfl,⟨nd,rfl⟩⟩;refine ⟨_,rfl,?_⟩))
      go_ret2
      exact ⟨_,by first|rfl|(simp [errW_none,errW_some] <;> rfl)|(simp [*,errW_none,errW_some] <;> rfl),by first|exact Kd.R_nil _ _ _ _ _|exact Kd.N_nil _ _ _ _ _|exact Kd.V_nil _ _ _ _ _|exact Kd.Q_nil _ _ _ _ _|exact Kd.S_nil _ _ _ _ _,zhb⟩

/-! ### spec_l12Find: function 67 -/
def spec_l12Find.l0:Nat→ByteArray→Int→Int→Option (Int)
 | 0,_,_,_=>none
 | k + 1,x0,x1,x5=>if x5 < (x0.size:Int) then (if 0≤x5 then (if (bt x0 x5)=x1 then (some x5) else (spec_l12Find.l0 k x0 x1 (wrap64 (x5 + 1)))) else (none)) else (some (-1))
def spec_l12Find.f (k:Nat) (a0:ByteArray) (a1:Int):Option (Int):=spec_l12Find.l0 k a0 a1 0
theorem spec_l12Find.mono_l : ∀ k,(∀ y0 y1 y2,LeO (spec_l12Find.l0 k y0 y1 y2) (spec_l12Find.l0 (k + 1) y0 y1 y2))
 | 0=>fun _ _ _ r h=>by simp [spec_l12Find.l0] at h
 | k + 1=>by
  have ih0:=spec_l12Find.mono_l k
  ·intro y0 y1 y2
   unfold spec_l12Find.l0
   repeat' first
   | (with_reducible exact ih0 _ _ _)
   | (with_reducible exact LeO.refl _)
   | (with_reducible exact LeO.none _)
   | (with_reducible refine LeO.ite ?_ ?_)
   | (with_reducible refine LeO.bind ?_ (fun _=>?_))
   | exact LeO.none _
   | refine LeO.ite ?_ ?_
   | refine LeO.bind ?_ (fun _=>?_)
theorem spec_l12Find.mono : ∀ a0 a1 k,LeO (spec_l12Find.f k a0 a1) (spec_l12Find.f (k + 1) a0 a1):=by
 intro a0 a1 k
 have ih0:=spec_l12Find.mono_l k
 unfold spec_l12Find.f
 repeat' first
   | (with_reducible exact ih0 _ _ _)
   | (with_reducible exact LeO.refl _)
   | (with_reducible exact LeO.none _)
   | (with_reducible refine LeO.ite ?_ ?_)
   | (with_reducible refine LeO.bind ?_ (fun _=>?_))
   | exact LeO.none _
   | refine LeO.ite ?_ ?_
   | refine LeO.bind ?_ (fun _=>?_)
set_option maxHeartbeats 8000000 in
set_option maxRecDepth 100000 in
theorem spec_l12Find.calls (k:Nat) (a0:ByteArray) (a1:Int) (r:Int) (w:World) (h:spec_l12Find.f k a0 a1=some r) :
  Calls Tryd.prog 67 #[.string a0,.int .u8 a1] w fun e w'=>e=.returned (.int .i64 r)∧Drawn0 w w':=by
 have H:(spec_l12Find.l0 k a0 a1 0)=some r:=h
 clear h
 have H':=Aside0.mk H
 clear H
 go_enter Tryd.func67,Tryd.ntmps67
 go_wp2
 go_loopg [5] k (fun kq v5 w'=>∃ (x5_1:Int),v5=.int .i64 x5_1∧Aside0 (spec_l12Find.l0 kq a0 a1 x5_1=some r)∧Aside0 (kq≤k)∧Drawn0 w w')
 case atStart=>exact ⟨(0),(by first|rfl|(simp;done)|(simp [*];done)),H',⟨Nat.le_refl _⟩,zdw⟩
 case round =>
  clear H'
  try clear p2
  obtain ⟨x5_1,rfl,HA,HK1,⟨m1,rfl⟩⟩:=hrel
  cases gk with
  | zero=>exact absurd HA.out (by simp [spec_l12Find.l0])
  | succ k1 =>
   have H:=HA.out
   clear HA
   simp only [spec_l12Find.l0] at H
   by_cases c3:x5_1 < (a0.size:Int)
   ·rw [if_pos c3] at H
    have c3b0:decide (x5_1 < (a0.size:Int))=true:=decide_eq_true c3
    clear c3
    by_cases c4:0≤x5_1
    ·rw [if_pos c4] at H
     have c4b0:decide (0≤x5_1)=true:=decide_eq_true c4
     clear c4
     by_cases c6:(bt a0 x5_1)=a1
     ·rw [if_pos c6] at H
      have c6b0:((bt a0 x5_1) == a1)=true:=beq_iff_eq.mpr c6
      have c6b1:((bt a0 x5_1) != a1)=false:=bne_eq_false_iff_eq.mpr c6
      clear c6
      obtain rfl:=Option.some.inj H
      have p5:0≤(x5_1:Int):=zod
      have q5:x5_1 < (a0.size:Int):=zod
      have hx5:=bt_at a0 x5_1
      replace p5:=eq_true p5
      replace q5:=eq_true q5
      go_wp2
      go_ret
      exact ⟨by first|rfl|(simp;done)|(simp [*];done),zdw⟩
     ·rw [if_neg c6] at H
      have c6b0:((bt a0 x5_1) == a1)=false:=beq_eq_false_iff_ne.mpr c6
      have c6b1:((bt a0 x5_1) != a1)=true:=bne_iff_ne.mpr c6
      have H':=Aside0.mk H
      clear H
      have p5:0≤(x5_1:Int):=zod
      have q5:x5_1 < (a0.size:Int):=zod
      have hx5:=bt_at a0 x5_1
      replace p5:=eq_true p5
      replace q5:=eq_true q5
      go_wp2
      go_roundg k1
      case measure=>have:=HK1.out;omega
      case rel=>exact ⟨(wrap64 (x5_1 + 1)),(by first|rfl|(simp;done)|(simp [*];done)),H',⟨by have:=HK1.out;omega⟩,zdw⟩
    ·rw [if_neg c4] at H
     exact absurd H (by simp)
   ·rw [if_neg c3] at H
    have c3b0:decide (x5_1 < (a0.size:Int))=false:=decide_eq_false c3
    clear c3
    obtain rfl:=Option.some.inj H
    go_wp2
    go_ret
    exact ⟨by first|rfl|(simp;done)|(simp [*];done),zdw⟩

/-! ### spec_l2One: function 37 -/
def spec_l2One.f (k:Nat) (a0:ByteArray):Option (List Int × Int × Bool):=(spec_l12Find.f k a0 42).bind fun t138=>(if t138 < 0 then (some (([]:List Int),0,false)) else (if 0≤t138 then (if t138≤(a0.size:Int) then ((spec_RowRead.f k (a0.extract 0 (t138:Int).toNat)).bind fun bt139=>(if 0≤(wrap64 (t138 + 1)) then (if (wrap64 (t138 + 1))≤(a0.size:Int) then ((spec_l12Num.f k (a0.extract ((wrap64 (t138 + 1)):Int).toNat a0.size)).bind fun bt143=>(if bt139.2=true then (some (bt139.1,bt143.1,bt143.2)) else (some (bt139.1,bt143.1,false)))) else (none)) else (none))) else (none)) else (none)))
theorem spec_l2One.mono : ∀ a0 k,LeO (spec_l2One.f k a0) (spec_l2One.f (k + 1) a0):=by
 intro a0 k
 unfold spec_l2One.f
 repeat' first
   | (with_reducible exact spec_RowRead.mono _ _)
   | (with_reducible exact spec_l12Find.mono _ _ _)
   | (with_reducible exact spec_l12Num.mono _ _)
   | (with_reducible exact LeO.refl _)
   | (with_reducible exact LeO.none _)
   | (with_reducible refine LeO.ite ?_ ?_)
   | (with_reducible refine LeO.bind ?_ (fun _=>?_))
   | exact LeO.none _
   | refine LeO.ite ?_ ?_
   | refine LeO.bind ?_ (fun _=>?_)
set_option maxHeartbeats 8000000 in
set_option maxRecDepth 100000 in
theorem spec_l2One.calls (k:Nat) (a0:ByteArray) (r1:List Int) (r2:Int) (r3:Bool) (w:World) (h:spec_l2One.f k a0=some (r1,r2,r3)) :
  Calls Tryd.prog 37 #[.string a0] w fun e w'=>∃ v0_:Value,e=.returned (.tuple #[.agg #[v0_,.int .i64 r2],.bool r3])∧Kd.R (Kd.int .i64) 3 w' w.heap.size (fun _=>True) v0_ r1∧Below w.heap.size w w':=by
 have hu53:=Tryd.underlying53
 have HB:=Aside0.mk (Below.refl w.heap.size w)
 have H:((spec_l12Find.f k a0 42).bind fun t138=>(if t138 < 0 then (some (([]:List Int),0,false)) else (if 0≤t138 then (if t138≤(a0.size:Int) then ((spec_RowRead.f k (a0.extract 0 (t138:Int).toNat)).bind fun bt139=>(if 0≤(wrap64 (t138 + 1)) then (if (wrap64 (t138 + 1))≤(a0.size:Int) then ((spec_l12Num.f k (a0.extract ((wrap64 (t138 + 1)):Int).toNat a0.size)).bind fun bt143=>(if bt139.2=true then (some (bt139.1,bt143.1,bt143.2)) else (some (bt139.1,bt143.1,false)))) else (none)) else (none))) else (none)) else (none))))=some (r1,r2,r3):=h
 clear h
 replace H:=Option.bind_eq_some_iff.mp H
 obtain ⟨t138,A20,H⟩:=H
 (try dsimp only at H)
 have A2:=Aside0.mk A20
 clear A20
 by_cases c3:t138 < 0
 ·rw [if_pos c3] at H
  have c3b0:decide (t138 < 0)=true:=decide_eq_true c3
  clear c3
  simp only [Option.some.injEq,Prod.mk.injEq] at H
  obtain ⟨rfl,rfl,rfl⟩:=H
  go_enter Tryd.func37,Tryd.ntmps37
  go_wp2_with (first|((with_reducible refine gate_dst (N:=2) rfl ?_);refine box_event ?hg (N:=2) ?hd (cs:=#[.slice none 0 0,.int .i64 0]) (t:=53) ?hr ?_;(case hd=>rfl);(case hg=>rfl);(case hr=>first|(go_simp;done)|(go_simp;rfl));intro gb137 hg w4 hbox hb;have n0_:=Aside0.mk (below_step zhb hb);have n1_:=Aside0.mk (hbox);have n2_:=Aside0.mk ((by rw [hg];exact (below_size zhb):w.heap.size≤gb137));have n3_:=Aside0.mk ((by rw [hg];exact (below_size zhb):w.heap.size≤gb137));clear HB;have HB:=n0_;have BK137:=n1_;have GW137:=n2_;have GE137:=n3_;clear n0_ n1_ n2_ n3_;clear hb hbox hg)|((with_reducible refine gate_callee (f:=67) rfl ?_);refine goesL_ (some 10) rfl rfl Tryd.func67 (by kernel_rfl) rfl #[.string a0,.int .u8 42] rfl zar ?_;(with_reducible refine (spec_l12Find.calls k a0 42 t138 _ A2.out).mono ?_);rintro e w' ⟨rfl,⟨nd,rfl⟩⟩;refine ⟨_,rfl,?_⟩;(try (rw [drewN_self w4];generalize hq_:World.drewN w4 _=w4;have n0_:Aside0 (w4.heap[gb137]?=some (.cells #[.slice none 0 0,.int .i64 0] 53 (0,0))):=⟨by rw [← hq_];exact (by (with_reducible repeat (first|refine blk_drewN ?_ _|refine blk_drew ?_|refine blk_alloc ?_ _));exact BK137.out)⟩;have n1_:Aside0 (Below w.heap.size w w4):=⟨by rw [← hq_];exact (by repeat (first|(with_reducible first|exact HB.out|apply below_alloc|apply pw_below_drewN|apply below_drew1|refine below_set ?_ GE137.out)|exact HB.out))⟩;clear BK137 HB hq_;have BK137:=n0_;have HB:=n1_;clear n0_ n1_));have hcz5_0:w4.cell? ⟨gb137,0,none⟩=some (.slice none 0 0):=(blk_cell BK137.out 0).trans rfl;have hcz5_1:w4.cell? ⟨gb137,1,none⟩=some (.int .i64 0):=(blk_cell BK137.out 1).trans rfl;have hfz5_0:=blk_frozen BK137.out 0;have hfz5_1:=blk_frozen BK137.out 1))
  refine bodyPost_ret (results_ct rfl _ _ gb137 53 #[.slice none 0 0,.int .i64 0] (0,0) _ rfl (by (with_reducible repeat (first|refine blk_drewN ?_ _|refine blk_drew ?_|refine blk_alloc ?_ _));refine blk_put (cs:=#[.slice none 0 0,.int .i64 0]) ?_ 1 _ rfl;(with_reducible repeat (first|refine blk_drewN ?_ _|refine blk_drew ?_|refine blk_alloc ?_ _));refine blk_put (cs:=#[.slice none 0 0,.int .i64 0]) ?_ 0 _ rfl;(with_reducible repeat (first|refine blk_drewN ?_ _|refine blk_drew ?_|refine blk_alloc ?_ _));exact BK137.out) Tryd.underlying53 rfl (by kernel_rfl)) rfl ?_
  exact ⟨_,by first|rfl|(simp [errW_none,errW_some] <;> rfl)|(simp [*,errW_none,errW_some] <;> rfl),by first|exact Kd.R_nil _ _ _ _ _|exact Kd.N_nil _ _ _ _ _|exact Kd.V_nil _ _ _ _ _|exact Kd.Q_nil _ _ _ _ _|exact Kd.S_nil _ _ _ _ _,by repeat (first|(with_reducible first|exact HB.out|apply below_alloc|apply pw_below_drewN|apply below_drew1|refine below_set ?_ GE137.out)|exact HB.out)⟩
 ·rw [if_neg c3] at H
  have c3b0:decide (t138 < 0)=false:=decide_eq_false c3
  clear c3
  by_cases c6:0≤t138
  ·rw [if_pos c6] at H
   have c6b0:=eq_true c6
   have c6b1:decide (0≤t138)=true:=decide_eq_true c6
   clear c6
   by_cases c7:t138≤(a0.size:Int)
   ·rw [if_pos c7] at H
    have c7b0:=eq_true c7
    have c7b1:decide (t138≤(a0.size:Int))=true:=decide_eq_true c7
    clear c7
    replace H:=Option.bind_eq_some_iff.mp H
    obtain ⟨⟨t139,t140⟩,A80,H⟩:=H
    (try dsimp only at H)
    have A8:=Aside0.mk A80
    clear A80
    obtain ⟨ji9,hji9⟩ : ∃ j_:Int,(wrap64 (t138 + 1))=j_:=⟨_,rfl⟩
    replace H:(if 0≤(ji9) then (if (ji9)≤(a0.size:Int) then ((spec_l12Num.f k (a0.extract ((ji9):Int).toNat a0.size)).bind fun bt143=>(if t140=true then (some (t139,bt143.1,bt143.2)) else (some (t139,bt143.1,false)))) else (none)) else (none))=some (r1,r2,r3):=by first|(rw [hji9] at H;exact H)|(simp only [hji9] at H ⊢;exact H)
    (try rw [hji9] at A2)
    (try rw [hji9] at A8)
    have hji9w:(IntKind.i64.wrap (t138 + 1))=ji9:=(i64_w _).trans hji9
    by_cases c10:0≤(ji9)
    ·rw [if_pos c10] at H
     have c10b0:=eq_true c10
     have c10b1:decide (0≤(ji9))=true:=decide_eq_true c10
     clear c10
     by_cases c11:(ji9)≤(a0.size:Int)
     ·rw [if_pos c11] at H
      have c11b0:=eq_true c11
      have c11b1:decide ((ji9)≤(a0.size:Int))=true:=decide_eq_true c11
      clear c11
      replace H:=Option.bind_eq_some_iff.mp H
      obtain ⟨⟨t143,t144⟩,A120,H⟩:=H
      (try dsimp only at H)
      have A12:=Aside0.mk A120
      clear A120
      by_cases c13:t140=true
      ·subst c13
       have H1:(some (t139,t143,t144))=some (r1,r2,r3):=by rw [if_pos rfl] at H;exact H
       clear H
       have H:=H1
       clear H1
       simp only [Option.some.injEq,Prod.mk.injEq] at H
       obtain ⟨rfl,rfl,rfl⟩:=H
       go_enter Tryd.func37,Tryd.ntmps37
       go_wp2_with (first|((with_reducible refine gate_dst (N:=2) rfl ?_);refine box_event ?hg (N:=2) ?hd (cs:=#[.slice none 0 0,.int .i64 0]) (t:=53) ?hr ?_;(case hd=>rfl);(case hg=>rfl);(case hr=>first|(go_simp;done)|(go_simp;rfl));intro gb137 hg w14 hbox hb;have n0_:=Aside0.mk (below_step zhb hb);have n1_:=Aside0.mk (hbox);have n2_:=Aside0.mk ((by rw [hg];exact (below_size zhb):w.heap.size≤gb137));have n3_:=Aside0.mk ((by rw [hg];exact (below_size zhb):w.heap.size≤gb137));clear HB;have HB:=n0_;have BK137:=n1_;have GW137:=n2_;have GE137:=n3_;clear n0_ n1_ n2_ n3_;clear hb hbox hg)|((with_reducible refine gate_callee (f:=67) rfl ?_);refine goesL_ (some 10) rfl rfl Tryd.func67 (by kernel_rfl) rfl #[.string a0,.int .u8 42] rfl zar ?_;(with_reducible refine (spec_l12Find.calls k a0 42 t138 _ A2.out).mono ?_);rintro e w' ⟨rfl,⟨nd,rfl⟩⟩;refine ⟨_,rfl,?_⟩;(try (rw [drewN_self w14];generalize hq_:World.drewN w14 _=w14;have n0_:Aside0 (w14.heap[gb137]?=some (.cells #[.slice none 0 0,.int .i64 0] 53 (0,0))):=⟨by rw [← hq_];exact (by (with_reducible repeat (first|refine blk_drewN ?_ _|refine blk_drew ?_|refine blk_alloc ?_ _));exact BK137.out)⟩;have n1_:Aside0 (Below w.heap.size w w14):=⟨by rw [← hq_];exact (by repeat (first|(with_reducible first|exact HB.out|apply below_alloc|apply pw_below_drewN|apply below_drew1|refine below_set ?_ GE137.out)|exact HB.out))⟩;clear BK137 HB hq_;have BK137:=n0_;have HB:=n1_;clear n0_ n1_)))|((with_reducible refine gate_callee (f:=27) rfl ?_);refine goesL_ (some 18) rfl rfl Tryd.func27 (by kernel_rfl) rfl #[.string (a0.extract 0 (t138:Int).toNat)] rfl zar ?_;(with_reducible refine (spec_RowRead.calls k (a0.extract 0 (t138:Int).toNat) t139 true _ A8.out).mono ?_);rintro e w15 ⟨v141,rfl,ho0,hb⟩;refine ⟨_,rfl,?_⟩;have n0_:=Aside0.mk (Kd.R_lower ho0 (below_size (by repeat (first|(with_reducible first|exact HB.out|apply below_alloc|apply pw_below_drewN|apply below_drew1|refine below_set ?_ GE137.out)|exact HB.out))));have n1_:=Aside0.mk (blk_below (g:=gb137) (o:=.cells #[.slice none 0 0,.int .i64 0] 53 (0,0)) (by (with_reducible repeat (first|refine blk_drewN ?_ _|refine blk_drew ?_|refine blk_alloc ?_ _));exact BK137.out) hb);have n2_:=Aside0.mk (below_step (by repeat (first|(with_reducible first|exact HB.out|apply below_alloc|apply pw_below_drewN|apply below_drew1|refine below_set ?_ GE137.out)|exact HB.out)) hb);clear BK137;clear HB;have HO142:=n0_;have BK137:=n1_;have HB:=n2_;clear n0_ n1_ n2_;(try clear hb);(try clear hb2);(try clear hk);(try clear hi);(try clear ho0))|((with_reducible refine gate_callee (f:=57) rfl ?_);refine goesL_ (some 26) rfl rfl Tryd.func57 (by kernel_rfl) rfl #[.string (a0.extract ((ji9):Int).toNat a0.size)] rfl (by (try simp only [List.map_toArray,List.map_cons,List.map_nil]);first|done|(simp only [hji9];rfl)|rfl|(simp only [List.length_drop,List.length_take];rfl)) ?_;(with_reducible refine (spec_l12Num.calls k (a0.extract ((ji9):Int).toNat a0.size) t143 t144 _ A12.out).mono ?_);rintro e w' ⟨rfl,⟨nd,rfl⟩⟩;refine ⟨_,rfl,?_⟩;(try (rw [drewN_self w15];generalize hq_:World.drewN w15 _=w15;have n0_:Aside0 (Kd.R (Kd.int .i64) 3 w15 w.heap.size (fun _=>True) v141 t139):=⟨by rw [← hq_];exact (by (with_reducible repeat (first|apply Kd.R_alloc|apply Kd.R_drewN|apply Kd.R_drew));exact HO142.out)⟩;have n1_:Aside0 (w15.heap[gb137]?=some (.cells #[.slice none 0 0,.int .i64 0] 53 (0,0))):=⟨by rw [← hq_];exact (by (with_reducible repeat (first|refine blk_drewN ?_ _|refine blk_drew ?_|refine blk_alloc ?_ _));exact BK137.out)⟩;have n2_:Aside0 (Below w.heap.size w w15):=⟨by rw [← hq_];exact (by repeat (first|(with_reducible first|exact HB.out|apply below_alloc|apply pw_below_drewN|apply below_drew1|refine below_set ?_ GE137.out)|exact HB.out))⟩;clear HO142 BK137 HB hq_;have HO142:=n0_;have BK137:=n1_;have HB:=n2_;clear n0_ n1_ n2_));obtain ⟨Ao16,co16,eo16⟩:=Kd.R_slice HO142.out;subst eo16;have hcz17_0:w15.cell? ⟨gb137,0,none⟩=some (.slice none 0 0):=(blk_cell BK137.out 0).trans rfl;have hcz17_1:w15.cell? ⟨gb137,1,none⟩=some (.int .i64 0):=(blk_cell BK137.out 1).trans rfl;have hfz17_0:=blk_frozen BK137.out 0;have hfz17_1:=blk_frozen BK137.out 1))
       refine bodyPost_ret (results_ct rfl _ _ gb137 53 #[.slice Ao16 t139.length co16,.int .i64 t143] (0,0) _ rfl (by (with_reducible repeat (first|refine blk_drewN ?_ _|refine blk_drew ?_|refine blk_alloc ?_ _));refine blk_put (cs:=#[.slice Ao16 t139.length co16,.int .i64 0]) ?_ 1 _ rfl;(with_reducible repeat (first|refine blk_drewN ?_ _|refine blk_drew ?_|refine blk_alloc ?_ _));refine blk_put (cs:=#[.slice none 0 0,.int .i64 0]) ?_ 0 _ rfl;(with_reducible repeat (first|refine blk_drewN ?_ _|refine blk_drew ?_|refine blk_alloc ?_ _));exact BK137.out) Tryd.underlying53 rfl (by kernel_rfl)) rfl ?_
       exact ⟨_,by first|rfl|(simp [errW_none,errW_some] <;> rfl)|(simp only [← hji9];first|rfl|(simp [errW_none,errW_some] <;> rfl))|(simp [*,errW_none,errW_some] <;> rfl),by (with_reducible repeat (first|apply Kd.R_alloc|apply Kd.R_drewN|apply Kd.R_drew));exact Kd.R_mono (Kd.R_far (p:=⟨gb137,1,none⟩) (Kd.R_far (p:=⟨gb137,0,none⟩) (Kd.R_types HO142.out BK137.out (by decide)) (fun _ hk=>hk.2) (.slice Ao16 t139.length co16)) (fun _ hk=>hk.2) (.int .i64 t143)) (fun _ hk=>trivial),by repeat (first|(with_reducible first|exact HB.out|apply below_alloc|apply pw_below_drewN|apply below_drew1|refine below_set ?_ GE137.out)|exact HB.out)⟩
      ·replace c13:=Bool.eq_false_iff.mpr c13
       subst c13
       have H1:(some (t139,t143,false))=some (r1,r2,r3):=by rw [if_neg (show ¬ (false=true) by decide)] at H;exact H
       clear H
       have H:=H1
       clear H1
       simp only [Option.some.injEq,Prod.mk.injEq] at H
       obtain ⟨rfl,rfl,rfl⟩:=H
       go_enter Tryd.func37,Tryd.ntmps37
       go_wp2_with (first|((with_reducible refine gate_dst (N:=2) rfl ?_);refine box_event ?hg (N:=2) ?hd (cs:=#[.slice none 0 0,.int .i64 0]) (t:=53) ?hr ?_;(case hd=>rfl);(case hg=>rfl);(case hr=>first|(go_simp;done)|(go_simp;rfl));intro gb137 hg w18 hbox hb;have n0_:=Aside0.mk (below_step zhb hb);have n1_:=Aside0.mk (hbox);have n2_:=Aside0.mk ((by rw [hg];exact (below_size zhb):w.heap.size≤gb137));have n3_:=Aside0.mk ((by rw [hg];exact (below_size zhb):w.heap.size≤gb137));clear HB;have HB:=n0_;have BK137:=n1_;have GW137:=n2_;have GE137:=n3_;clear n0_ n1_ n2_ n3_;clear hb hbox hg)|((with_reducible refine gate_callee (f:=67) rfl ?_);refine goesL_ (some 10) rfl rfl Tryd.func67 (by kernel_rfl) rfl #[.string a0,.int .u8 42] rfl zar ?_;(with_reducible refine (spec_l12Find.calls k a0 42 t138 _ A2.out).mono ?_);rintro e w' ⟨rfl,⟨nd,rfl⟩⟩;refine ⟨_,rfl,?_⟩;(try (rw [drewN_self w18];generalize hq_:World.drewN w18 _=w18;have n0_:Aside0 (w18.heap[gb137]?=some (.cells #[.slice none 0 0,.int .i64 0] 53 (0,0))):=⟨by rw [← hq_];exact (by (with_reducible repeat (first|refine blk_drewN ?_ _|refine blk_drew ?_|refine blk_alloc ?_ _));exact BK137.out)⟩;have n1_:Aside0 (Below w.heap.size w w18):=⟨by rw [← hq_];exact (by repeat (first|(with_reducible first|exact HB.out|apply below_alloc|apply pw_below_drewN|apply below_drew1|refine below_set ?_ GE137.out)|exact HB.out))⟩;clear BK137 HB hq_;have BK137:=n0_;have HB:=n1_;clear n0_ n1_)))|((with_reducible refine gate_callee (f:=27) rfl ?_);refine goesL_ (some 18) rfl rfl Tryd.func27 (by kernel_rfl) rfl #[.string (a0.extract 0 (t138:Int).toNat)] rfl zar ?_;(with_reducible refine (spec_RowRead.calls k (a0.extract 0 (t138:Int).toNat) t139 false _ A8.out).mono ?_);rintro e w19 ⟨v141,rfl,ho0,hb⟩;refine ⟨_,rfl,?_⟩;have n0_:=Aside0.mk (Kd.R_lower ho0 (below_size (by repeat (first|(with_reducible first|exact HB.out|apply below_alloc|apply pw_below_drewN|apply below_drew1|refine below_set ?_ GE137.out)|exact HB.out))));have n1_:=Aside0.mk (blk_below (g:=gb137) (o:=.cells #[.slice none 0 0,.int .i64 0] 53 (0,0)) (by (with_reducible repeat (first|refine blk_drewN ?_ _|refine blk_drew ?_|refine blk_alloc ?_ _));exact BK137.out) hb);have n2_:=Aside0.mk (below_step (by repeat (first|(with_reducible first|exact HB.out|apply below_alloc|apply pw_below_drewN|apply below_drew1|refine below_set ?_ GE137.out)|exact HB.out)) hb);clear BK137;clear HB;have HO142:=n0_;have BK137:=n1_;have HB:=n2_;clear n0_ n1_ n2_;(try clear hb);(try clear hb2);(try clear hk);(try clear hi);(try clear ho0))|((with_reducible refine gate_callee (f:=57) rfl ?_);refine goesL_ (some 26) rfl rfl Tryd.func57 (by kernel_rfl) rfl #[.string (a0.extract ((ji9):Int).toNat a0.size)] rfl (by (try simp only [List.map_toArray,List.map_cons,List.map_nil]);first|done|(simp only [hji9];rfl)|rfl|(simp only [List.length_drop,List.length_take];rfl)) ?_;(with_reducible refine (spec_l12Num.calls k (a0.extract ((ji9):Int).toNat a0.size) t143 t144 _ A12.out).mono ?_);rintro e w' ⟨rfl,⟨nd,rfl⟩⟩;refine ⟨_,rfl,?_⟩;(try (rw [drewN_self w19];generalize hq_:World.drewN w19 _=w19;have n0_:Aside0 (Kd.R (Kd.int .i64) 3 w19 w.heap.size (fun _=>True) v141 t139):=⟨by rw [← hq_];exact (by (with_reducible repeat (first|apply Kd.R_alloc|apply Kd.R_drewN|apply Kd.R_drew));exact HO142.out)⟩;have n1_:Aside0 (w19.heap[gb137]?=some (.cells #[.slice none 0 0,.int .i64 0] 53 (0,0))):=⟨by rw [← hq_];exact (by (with_reducible repeat (first|refine blk_drewN ?_ _|refine blk_drew ?_|refine blk_alloc ?_ _));exact BK137.out)⟩;have n2_:Aside0 (Below w.heap.size w w19):=⟨by rw [← hq_];exact (by repeat (first|(with_reducible first|exact HB.out|apply below_alloc|apply pw_below_drewN|apply below_drew1|refine below_set ?_ GE137.out)|exact HB.out))⟩;clear HO142 BK137 HB hq_;have HO142:=n0_;have BK137:=n1_;have HB:=n2_;clear n0_ n1_ n2_));obtain ⟨Ao20,co20,eo20⟩:=Kd.R_slice HO142.out;subst eo20;have hcz21_0:w19.cell? ⟨gb137,0,none⟩=some (.slice none 0 0):=(blk_cell BK137.out 0).trans rfl;have hcz21_1:w19.cell? ⟨gb137,1,none⟩=some (.int .i64 0):=(blk_cell BK137.out 1).trans rfl;have hfz21_0:=blk_frozen BK137.out 0;have hfz21_1:=blk_frozen BK137.out 1))
       refine bodyPost_ret (results_ct rfl _ _ gb137 53 #[.slice Ao20 t139.length co20,.int .i64 t143] (0,0) _ rfl (by (with_reducible repeat (first|refine blk_drewN ?_ _|refine blk_drew ?_|refine blk_alloc ?_ _));refine blk_put (cs:=#[.slice Ao20 t139.length co20,.int .i64 0]) ?_ 1 _ rfl;(with_reducible repeat (first|refine blk_drewN ?_ _|refine blk_drew ?_|refine blk_alloc ?_ _));refine blk_put (cs:=#[.slice none 0 0,.int .i64 0]) ?_ 0 _ rfl;(with_reducible repeat (first|refine blk_drewN ?_ _|refine blk_drew ?_|refine blk_alloc ?_ _));exact BK137.out) Tryd.underlying53 rfl (by kernel_rfl)) rfl ?_
       exact ⟨_,by first|rfl|(simp [errW_none,errW_some] <;> rfl)|(simp only [← hji9];first|rfl|(simp [errW_none,errW_some] <;> rfl))|(simp [*,errW_none,errW_some] <;> rfl),by (with_reducible repeat (first|apply Kd.R_alloc|apply Kd.R_drewN|apply Kd.R_drew));exact Kd.R_mono (Kd.R_far (p:=⟨gb137,1,none⟩) (Kd.R_far (p:=⟨gb137,0,none⟩) (Kd.R_types HO142.out BK137.out (by decide)) (fun _ hk=>hk.2) (.slice Ao20 t139.length co20)) (fun _ hk=>hk.2) (.int .i64 t143)) (fun _ hk=>trivial),by repeat (first|(with_reducible first|exact HB.out|apply below_alloc|apply pw_below_drewN|apply below_drew1|refine below_set ?_ GE137.out)|exact HB.out)⟩
     ·rw [if_neg c11] at H
      exact absurd H (by simp)
    ·rw [if_neg c10] at H
     exact absurd H (by simp)
   ·rw [if_neg c7] at H
    exact absurd H (by simp)
  ·rw [if_neg c6] at H
   exact absurd H (by simp)

/-! ### spec_ZRead: function 9 -/
def spec_ZRead.l0:Nat→List (S53)→List ByteArray→Int→Option ((List (S53)) × Bool)
 | 0,_,_,_=>none
 | k + 1,x4,x5,x6=>if x6 < (x5.length:Int) then (if 0≤x6 then ((spec_l2One.f k (rdOf ByteArray.empty x5 x6)).bind fun bt152=>(if bt152.2.2=true then (if x4.length < 4398046511104 then (spec_ZRead.l0 k (x4 ++ [(⟨bt152.1,bt152.2.1⟩:S53)]) x5 (wrap64 (x6 + 1))) else (none)) else (some (([]:List (S53)),false)))) else (none)) else ((spec_ZOk.f k x4).bind fun t161=>(if t161=true then (some (x4,true)) else (some (([]:List (S53)),false))))
def spec_ZRead.f (k:Nat) (a0:ByteArray):Option ((List (S53)) × Bool):=(some (([]:List (S53)):List (S53))).bind fun y145=>(if a0.toList=([]:List UInt8) then (some (y145,true)) else (if (a0.size:Int) > 9000 then (some (([]:List (S53)),false)) else ((spec_l12Cut.f k a0 32).bind fun t148=>(spec_ZRead.l0 k y145 t148 0))))
theorem spec_ZRead.mono_l : ∀ k,(∀ y0 y1 y2,LeO (spec_ZRead.l0 k y0 y1 y2) (spec_ZRead.l0 (k + 1) y0 y1 y2))
 | 0=>fun _ _ _ r h=>by simp [spec_ZRead.l0] at h
 | k + 1=>by
  have ih0:=spec_ZRead.mono_l k
  ·intro y0 y1 y2
   unfold spec_ZRead.l0
   repeat' first
   | (with_reducible exact ih0 _ _ _)
   | (with_reducible exact spec_ZOk.mono _ _)
   | (with_reducible exact spec_l12Cut.mono _ _ _)
   | (with_reducible exact spec_l2One.mono _ _)
   | (with_reducible exact LeO.refl _)
   | (with_reducible exact LeO.none _)
   | (with_reducible refine LeO.ite ?_ ?_)
   | (with_reducible refine LeO.bind ?_ (fun _=>?_))
   | exact LeO.none _
   | refine LeO.ite ?_ ?_
   | refine LeO.bind ?_ (fun _=>?_)
theorem spec_ZRead.mono : ∀ a0 k,LeO (spec_ZRead.f k a0) (spec_ZRead.f (k + 1) a0):=by
 intro a0 k
 have ih0:=spec_ZRead.mono_l k
 unfold spec_ZRead.f
 repeat' first
   | (with_reducible exact ih0 _ _ _)
   | (with_reducible exact spec_ZOk.mono _ _)
   | (with_reducible exact spec_l12Cut.mono _ _ _)
   | (with_reducible exact spec_l2One.mono _ _)
   | (with_reducible exact LeO.refl _)
   | (with_reducible exact LeO.none _)
   | (with_reducible refine LeO.ite ?_ ?_)
   | (with_reducible refine LeO.bind ?_ (fun _=>?_))
   | exact LeO.none _
   | refine LeO.ite ?_ ?_
   | refine LeO.bind ?_ (fun _=>?_)
set_option maxHeartbeats 8000000 in
set_option maxRecDepth 100000 in
theorem spec_ZRead.calls (k:Nat) (a0:ByteArray) (r1:List (S53)) (r2:Bool) (w:World) (h:spec_ZRead.f k a0=some (r1,r2)) :
  Calls Tryd.prog 9 #[.string a0] w fun e w'=>∃ v0_:Value,e=.returned (.tuple #[v0_,.bool r2])∧Kd.S k53 53 w' w.heap.size (fun _=>True) v0_ r1∧Below w.heap.size w w':=by
 have hu53:=Tryd.underlying53
 have HB:=Aside0.mk (Below.refl w.heap.size w)
 have H:((some (([]:List (S53)):List (S53))).bind fun y145=>(if a0.toList=([]:List UInt8) then (some (y145,true)) else (if (a0.size:Int) > 9000 then (some (([]:List (S53)),false)) else ((spec_l12Cut.f k a0 32).bind fun t148=>(spec_ZRead.l0 k y145 t148 0)))))=some (r1,r2):=h
 clear h
 obtain ⟨y145,hy145⟩ : ∃ y_:List (S53),y_=(([]:List (S53))):=⟨_,rfl⟩
 replace H:(if a0.toList=([]:List UInt8) then (some (y145,true)) else (if (a0.size:Int) > 9000 then (some (([]:List (S53)),false)) else ((spec_l12Cut.f k a0 32).bind fun t148=>(spec_ZRead.l0 k y145 t148 0))))=some (r1,r2):=by first|(rw [hy145];with_reducible exact H)|(have H2_:=(Option.bind_some _ _).symm.trans H;rw [hy145];with_reducible exact H2_)|(have H2_:=(Option.bind_some _ _).symm.trans H;with_reducible exact H2_)|with_reducible exact H|(rw [hy145];exact H)|exact H
 have Ny145:=Aside0.mk hy145
 clear hy145
 by_cases c2:a0.toList=([]:List UInt8)
 ·rw [if_pos c2] at H
  have c2b0:(a0.toList == ([]:List UInt8))=true:=beq_iff_eq.mpr c2
  have c2b1:(a0.toList != ([]:List UInt8))=false:=bne_eq_false_iff_eq.mpr c2
  clear c2
  simp only [Option.some.injEq,Prod.mk.injEq] at H
  obtain ⟨rfl,rfl⟩:=H
  go_enter Tryd.func9,Tryd.ntmps9
  go_wp2_with (first|((with_reducible refine gate_dst (N:=9) rfl ?_);refine Kd.S_lit k53 _ 53 ?hg (N:=9) ?hd (xs:=([]:List (S53))) (inner:=[]) (ok:=fun _=>True) (okp:=fun _=>True) ?hr ?hp (fun _ hk=>hk) trivial (Below.refl _ _) (Nat.le_refl _) (by simp) ?_;(case hd=>rfl);(case hg=>rfl);(case hr=>first|(go_simp;done)|(go_simp;rfl));(case hp=>exact (Reps.none _ _));intro v146 w3 ho4 hb hg_ hnew_;clear hg_ hnew_;(first|rw [← Ny145.out] at ho4|(simp only [Int.reduceToNat] at ho4;rw [← Ny145.out] at ho4));have n0_:=Aside0.mk (Kd.S_lower ho4 (below_size zhb));have n1_:=Aside0.mk (below_step zhb hb);clear HB;have HO147:=n0_;have HB:=n1_;clear n0_ n1_;clear hb ho4))
  go_ret2
  exact ⟨_,by first|rfl|(simp [errW_none,errW_some] <;> rfl)|(simp [*,errW_none,errW_some] <;> rfl),by (with_reducible repeat (first|apply Kd.S_alloc|apply Kd.S_drewN|apply Kd.S_drew));exact HO147.out,zhb⟩
 ·rw [if_neg c2] at H
  have c2b0:(a0.toList == ([]:List UInt8))=false:=beq_eq_false_iff_ne.mpr c2
  have c2b1:(a0.toList != ([]:List UInt8))=true:=bne_iff_ne.mpr c2
  by_cases c5:(a0.size:Int) > 9000
  ·rw [if_pos c5] at H
   have c5b0:decide (9000 < (a0.size:Int))=true:=decide_eq_true c5
   have c5b1:decide (9000 < a0.size)=true:=decide_eq_true (by omega)
   clear c5
   simp only [Option.some.injEq,Prod.mk.injEq] at H
   obtain ⟨rfl,rfl⟩:=H
   go_enter Tryd.func9,Tryd.ntmps9
   go_wp2_with (first|((with_reducible refine gate_dst (N:=9) rfl ?_);refine Kd.S_lit k53 _ 53 ?hg (N:=9) ?hd (xs:=([]:List (S53))) (inner:=[]) (ok:=fun _=>True) (okp:=fun _=>True) ?hr ?hp (fun _ hk=>hk) trivial (Below.refl _ _) (Nat.le_refl _) (by simp) ?_;(case hd=>rfl);(case hg=>rfl);(case hr=>first|(go_simp;done)|(go_simp;rfl));(case hp=>exact (Reps.none _ _));intro v146 w6 ho7 hb hg_ hnew_;clear hg_ hnew_;(first|rw [← Ny145.out] at ho7|(simp only [Int.reduceToNat] at ho7;rw [← Ny145.out] at ho7));have n0_:=Aside0.mk (Kd.S_lower ho7 (below_size zhb));have n1_:=Aside0.mk (below_step zhb hb);clear HB;have HO147:=n0_;have HB:=n1_;clear n0_ n1_;clear hb ho7))
   go_ret2
   exact ⟨_,by first|rfl|(simp [errW_none,errW_some] <;> rfl)|(simp [*,errW_none,errW_some] <;> rfl),by first|exact Kd.S_nil _ _ _ _ _|exact Kd.N_nil _ _ _ _ _|exact Kd.V_nil _ _ _ _ _|exact Kd.Q_nil _ _ _ _ _|exact Kd.R_nil _ _ _ _ _,zhb⟩
  ·rw [if_neg c5] at H
   have c5b0:decide (9000 < (a0.size:Int))=false:=decide_eq_false c5
   have c5b1:decide (9000 < a0.size)=false:=decide_eq_false (by omega)
   clear c5
   replace H:=Option.bind_eq_some_iff.mp H
   obtain ⟨t148,A80,H⟩:=H
   (try dsimp only at H)
   have A8:=Aside0.mk A80
   clear A80
   have H':=Aside0.mk H
   clear H
   go_enter Tryd.func9,Tryd.ntmps9
   go_wp2_with (first|((with_reducible refine gate_dst (N:=9) rfl ?_);refine Kd.S_lit k53 _ 53 ?hg (N:=9) ?hd (xs:=([]:List (S53))) (inner:=[]) (ok:=fun _=>True) (okp:=fun _=>True) ?hr ?hp (fun _ hk=>hk) trivial (Below.refl _ _) (Nat.le_refl _) (by simp) ?_;(case hd=>rfl);(case hg=>rfl);(case hr=>first|(go_simp;done)|(go_simp;rfl));(case hp=>exact (Reps.none _ _));intro v146 w9 ho10 hb hg_ hnew_;clear hg_ hnew_;(first|rw [← Ny145.out] at ho10|(simp only [Int.reduceToNat] at ho10;rw [← Ny145.out] at ho10));have n0_:=Aside0.mk (Kd.S_lower ho10 (below_size zhb));have n1_:=Aside0.mk (below_step zhb hb);clear HB;have HO147:=n0_;have HB:=n1_;clear n0_ n1_;clear hb ho10)|((with_reducible refine gate_callee (f:=36) rfl ?_);refine goesL_ (some 17) rfl rfl Tryd.func36 (by kernel_rfl) rfl #[.string a0,.int .u8 32] rfl zar ?_;(with_reducible refine (spec_l12Cut.calls k a0 32 t148 _ A8.out).mono ?_);rintro e w11 ⟨v149,rfl,ho0,hb⟩;refine ⟨_,rfl,?_⟩;have n0_:=Aside0.mk (Kd.S_below (by (with_reducible repeat (first|apply Kd.S_alloc|apply Kd.S_drewN|apply Kd.S_drew));exact HO147.out) hb);have n1_:=Aside0.mk (Kd.R_lower ho0 (below_size zhb));have n2_:=Aside0.mk (below_step zhb hb);clear HO147;clear HB;have HO147:=n0_;have HO150:=n1_;have HB:=n2_;clear n0_ n1_ n2_;(try clear hb);(try clear hb2);(try clear hk);(try clear hi);(try clear ho0)))
   go_loopg [4,6] k (fun kq v4 v6 w'=>∃ (x4_1:List (S53)) (x6_1:Int),v6=.int .i64 x6_1∧Aside0 (spec_ZRead.l0 kq x4_1 t148 x6_1=some (r1,r2))∧Aside0 (kq≤k)∧Aside0 (Kd.S k53 53 w' w.heap.size (fun _=>True) v4 x4_1)∧Aside0 (Kd.R Kd.string 9 w' w.heap.size (fun _=>True) v149 t148)∧Aside0 (Below w.heap.size w w'))
   case atStart=>exact ⟨(y145),(0),(by first|rfl|(simp;done)|(simp [*];done)),H',⟨Nat.le_refl _⟩,⟨by (with_reducible repeat (first|apply Kd.S_alloc|apply Kd.S_drewN|apply Kd.S_drew));exact HO147.out⟩,⟨by (with_reducible repeat (first|apply Kd.R_alloc|apply Kd.R_drewN|apply Kd.R_drew));exact HO150.out⟩,⟨zhb⟩⟩
   case round =>
    clear H'
    try clear c2
    try clear c2b0
    try clear c2b1
    try clear p2
    try clear c3
    try clear c5
    try clear c5b0
    try clear c5b1
    try clear c9
    obtain ⟨x4_1,x6_1,rfl,HA,HK1,HO_4,HO_5,HB⟩:=hrel
    cases gk with
    | zero=>exact absurd HA.out (by simp [spec_ZRead.l0])
    | succ k1 =>
     have H:=HA.out
     clear HA
     simp only [spec_ZRead.l0] at H
     by_cases c12:x6_1 < (t148.length:Int)
     ·rw [if_pos c12] at H
      have c12b0:decide (x6_1 < (t148.length:Int))=true:=decide_eq_true c12
      clear c12
      by_cases c13:0≤x6_1
      ·rw [if_pos c13] at H
       have c13b0:decide (0≤x6_1)=true:=decide_eq_true c13
       clear c13
       replace H:=Option.bind_eq_some_iff.mp H
       obtain ⟨⟨t152,t155,t156⟩,A140,H⟩:=H
       (try dsimp only at H)
       have A14:=Aside0.mk A140
       clear A140
       by_cases c15:t156=true
       ·subst c15
        have H1:(if x4_1.length < 4398046511104 then (spec_ZRead.l0 k1 (x4_1 ++ [(⟨t152,t155⟩:S53)]) t148 (wrap64 (x6_1 + 1))) else (none))=some (r1,r2):=by rw [if_pos rfl] at H;exact H
        clear H
        have H:=H1
        clear H1
        by_cases c16:x4_1.length < 4398046511104
        ·rw [if_pos c16] at H
         have LMc16:=Aside0.mk c16
         clear c16
         obtain ⟨y158,hy158⟩ : ∃ y_:List (S53),y_=(x4_1 ++ [(⟨t152,t155⟩:S53)]):=⟨_,rfl⟩
         replace H:(spec_ZRead.l0 k1 y158 t148 (wrap64 (x6_1 + 1)))=some (r1,r2):=by first|(rw [hy158];with_reducible exact H)|(have H2_:=(Option.bind_some _ _).symm.trans H;rw [hy158];with_reducible exact H2_)|(have H2_:=(Option.bind_some _ _).symm.trans H;with_reducible exact H2_)|with_reducible exact H|(rw [hy158];exact H)|exact H
         have Ny158:=Aside0.mk hy158
         clear hy158
         have H':=Aside0.mk H
         clear H
         obtain ⟨Ao17,co17,eo17⟩:=Kd.R_slice HO_5.out
         subst eo17
         have p151:0≤(x6_1:Int):=zod
         have q151:x6_1 < (t148.length:Int):=zod
         obtain ⟨ad151,e151,hx151_0⟩:=Kd.at_string (Kd.R_reads' HO_5.out).2.2 x6_1 p151 q151
         cases e151
         replace p151:=eq_true p151
         replace q151:=eq_true q151
         go_wp2_with (first|((with_reducible refine gate_callee (f:=37) rfl ?_);refine goesL_ (some 29) rfl rfl Tryd.func37 (by kernel_rfl) rfl #[.string (rdOf ByteArray.empty t148 x6_1)] rfl zar ?_;(with_reducible refine (spec_l2One.calls k1 (rdOf ByteArray.empty t148 x6_1) t152 t155 true _ A14.out).mono ?_);rintro e w18 ⟨v153,rfl,ho0,hb⟩;refine ⟨_,rfl,?_⟩;have n0_:=Aside0.mk (Kd.S_elder' (by (with_reducible repeat (first|apply Kd.S_alloc|apply Kd.S_drewN|apply Kd.S_drew));exact HO_4.out) (Kd.R_base ho0) hb);have n1_:=Aside0.mk (Kd.R_below (by (with_reducible repeat (first|apply Kd.R_alloc|apply Kd.R_drewN|apply Kd.R_drew));exact HO_5.out) hb);have n2_:=Aside0.mk (Kd.R_lower ho0 (below_size zhb));have n3_:=Aside0.mk (below_step zhb hb);clear HO_4;clear HO_5;clear HB;have HO_4:=n0_;have HO_5:=n1_;have HO154:=n2_;have HB:=n3_;clear n0_ n1_ n2_ n3_;(try clear hb);(try clear hb2);(try clear hk);(try clear hi);(try clear ho0))|((with_reducible refine gate_dst (N:=7) rfl ?_);refine box_event ?hg (N:=7) ?hd (cs:=#[.slice none 0 0,.int .i64 0]) (t:=53) ?hr ?_;(case hd=>rfl);(case hg=>rfl);(case hr=>first|(go_simp;done)|(go_simp;rfl));intro gb157 hg w19 hbox hb;have n0_:=Aside0.mk (Kd.S_below (Kd.S_elderB (by (with_reducible repeat (first|apply Kd.S_alloc|apply Kd.S_drewN|apply Kd.S_drew));exact HO_4.out) gb157 (Nat.le_of_eq hg.symm)) hb);have n1_:=Aside0.mk (Kd.R_below (by (with_reducible repeat (first|apply Kd.R_alloc|apply Kd.R_drewN|apply Kd.R_drew));exact HO_5.out) hb);have n2_:=Aside0.mk (Kd.R_below (by (with_reducible repeat (first|apply Kd.R_alloc|apply Kd.R_drewN|apply Kd.R_drew));exact HO154.out) hb);have n3_:=Aside0.mk (below_step zhb hb);have n4_:=Aside0.mk (hbox);have n5_:=Aside0.mk ((by rw [hg];exact (below_size zhb):w.heap.size≤gb157));have n6_:=Aside0.mk ((by rw [hg];exact (below_size zhb):w.heap.size≤gb157));clear HO_4;clear HO_5;clear HO154;clear HB;have HO_4:=n0_;have HO_5:=n1_;have HO154:=n2_;have HB:=n3_;have BK157:=n4_;have GW157:=n5_;have GE157:=n6_;clear n0_ n1_ n2_ n3_ n4_ n5_ n6_;clear hb hbox hg;obtain ⟨Ao20,co20,eo20⟩:=Kd.R_slice HO154.out;subst eo20;have hcz21_0:w19.cell? ⟨gb157,0,none⟩=some (.slice none 0 0):=(blk_cell BK157.out 0).trans rfl;have hcz21_1:w19.cell? ⟨gb157,1,none⟩=some (.int .i64 0):=(blk_cell BK157.out 1).trans rfl;have hfz21_0:=blk_frozen BK157.out 0;have hfz21_1:=blk_frozen BK157.out 1)|((with_reducible refine gate_store (t:=53) (p:=7) rfl ?_);refine store_event (t:=53) (p:=7) (v:=?vo_w22) (w1:=((w19.setCell ⟨gb157,0,none⟩ (.slice Ao20 t152.length co20)).setCell ⟨gb157,1,none⟩ (.int .i64 t155))) ?hg ?ho ?hn ?hr ?_;(case ho=>rfl);(case hg=>rfl);(case hn=>rfl);(case hr=>first|(go_simp;done)|(go_simp;rfl));intro w22 hw;have n0_:Aside0 (Kd.S k53 53 w22 w.heap.size (fun k_=>some k_≠(.slice Ao20 t152.length co20:Value).ownBlock∧k_≠gb157) u4 x4_1):=⟨(by rw [hw];exact (by (with_reducible repeat (first|apply Kd.S_alloc|apply Kd.S_drewN|apply Kd.S_drew));exact Kd.S_mono (Kd.S_far (p:=⟨gb157,1,none⟩) (Kd.S_far (p:=⟨gb157,0,none⟩) (Kd.S_mono HO_4.out (fun k_ hk=>(⟨hk,hk.2⟩:_∧k_≠gb157))) (fun _ hk=>hk.2) (.slice Ao20 t152.length co20)) (fun _ hk=>hk.2) (.int .i64 t155)) (fun _ hk=>⟨hk.1.1.2,hk.1.2⟩)))⟩;have n1_:Aside0 (Kd.R Kd.string 9 w22 w.heap.size (fun _=>True) (.slice (some ad151) t148.length co17) t148):=⟨(by rw [hw];exact (by (with_reducible repeat (first|apply Kd.R_alloc|apply Kd.R_drewN|apply Kd.R_drew));exact Kd.R_mono (Kd.R_far (p:=⟨gb157,1,none⟩) (Kd.R_far (p:=⟨gb157,0,none⟩) (Kd.R_types HO_5.out BK157.out (by decide)) (fun _ hk=>hk.2) (.slice Ao20 t152.length co20)) (fun _ hk=>hk.2) (.int .i64 t155)) (fun _ hk=>trivial)))⟩;have n2_:Aside0 (Kd.R (Kd.int .i64) 3 w22 w.heap.size (fun _=>True) (.slice Ao20 t152.length co20) t152):=⟨(by rw [hw];exact (by (with_reducible repeat (first|apply Kd.R_alloc|apply Kd.R_drewN|apply Kd.R_drew));exact Kd.R_mono (Kd.R_far (p:=⟨gb157,1,none⟩) (Kd.R_far (p:=⟨gb157,0,none⟩) (Kd.R_types HO154.out BK157.out (by decide)) (fun _ hk=>hk.2) (.slice Ao20 t152.length co20)) (fun _ hk=>hk.2) (.int .i64 t155)) (fun _ hk=>trivial)))⟩;have n3_:Aside0 (w22.heap[gb157]?=some (.cells #[.slice Ao20 t152.length co20,.int .i64 t155] 53 (0,0))):=⟨(by rw [hw];exact (by (with_reducible repeat (first|refine blk_drewN ?_ _|refine blk_drew ?_|refine blk_alloc ?_ _));refine blk_put (cs:=#[.slice Ao20 t152.length co20,.int .i64 0]) ?_ 1 _ rfl;(with_reducible repeat (first|refine blk_drewN ?_ _|refine blk_drew ?_|refine blk_alloc ?_ _));refine blk_put (cs:=#[.slice none 0 0,.int .i64 0]) ?_ 0 _ rfl;(with_reducible repeat (first|refine blk_drewN ?_ _|refine blk_drew ?_|refine blk_alloc ?_ _));exact BK157.out))⟩;have n4_:Aside0 (Below w.heap.size w w22):=⟨(by rw [hw];exact (by repeat (first|(with_reducible first|exact HB.out|apply below_alloc|apply pw_below_drewN|apply below_drew1|refine below_set ?_ GE157.out)|exact HB.out)))⟩;clear hw;clear HO_4;clear HO_5;clear HO154;clear BK157;clear HB;have HO_4:=n0_;have HO_5:=n1_;have HO154:=n2_;have BK157:=n3_;have HB:=n4_;clear n0_ n1_ n2_ n3_ n4_;have hcz23_0:w22.cell? ⟨gb157,0,none⟩=some (.slice Ao20 t152.length co20):=(blk_cell BK157.out 0).trans rfl;have hcz23_1:w22.cell? ⟨gb157,1,none⟩=some (.int .i64 t155):=(blk_cell BK157.out 1).trans rfl;have hfz23_0:=blk_frozen BK157.out 0;have hfz23_1:=blk_frozen BK157.out 1)|((with_reducible refine gate_builtin (b:=.append) (xs:=#[.tmp 34,.tmp 36]) rfl ?_);at_builtin;refine Kd.S_append k53 (w0:=w) w.heap.size rfl (.tmp 34) (.tmp 36) 22 53 (.agg #[(.slice none 0 0),(.int .i64 0)]) 32 rfl Tryd.underlying22 info53 rfl (by decide) (by omega) u4 x4_1 (⟨t152,t155⟩:S53) [.slice Ao20 t152.length co20,.int .i64 t155] (fun k_=>k_≠gb157) (fun k_=>some k_=(.slice Ao20 t152.length co20:Value).ownBlock) rfl rfl ?aP (fun k_ hk_=>((Kd.R_mono (ok':=fun k_=>((fun k_=>k_≠gb157)) k_∧some k_≠(u4:Value).ownBlock) (Kd.R_types (Kd.R_apart' (HO154.out) (Kd.S_typed HO_4.out) (by decide)) BK157.out (by decide)) (fun k_ hk=>⟨hk.2,hk.1.2⟩))).1 k_ hk_.symm) ?aF ?aO ?aB ?aS ?aL ?_;(case aP=>exact k53_mkM _ _ _ (⟨t152,t155⟩:S53) (Kd.R_mono (Kd.R_tight rfl (Kd.R_mono (ok':=fun k_=>((fun k_=>k_≠gb157)) k_∧some k_≠(u4:Value).ownBlock) (Kd.R_types (Kd.R_apart' (HO154.out) (Kd.S_typed HO_4.out) (by decide)) BK157.out (by decide)) (fun k_ hk=>⟨hk.2,hk.1.2⟩))) (fun _ h_=>h_)));(case aB=>exact (by repeat (first|(with_reducible first|exact HB.out|apply below_alloc|apply pw_below_drewN|apply below_drew1|refine below_set ?_ GE157.out)|exact HB.out)));(case aF=>exact (fun k_ hk=>Kd.freshB (g:=gb157) (o:=.cells #[.slice Ao20 t152.length co20,.int .i64 t155] 53 (0,0)) (by (with_reducible repeat (first|refine blk_drewN ?_ _|refine blk_drew ?_|refine blk_alloc ?_ _));exact BK157.out) k_ hk));(case aO=>exact (by (with_reducible repeat (first|apply Kd.S_alloc|apply Kd.S_drewN|apply Kd.S_drew));exact Kd.S_mono HO_4.out (fun k_ hk=>⟨hk.2,fun e_=>hk.1 e_⟩)));(case aS=>exact (below_size (by repeat (first|(with_reducible first|exact HB.out|apply below_alloc|apply pw_below_drewN|apply below_drew1|refine below_set ?_ GE157.out)|exact HB.out))));(case aL=>have:=LMc16.out;omega);intro v159 w24 ho hb hg hat;rw [← Ny158.out] at ho;have n0_:=Aside0.mk (Kd.R_over' (by (with_reducible repeat (first|apply Kd.R_alloc|apply Kd.R_drewN|apply Kd.R_drew));exact HO_5.out) (Kd.S_typed (by (with_reducible repeat (first|apply Kd.S_alloc|apply Kd.S_drewN|apply Kd.S_drew));exact HO_4.out)) (by decide) hg);have n1_:=Aside0.mk (blk_grown (g:=gb157) (o:=.cells #[.slice Ao20 t152.length co20,.int .i64 t155] 53 (0,0)) (by (with_reducible repeat (first|refine blk_drewN ?_ _|refine blk_drew ?_|refine blk_alloc ?_ _));exact BK157.out) hg (Kd.S_away HO_4.out (fun _ hk=>hk.2)));have n2_:=Aside0.mk (hb);have n3_:=Aside0.mk (ho);clear HO_5;clear BK157;clear HB;clear HO_4;clear HO154;have HO_5:=n0_;have BK157:=n1_;have HB:=n2_;have HO160:=n3_;clear n0_ n1_ n2_ n3_;clear ho hb hg hat))
         go_roundg k1
         case measure=>have:=HK1.out;omega
         case rel=>exact ⟨(y158),(wrap64 (x6_1 + 1)),(by first|rfl|(simp;done)|(simp [*];done)),H',⟨by have:=HK1.out;omega⟩,⟨by (with_reducible repeat (first|apply Kd.S_alloc|apply Kd.S_drewN|apply Kd.S_drew));exact Kd.S_mono HO160.out (fun _ hk=>trivial)⟩,⟨by (with_reducible repeat (first|apply Kd.R_alloc|apply Kd.R_drewN|apply Kd.R_drew));exact HO_5.out⟩,⟨by repeat (first|(with_reducible first|exact HB.out|apply below_alloc|apply pw_below_drewN|apply below_drew1|refine below_set ?_ GE157.out)|exact HB.out)⟩⟩
        ·rw [if_neg c16] at H
         exact absurd H (by simp)
       ·replace c15:=Bool.eq_false_iff.mpr c15
        subst c15
        have H1:(some (([]:List (S53)),false))=some (r1,r2):=by rw [if_neg (show ¬ (false=true) by decide)] at H;exact H
        clear H
        have H:=H1
        clear H1
        simp only [Option.some.injEq,Prod.mk.injEq] at H
        obtain ⟨rfl,rfl⟩:=H
        obtain ⟨Ao25,co25,eo25⟩:=Kd.R_slice HO_5.out
        subst eo25
        have p151:0≤(x6_1:Int):=zod
        have q151:x6_1 < (t148.length:Int):=zod
        obtain ⟨ad151,e151,hx151_0⟩:=Kd.at_string (Kd.R_reads' HO_5.out).2.2 x6_1 p151 q151
        cases e151
        replace p151:=eq_true p151
        replace q151:=eq_true q151
        go_wp2_with (first|((with_reducible refine gate_callee (f:=37) rfl ?_);refine goesL_ (some 29) rfl rfl Tryd.func37 (by kernel_rfl) rfl #[.string (rdOf ByteArray.empty t148 x6_1)] rfl zar ?_;(with_reducible refine (spec_l2One.calls k1 (rdOf ByteArray.empty t148 x6_1) t152 t155 false _ A14.out).mono ?_);rintro e w26 ⟨v153,rfl,ho0,hb⟩;refine ⟨_,rfl,?_⟩;have n0_:=Aside0.mk (Kd.S_elder' (by (with_reducible repeat (first|apply Kd.S_alloc|apply Kd.S_drewN|apply Kd.S_drew));exact HO_4.out) (Kd.R_base ho0) hb);have n1_:=Aside0.mk (Kd.R_below (by (with_reducible repeat (first|apply Kd.R_alloc|apply Kd.R_drewN|apply Kd.R_drew));exact HO_5.out) hb);have n2_:=Aside0.mk (Kd.R_lower ho0 (below_size zhb));have n3_:=Aside0.mk (below_step zhb hb);clear HO_4;clear HO_5;clear HB;have HO_4:=n0_;have HO_5:=n1_;have HO154:=n2_;have HB:=n3_;clear n0_ n1_ n2_ n3_;(try clear hb);(try clear hb2);(try clear hk);(try clear hi);(try clear ho0))|((with_reducible refine gate_dst (N:=7) rfl ?_);refine box_event ?hg (N:=7) ?hd (cs:=#[.slice none 0 0,.int .i64 0]) (t:=53) ?hr ?_;(case hd=>rfl);(case hg=>rfl);(case hr=>first|(go_simp;done)|(go_simp;rfl));intro gb157 hg w27 hbox hb;have n0_:=Aside0.mk (Kd.S_below (Kd.S_elderB (by (with_reducible repeat (first|apply Kd.S_alloc|apply Kd.S_drewN|apply Kd.S_drew));exact HO_4.out) gb157 (Nat.le_of_eq hg.symm)) hb);have n1_:=Aside0.mk (Kd.R_below (by (with_reducible repeat (first|apply Kd.R_alloc|apply Kd.R_drewN|apply Kd.R_drew));exact HO_5.out) hb);have n2_:=Aside0.mk (Kd.R_below (by (with_reducible repeat (first|apply Kd.R_alloc|apply Kd.R_drewN|apply Kd.R_drew));exact HO154.out) hb);have n3_:=Aside0.mk (below_step zhb hb);have n4_:=Aside0.mk (hbox);have n5_:=Aside0.mk ((by rw [hg];exact (below_size zhb):w.heap.size≤gb157));have n6_:=Aside0.mk ((by rw [hg];exact (below_size zhb):w.heap.size≤gb157));clear HO_4;clear HO_5;clear HO154;clear HB;have HO_4:=n0_;have HO_5:=n1_;have HO154:=n2_;have HB:=n3_;have BK157:=n4_;have GW157:=n5_;have GE157:=n6_;clear n0_ n1_ n2_ n3_ n4_ n5_ n6_;clear hb hbox hg;obtain ⟨Ao28,co28,eo28⟩:=Kd.R_slice HO154.out;subst eo28;have hcz29_0:w27.cell? ⟨gb157,0,none⟩=some (.slice none 0 0):=(blk_cell BK157.out 0).trans rfl;have hcz29_1:w27.cell? ⟨gb157,1,none⟩=some (.int .i64 0):=(blk_cell BK157.out 1).trans rfl;have hfz29_0:=blk_frozen BK157.out 0;have hfz29_1:=blk_frozen BK157.out 1))
        go_ret2
        exact ⟨_,by first|rfl|(simp [errW_none,errW_some] <;> rfl)|(simp [*,errW_none,errW_some] <;> rfl),by first|exact Kd.S_nil _ _ _ _ _|exact Kd.N_nil _ _ _ _ _|exact Kd.V_nil _ _ _ _ _|exact Kd.Q_nil _ _ _ _ _|exact Kd.R_nil _ _ _ _ _,by repeat (first|(with_reducible first|exact HB.out|apply below_alloc|apply pw_below_drewN|apply below_drew1|refine below_set ?_ GE157.out)|exact HB.out)⟩
      ·rw [if_neg c13] at H
       exact absurd H (by simp)
     ·rw [if_neg c12] at H
      have c12b0:decide (x6_1 < (t148.length:Int))=false:=decide_eq_false c12
      clear c12
      replace H:=Option.bind_eq_some_iff.mp H
      obtain ⟨t161,A300,H⟩:=H
      (try dsimp only at H)
      have A30:=Aside0.mk A300
      clear A300
      by_cases c31:t161=true
      ·subst c31
       have H1:(some (x4_1,true))=some (r1,r2):=by rw [if_pos rfl] at H;exact H
       clear H
       have H:=H1
       clear H1
       simp only [Option.some.injEq,Prod.mk.injEq] at H
       obtain ⟨rfl,rfl⟩:=H
       obtain ⟨Ao32,co32,eo32⟩:=Kd.R_slice HO_5.out
       subst eo32
       obtain ⟨Ao33,co33,eo33⟩:=Kd.S_slice HO_4.out
       subst eo33
       go_wp2_with (first|((with_reducible refine gate_callee (f:=25) rfl ?_);refine goesL_ (some 39) rfl rfl Tryd.func25 (by kernel_rfl) rfl #[.slice Ao33 x4_1.length co33] rfl zar ?_;(with_reducible refine (spec_ZOk.calls k1 _ _ x4_1 true _ ?side1 ?side2 A30.out).mono ?_);(case side1=>repeat (first|exact (Kd.S_reads' HO_4.out).2.2|(with_reducible refine Kd.C_alloc ?_ _)|(with_reducible refine Kd.C_drewN ?_ _)|(with_reducible refine Kd.C_drew ?_)));(case side2=>exact (Kd.S_reads' HO_4.out).2.1);rintro e w34 ⟨rfl,hb⟩;refine ⟨_,rfl,?_⟩;have n0_:=Aside0.mk (Kd.S_below (by (with_reducible repeat (first|apply Kd.S_alloc|apply Kd.S_drewN|apply Kd.S_drew));exact HO_4.out) hb);have n1_:=Aside0.mk (Kd.R_below (by (with_reducible repeat (first|apply Kd.R_alloc|apply Kd.R_drewN|apply Kd.R_drew));exact HO_5.out) hb);have n2_:=Aside0.mk (below_step zhb hb);clear HO_4;clear HO_5;clear HB;have HO_4:=n0_;have HO_5:=n1_;have HB:=n2_;clear n0_ n1_ n2_;(try clear hb);(try clear hb2);(try clear hk);(try clear hi)))
       go_ret2
       exact ⟨_,by first|rfl|(simp [errW_none,errW_some] <;> rfl)|(simp [*,errW_none,errW_some] <;> rfl),by (with_reducible repeat (first|apply Kd.S_alloc|apply Kd.S_drewN|apply Kd.S_drew));exact HO_4.out,zhb⟩
      ·replace c31:=Bool.eq_false_iff.mpr c31
       subst c31
       have H1:(some (([]:List (S53)),false))=some (r1,r2):=by rw [if_neg (show ¬ (false=true) by decide)] at H;exact H
       clear H
       have H:=H1
       clear H1
       simp only [Option.some.injEq,Prod.mk.injEq] at H
       obtain ⟨rfl,rfl⟩:=H
       obtain ⟨Ao35,co35,eo35⟩:=Kd.R_slice HO_5.out
       subst eo35
       obtain ⟨Ao36,co36,eo36⟩:=Kd.S_slice HO_4.out
       subst eo36
       go_wp2_with (first|((with_reducible refine gate_callee (f:=25) rfl ?_);refine goesL_ (some 39) rfl rfl Tryd.func25 (by kernel_rfl) rfl #[.slice Ao36 x4_1.length co36] rfl zar ?_;(with_reducible refine (spec_ZOk.calls k1 _ _ x4_1 false _ ?side1 ?side2 A30.out).mono ?_);(case side1=>repeat (first|exact (Kd.S_reads' HO_4.out).2.2|(with_reducible refine Kd.C_alloc ?_ _)|(with_reducible refine Kd.C_drewN ?_ _)|(with_reducible refine Kd.C_drew ?_)));(case side2=>exact (Kd.S_reads' HO_4.out).2.1);rintro e w37 ⟨rfl,hb⟩;refine ⟨_,rfl,?_⟩;have n0_:=Aside0.mk (Kd.S_below (by (with_reducible repeat (first|apply Kd.S_alloc|apply Kd.S_drewN|apply Kd.S_drew));exact HO_4.out) hb);have n1_:=Aside0.mk (Kd.R_below (by (with_reducible repeat (first|apply Kd.R_alloc|apply Kd.R_drewN|apply Kd.R_drew));exact HO_5.out) hb);have n2_:=Aside0.mk (below_step zhb hb);clear HO_4;clear HO_5;clear HB;have HO_4:=n0_;have HO_5:=n1_;have HB:=n2_;clear n0_ n1_ n2_;(try clear hb);(try clear hb2);(try clear hk);(try clear hi)))
       go_ret2
       exact ⟨_,by first|rfl|(simp [errW_none,errW_some] <;> rfl)|(simp [*,errW_none,errW_some] <;> rfl),by first|exact Kd.S_nil _ _ _ _ _|exact Kd.N_nil _ _ _ _ _|exact Kd.V_nil _ _ _ _ _|exact Kd.Q_nil _ _ _ _ _|exact Kd.R_nil _ _ _ _ _,zhb⟩

/-! ### impl_RowText: function 16 (by hand) -/
theorem tab_on {P:Program} {w w':World} {nm:String} {k:IntKind} {zs:List Int} (h:Lib.TabIs P w nm k zs) (hb:Below w.heap.size w w'):Lib.TabIs P w' nm k zs:=Lib.tabBelow_of_tabIs h w' hb
theorem var_on {P:Program} {w w':World} {nm:String} {cs:Array Value} (h:w.var? P nm=some cs) (hb:Below w.heap.size w w'):w'.var? P nm=some cs:=by
 unfold World.var? at *
 cases hg:P.globalNamed nm with
 | none=>simp [hg] at h
 | some g =>
  simp only [hg,Option.bind_some] at h ⊢
  have hlt:g < w.heap.size:=by
   rcases Nat.lt_or_ge g w.heap.size with h'|h'
   ·exact h'
   ·rw [Array.getElem?_eq_none h'] at h;simp at h
  rw [hb.block g hlt]
  exact h
/-- what strings.Cut and strings.Split want of internal/bytealg.MaxLen, where they are used (MAXLEN in the law's env; else nothing) -/
def MaxW (w:World):Prop:=∃ m:Int,w.cell? ⟨0,0,none⟩=some (.int .i64 m)
theorem MaxW.on {w w':World} (h:MaxW w) (hb:Below w.heap.size w w'):MaxW w':=by
 unfold MaxW at *
 (obtain ⟨m,hm⟩:=h;exact ⟨m,(hb.cell (World.block_lt_of_cell? _ _ hm)).trans hm⟩)
/-- what the texts' functions find in the library's variables -/
def TxtW (w : World) : Prop := Lib.TabIs Tryd.prog w "internal/strconv.uint64pow10" .u64 Lib.pow10Tab ∧ (∃ tp p, w.var? Tryd.prog "strconv.ErrSyntax" = some #[.iface tp p]) ∧ (∃ tp p, w.var? Tryd.prog "strconv.ErrRange" = some #[.iface tp p]) ∧ MaxW w
theorem TxtW.tab {w : World} (h : TxtW w) : Lib.TabIs Tryd.prog w "internal/strconv.uint64pow10" .u64 Lib.pow10Tab := h.1
theorem TxtW.on {w w':World} (h:TxtW w) (hb:Below w.heap.size w w'):TxtW w':=by
 obtain ⟨h1,⟨t1,p1,h2⟩,⟨t2,p2,h3⟩,h4⟩:=h
 exact ⟨Lib.tabBelow_of_tabIs h1 w' hb,⟨t1,p1,var_on h2 hb⟩,⟨t2,p2,var_on h3 hb⟩,h4.on hb⟩
/-- a row's text: the numerals, with a comma between -/
def tailB (l:List Int):List UInt8:=(l.map (fun x=>44 :: Lib.itoa x)).flatten
def rowB:List Int→List UInt8
 | []=>[]
 | x :: l=>Lib.itoa x ++ tailB l
theorem rowB_snoc (l:List Int) (x:Int):rowB (l ++ [x])=rowB l ++ ((if l = [] then [] else [44]) ++ Lib.itoa x):=by
 cases l with
 | nil=>simp [rowB,tailB]
 | cons y l=>simp [rowB,tailB,List.append_assoc]
def okI (x:Int):Bool:=decide (-9223372036854775808≤x) && decide (x≤9223372036854775807)
theorem okI_iff {x:Int}:okI x=true ↔ (-9223372036854775808≤x∧x≤9223372036854775807):=by unfold okI;simp
theorem tailB_len (l:List Int) (h : ∀ x ∈ l,okI x=true):(tailB l).length≤22 * l.length:=by
 induction l with
 | nil=>simp [tailB]
 | cons x l ih =>
  have h1:=okI_iff.1 (h x List.mem_cons_self)
  have h2:=Lib.itoa_length_le x h1.1 h1.2
  have h3:=ih (fun y hy=>h y (List.mem_cons_of_mem _ hy))
  have e:(tailB (x :: l)).length=1 + (Lib.itoa x).length + (tailB l).length:=by simp [tailB];omega
  rw [e,List.length_cons]
  omega
theorem rowB_len (l:List Int) (h : ∀ x ∈ l,okI x=true):(rowB l).length≤22 * l.length:=by
 cases l with
 | nil=>simp [rowB]
 | cons x l =>
  have h1:=okI_iff.1 (h x List.mem_cons_self)
  have h2:=Lib.itoa_length_le x h1.1 h1.2
  have h3:=tailB_len l (fun y hy=>h y (List.mem_cons_of_mem _ hy))
  rw [rowB,List.length_append,List.length_cons]
  omega
def impl_RowText.f (l0:List Int):Option ByteArray:=if l0.length≤1048576 then (if l0.all okI=true then some ⟨(rowB l0).toArray⟩ else none) else none
theorem intOf_k (k:Nat):(intOf (.int .i64 (k:Int))).toNat=k:=by simp [intOf]
theorem infoByte:(Tryd.prog.info? 5).map (fun i=>(i.zero,i.size,i.bytes))=some (some (.int .u8 0),1,1):=by kernel_rfl
set_option maxHeartbeats 8000000 in
set_option maxRecDepth 100000 in
theorem impl_RowText.calls (A0 : Option Addr) (c0 : Nat) (l0 : List Int) (r : ByteArray) (w : World) (hr0 : Kd.C (Kd.int .i64) w A0 l0.length l0) (hc0 : l0.length ≤ c0) (h : impl_RowText.f l0 = some r) (hT : Lib.TabIs Tryd.prog w "internal/strconv.uint64pow10" .u64 Lib.pow10Tab := by first | exact TxtW.tab (TxtW.on HT0.out zhb) | exact tab_on HT0.out zhb) :
  Calls Tryd.prog 16 #[.slice A0 l0.length c0] w fun e w'=>e=.returned (.string r)∧Below w.heap.size w w':=by
 unfold impl_RowText.f at h
 by_cases hl:l0.length≤1048576
 case neg=>rw [if_neg hl] at h;cases h
 rw [if_pos hl] at h
 by_cases ha:l0.all okI=true
 case neg=>rw [if_neg ha] at h;cases h
 rw [if_pos ha] at h
 obtain rfl:=Option.some.inj h
 clear h
 have hok : ∀ x ∈ l0,okI x=true:=List.all_eq_true.1 ha
 obtain ⟨i0,hi,hz0,hz1,hz2⟩:=info_parts infoByte
 have HR:=Aside0.mk hr0
 have HL:=Aside0.mk hl
 have HOK:=Aside0.mk hok
 have HTB:=Aside0.mk (Lib.tabBelow_of_tabIs hT)
 clear hr0 hl hok ha hT hc0
 go_enter Tryd.func16,Tryd.ntmps16
 go_wp2
 go_loopw [3,8] (fun v i wr=>∃ k:Nat,k≤l0.length∧i=.int .i64 k∧wr.ownsRow w.heap.size 5 1 v (rowB (l0.take k)).length (Lib.byteCells (rowB (l0.take k)))∧Below w.heap.size w wr)
  (fun _ i _=>l0.length - (intOf i).toNat)
 case atStart=>exact ⟨0,Nat.zero_le _,rfl,World.ownsRow_nil _ _ _ _,Below.refl _ _⟩
 case round =>
  obtain ⟨k,hk,rfl,hown,hnx⟩:=hrel
  have HOW:=Aside0.mk hown
  have HNX:=Aside0.mk hnx
  clear hown hnx
  by_cases hlt:k < l0.length
  case neg =>
   have hkl:k=l0.length:=by omega
   have f0:decide ((k:Int) < (l0.length:Int))=false:=decide_eq_false (by omega)
   have f1:decide (k < l0.length)=false:=decide_eq_false (by omega)
   subst hkl
   have hown:=HOW.out
   rw [List.take_length] at hown
   obtain ⟨l,hl⟩ : ∃ l,l=rowB l0:=⟨_,rfl⟩
   rw [← hl] at hown
   have HLL:=Aside0.mk hl
   clear hl HOW hk hlt
   rcases hown.2 with ⟨hv,h0⟩|⟨g,cap,cur,rfl,-,-,-,-,-,-⟩
   ·subst hv
    have h1:=hown.1
    have e1:l = []:=List.eq_nil_of_length_eq_zero (by omega)
    subst e1
    have hcv:=run_convert_bytes_nil (P:=Tryd.prog) wr 38 5 Tryd.underlying38 Tryd.underlying5 0 0 9 Tryd.underlying9
    clear hown h0 h1
    go_wp2
    go_ret
    refine ⟨?_,HNX.out⟩
    rw [← HLL.out]
    rfl
   ·have hcv:=run_convert_bytes_back (P:=Tryd.prog) wr 38 9 5 ⟨g,0,none⟩ cap l Tryd.underlying38 Tryd.underlying5 Tryd.underlying9 (fun j hj=>hown.cells (g:=g) rfl j _ (by simp [Lib.byteCells,hj]))
    clear hown
    go_wp2
    go_ret
    have hl:=HLL.out
    subst hl
    exact ⟨rfl,HNX.out⟩
  have f0:decide ((k:Int) < (l0.length:Int))=true:=decide_eq_true (by omega)
  have f1:decide (k < l0.length)=true:=decide_eq_true (by omega)
  obtain ⟨ad,rfl,hcell⟩:=Kd.at_int HR.out (k:Int) (by omega) (by omega)
  obtain ⟨x,hx⟩ : ∃ x,x=rd l0 (k:Int):=⟨_,rfl⟩
  rw [← hx] at hcell
  have hxl:x=l0[k]:=by rw [hx];show l0.getD k 0=_;rw [List.getD_eq_getElem?_getD,List.getElem?_eq_getElem hlt];rfl
  have hxo:=okI_iff.1 (HOK.out x (by rw [hxl];exact List.getElem_mem hlt))
  have hcell1:wr.cell? (ad.add k)=some (.int .i64 x):=by
   have h1:=HNX.out.cell (World.block_lt_of_cell? _ _ hcell)
   exact h1.trans hcell
  have HX:=Aside0.mk hxl
  have HXO:=Aside0.mk hxo
  clear hcell hx hxl hxo
  have HLT:=Aside0.mk hlt
  have HK:=Aside0.mk (show (rowB (l0.take k)).length≤22 * k by
   have h1:=rowB_len (l0.take k) (fun y hy=>HOK.out y (List.mem_of_mem_take hy))
   rw [List.length_take] at h1
   omega)
  have HE:=Aside0.mk (show rowB (l0.take (k + 1))=rowB (l0.take k) ++ ((if l0.take k = [] then [] else [44]) ++ Lib.itoa x) by
   rw [List.take_succ_eq_append_getElem hlt,← HX.out,rowB_snoc])
  have HS:=Aside0.mk (HNX.out.size)
  have HW:=Aside0.mk (show wrap64 ((k:Int) + 1)=((k + 1:Nat):Int) by have:=HL.out;unfold wrap64;omega)
  clear HX
  by_cases h0:k=0
  ·have g0:decide (0 < (k:Int))=false:=decide_eq_false (by omega)
   have g1:decide (0 < k)=false:=decide_eq_false (by omega)
   have H0:=Aside0.mk h0
   clear h0 hk
   go_wp2_with (go_at_call 44;refine (Tryd.strconv_AppendInt_10 w.heap.size _ x HXO.out.1 HXO.out.2 u3 _ wr HOW.out HS.out (by have:=HL.out;have:=HLT.out;have:=HK.out;omega) (HTB.out.on HNX.out)).mono ?_;rintro e w1 ⟨v1,rfl,hown1,hnx1,-⟩;refine Hid.out ?_)
   refine Lib.hid ?_
   have HOW1:=Aside0.mk hown1
   have HNX1:=Aside0.mk (HNX.out.trans hnx1)
   clear hown1 hnx1
   go_wp2
   go_roundw
   case rel =>
    refine ⟨k + 1,HLT.out,by rw [HW.out],?_,HNX1.out⟩
    have h1:=HOW1.out
    have e0:l0.take k = []:=by rw [H0.out];rfl
    rw [HE.out,if_pos e0,List.nil_append,e0]
    rw [e0,← Lib.byteCells_append,← List.length_append] at h1
    exact h1
   case measure=>have:=HLT.out;rw [HW.out];simp only [intOf];omega
  ·have g0:decide (0 < (k:Int))=true:=decide_eq_true (by omega)
   have g1:decide (0 < k)=true:=decide_eq_true (by omega)
   have H0:=Aside0.mk h0
   clear h0 hk
   go_wp2_with (at_builtin;refine wpList_append_own _ rfl _ _ 38 rfl w.heap.size 5 i0 (.int .u8 0) 1 1 Tryd.underlying38 hi hz0 hz1 hz2 rfl (by decide) _ _ _ rfl (HOW.out.alloc _) ⟨wr.heap.size,0,none⟩ 1 1 [Value.int .u8 44] rfl rfl (by intro j u' hj;match j,hj with|0,hj=>simp at hj;subst hj;simp [Addr.add]) (by intro u' hu';simp at hu';subst hu';rfl) (by have:=HL.out;have:=HLT.out;have:=HK.out;unfold maxLen;omega) (by have:=HL.out;have:=HLT.out;have:=HK.out;omega) (by have:=HS.out;simp;omega) ?_)
   intro v2 w2 hown2 hgrow _
   have hnx2:Below w.heap.size w w2:=(HNX.out.alloc (by have:=HS.out;omega) _).grown hgrow (by have:=HS.out;simp;omega) (fun k_ hk_=>(HOW.out.lt k_ hk_).1)
   have HOW2:=Aside0.mk hown2
   have HNX2:=Aside0.mk hnx2
   clear hown2 hgrow hnx2
   go_wp2_with (go_at_call 44;refine (Tryd.strconv_AppendInt_10 w.heap.size _ x HXO.out.1 HXO.out.2 v2 _ w2 HOW2.out HNX2.out.size (by have:=HL.out;have:=HLT.out;have:=HK.out;omega) (HTB.out.on HNX2.out)).mono ?_;rintro e w1 ⟨v1,rfl,hown1,hnx1,-⟩;refine Hid.out ?_)
   refine Lib.hid ?_
   have HOW1:=Aside0.mk hown1
   have HNX1:=Aside0.mk (HNX2.out.trans hnx1)
   clear hown1 hnx1
   go_wp2
   go_roundw
   case rel =>
    refine ⟨k + 1,HLT.out,by rw [HW.out],?_,HNX1.out⟩
    have h1:=HOW1.out
    have e0:l0.take k≠[]:=by
     intro e
     have:=congrArg List.length e
     rw [List.length_take] at this
     have h2:=H0.out;have h3:=HLT.out
     rw [List.length_nil] at this
     omega
    rw [HE.out,if_neg e0,← List.append_assoc,Lib.byteCells_append,Lib.byteCells_append,List.length_append,List.length_append]
    exact h1
   case measure=>have:=HLT.out;rw [HW.out];simp only [intOf];omega

/-! ### strconv_Itoa: function 47 (by hand) -/
def strconv_Itoa.f (a0:Int):Option ByteArray:=if okI a0=true then some ⟨(Lib.itoa a0).toArray⟩ else none
theorem strconv_Itoa.calls (a0 : Int) (r : ByteArray) (w : World) (h : strconv_Itoa.f a0 = some r) (hT : Lib.TabIs Tryd.prog w "internal/strconv.uint64pow10" .u64 Lib.pow10Tab := by first | exact TxtW.tab (TxtW.on HT0.out zhb) | exact tab_on HT0.out zhb) :
  Calls Tryd.prog 47 #[.int .i64 a0] w fun e w'=>e=.returned (.string r)∧Below w.heap.size w w':=by
 unfold strconv_Itoa.f at h
 by_cases h1:okI a0=true
 case neg=>rw [if_neg h1] at h;cases h
 rw [if_pos h1] at h
 obtain rfl:=Option.some.inj h
 have h2:=okI_iff.1 h1
 refine (Tryd.strconv_Itoa a0 h2.1 h2.2 w hT).mono ?_
 rintro e w' ⟨rfl,k,os,rfl⟩
 refine ⟨rfl,rfl,rfl,rfl,?_,fun i hi=>?_⟩
 ·show w.heap.size≤((w.drewN k).heap ++ os).size
  rw [Array.size_append]
  exact Nat.le_add_right _ _
 ·show ((w.drewN k).heap ++ os)[i]?=_
  rw [Array.getElem?_append_left (by show i < w.heap.size;omega)]
  rfl

/-! ### strings_Join: function 48 (by hand) -/
def joinF (l:List ByteArray) (sep:ByteArray):List UInt8:=Lib.join (l.map (·.data.toList)) sep.data.toList
def strings_Join.f (l0:List ByteArray) (a1:ByteArray):Option ByteArray:=if l0.length≤140737488355328 then (if (joinF l0 a1).length≤140737488355328 then some ⟨(joinF l0 a1).toArray⟩ else none) else none
theorem strings_Join.calls (A0:Option Addr) (c0:Nat) (l0:List ByteArray) (a1:ByteArray) (r:ByteArray) (w:World) (hr0:Kd.C Kd.string w A0 l0.length l0) (hc0:l0.length≤c0) (h:strings_Join.f l0 a1=some r) :
  Calls Tryd.prog 48 #[.slice A0 l0.length c0,.string a1] w fun e w'=>e=.returned (.string r)∧Below w.heap.size w w':=by
 unfold strings_Join.f at h
 by_cases h1:l0.length≤140737488355328
 case neg=>rw [if_neg h1] at h;cases h
 rw [if_pos h1] at h
 by_cases h2:(joinF l0 a1).length≤140737488355328
 case neg=>rw [if_neg h2] at h;cases h
 rw [if_pos h2] at h
 obtain rfl:=Option.some.inj h
 cases hl:l0 with
 | nil =>
  subst hl
  refine (Tryd.strings_Join_none A0 c0 a1 w).mono ?_
  rintro e w' ⟨rfl,rfl⟩
  exact ⟨rfl,Below.refl _ _⟩
 | cons x l =>
  rw [← hl]
  have hpos:(0:Int) < l0.length:=by rw [hl];simp
  obtain ⟨ad,rfl,hc⟩:=Kd.at_string hr0 0 (by omega) hpos
  obtain ⟨bk,off,spot⟩:=ad
  have hs:spot=none:=by
   have:(Addr.mk bk off spot).add (0:Int).toNat=⟨bk,off,spot⟩:=rfl
   rw [this] at hc
   unfold World.cell? at hc
   simp only at hc
   split at hc
   ·split at hc
    ·cases hc
    ·next hns=>simpa using hns
   ·cases hc
  subst hs
  have cells : ∀ (j:Nat) x,l0[j]?=some x→w.cell? ⟨bk,off + j,none⟩=some (.string x):=by
   intro j x hj
   obtain ⟨hjl,hx⟩:=List.getElem?_eq_some_iff.1 hj
   obtain ⟨ad',e1,h3⟩:=Kd.at_string hr0 (j:Int) (by omega) (by omega)
   have e2:=Option.some.inj e1
   subst e2
   rw [Int.toNat_natCast] at h3
   have e3:(Addr.mk bk off none).add j=⟨bk,off + j,none⟩:=by
    unfold Addr.add
    split
    ·next h0=>subst h0;rfl
    ·rfl
   rw [e3] at h3
   rw [h3]
   unfold rdOf
   rw [Int.toNat_natCast,List.getD_eq_getElem?_getD,hj]
   rfl
  exact Tryd.strings_Join bk off c0 l0 a1 w cells (World.block_lt_of_cell? _ _ hc) (by omega) hc0 h2

end Go.Proofs.YtgcplipimcbhlaaDoor.PFnExactZRead
