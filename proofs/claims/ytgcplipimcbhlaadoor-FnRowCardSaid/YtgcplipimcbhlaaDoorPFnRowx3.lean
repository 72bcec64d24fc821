-- Written by wip/tools/pp.py, a program of this session over the kit's printer: not the kit's own print
import Derived.Test.YtgcplipimcbhlaaDoorPFnRowx0
import Derived.Test.YtgcplipimcbhlaaDoorPFnRowx1
import Derived.Test.YtgcplipimcbhlaaDoorPFnRowx2
namespace Go.Proofs.YtgcplipimcbhlaaDoor.PFnRow
open Go.RowKit Go.Proofs.YtgcplipimcbhlaaDoorW.PrintWords Go.Proofs.YtgcplipimcbhlaaDoorW.PrintLast Go.Proofs.YtgcplipimcbhlaaDoorW.PrintMore
attribute [local go_sem] max2_int min2_int max_two min_two max_three min_three max_four min_four   -- for this text's walks alone
set_option linter.unusedVariables false
set_option linter.unusedSimpArgs false

/-! ### spec_RowRead: function 27 -/
def spec_RowRead.l0:Nat→List ByteArray→List Int→Int→Option (List Int × Bool)
 | 0,_,_,_=>none
 | k + 1,x4,x5,x6=>if x6 < (x4.length:Int) then (if 0≤x6 then ((spec_l12Num.f k (rdOf ByteArray.empty x4 x6)).bind fun bt130=>(if bt130.2=true then (if x5.length < 17592186044416 then (spec_RowRead.l0 k x4 (x5 ++ [bt130.1]) (wrap64 (x6 + 1))) else (none)) else (some (([]:List Int),false)))) else (none)) else ((spec_RowOk.f k x5).bind fun t135=>(if t135=true then (some (x5,true)) else (some (([]:List Int),false))))
def spec_RowRead.f (k:Nat) (a0:ByteArray):Option (List Int × Bool):=if (a0.size:Int) > 100 then (some (([]:List Int),false)) else ((spec_l12Cut.f k a0 44).bind fun t123=>(spec_RowRead.l0 k t123 (([]:List Int)) 0))
theorem spec_RowRead.mono_l : ∀ k,(∀ y0 y1 y2,LeO (spec_RowRead.l0 k y0 y1 y2) (spec_RowRead.l0 (k + 1) y0 y1 y2))
 | 0=>fun _ _ _ r h=>by simp [spec_RowRead.l0] at h
 | k + 1=>by
  have ih0:=spec_RowRead.mono_l k
  ·intro y0 y1 y2
   unfold spec_RowRead.l0
   repeat' first
   | (with_reducible exact ih0 _ _ _)
   | (with_reducible exact spec_RowOk.mono _ _)
   | (with_reducible exact spec_l12Cut.mono _ _ _)
   | (with_reducible exact spec_l12Num.mono _ _)
   | (with_reducible exact LeO.refl _)
   | (with_reducible exact LeO.none _)
   | (with_reducible refine LeO.ite ?_ ?_)
   | (with_reducible refine LeO.bind ?_ (fun _=>?_))
   | exact LeO.none _
   | refine LeO.ite ?_ ?_
   | refine LeO.bind ?_ (fun _=>?_)
theorem spec_RowRead.mono : ∀ a0 k,LeO (spec_RowRead.f k a0) (spec_RowRead.f (k + 1) a0):=by
 intro a0 k
 have ih0:=spec_RowRead.mono_l k
 unfold spec_RowRead.f
 repeat' first
   | (with_reducible exact ih0 _ _ _)
   | (with_reducible exact spec_RowOk.mono _ _)
   | (with_reducible exact spec_l12Cut.mono _ _ _)
   | (with_reducible exact spec_l12Num.mono _ _)
   | (with_reducible exact LeO.refl _)
   | (with_reducible exact LeO.none _)
   | (with_reducible refine LeO.ite ?_ ?_)
   | (with_reducible refine LeO.bind ?_ (fun _=>?_))
   | exact LeO.none _
   | refine LeO.ite ?_ ?_
   | refine LeO.bind ?_ (fun _=>?_)
set_option maxHeartbeats 8000000 in
set_option maxRecDepth 100000 in
theorem spec_RowRead.calls (k:Nat) (a0:ByteArray) (r1:List Int) (r2:Bool) (w:World) (h:spec_RowRead.f k a0=some (r1,r2)) :
  Calls Tryd.prog 27 #[.string a0] w fun e w'=>∃ v0_:Value,e=.returned (.tuple #[v0_,.bool r2])∧Kd.R (Kd.int .i64) 3 w' w.heap.size (fun _=>True) v0_ r1∧Below w.heap.size w w':=by
 have HB:=Aside0.mk (Below.refl w.heap.size w)
 have H:(if (a0.size:Int) > 100 then (some (([]:List Int),false)) else ((spec_l12Cut.f k a0 44).bind fun t123=>(spec_RowRead.l0 k t123 (([]:List Int)) 0)))=some (r1,r2):=h
 clear h
 by_cases c2:(a0.size:Int) > 100
 ·rw [if_pos c2] at H
  have c2b0:decide (100 < (a0.size:Int))=true:=decide_eq_true c2
  have c2b1:decide (100 < a0.size)=true:=decide_eq_true (by omega)
  clear c2
  simp only [Option.some.injEq,Prod.mk.injEq] at H
  obtain ⟨rfl,rfl⟩:=H
  go_enter Tryd.func27,Tryd.ntmps27
  go_wp2
  go_ret2
  exact ⟨_,by first|rfl|(simp [errW_none,errW_some] <;> rfl)|(simp [*,errW_none,errW_some] <;> rfl),by first|exact Kd.R_nil _ _ _ _ _|exact Kd.N_nil _ _ _ _ _|exact Kd.V_nil _ _ _ _ _|exact Kd.Q_nil _ _ _ _ _|exact Kd.S_nil _ _ _ _ _,zhb⟩
 ·rw [if_neg c2] at H
  have c2b0:decide (100 < (a0.size:Int))=false:=decide_eq_false c2
  have c2b1:decide (100 < a0.size)=false:=decide_eq_false (by omega)
  clear c2
  replace H:=Option.bind_eq_some_iff.mp H
  obtain ⟨t123,A30,H⟩:=H
  (try dsimp only at H)
  have A3:=Aside0.mk A30
  clear A30
  obtain ⟨y126,hy126⟩ : ∃ y_:List Int,y_=(([]:List Int)):=⟨_,rfl⟩
  replace H:(spec_RowRead.l0 k t123 y126 0)=some (r1,r2):=by first|(rw [hy126];with_reducible exact H)|(have H2_:=(Option.bind_some _ _).symm.trans H;rw [hy126];with_reducible exact H2_)|(have H2_:=(Option.bind_some _ _).symm.trans H;with_reducible exact H2_)|with_reducible exact H|(rw [hy126];exact H)|exact H
  have Ny126:=Aside0.mk hy126
  clear hy126
  have H':=Aside0.mk H
  clear H
  go_enter Tryd.func27,Tryd.ntmps27
  go_wp2_with (first|((with_reducible refine gate_callee (f:=36) rfl ?_);refine goesL_ (some 13) rfl rfl Tryd.func36 (by kernel_rfl) rfl #[.string a0,.int .u8 44] rfl zar ?_;(with_reducible refine (spec_l12Cut.calls k a0 44 t123 _ A3.out).mono ?_);rintro e w4 ⟨v124,rfl,ho0,hb⟩;refine ⟨_,rfl,?_⟩;have n0_:=Aside0.mk (Kd.R_lower ho0 (below_size zhb));have n1_:=Aside0.mk (below_step zhb hb);clear HB;have HO125:=n0_;have HB:=n1_;clear n0_ n1_;(try clear hb);(try clear hb2);(try clear hk);(try clear hi);(try clear ho0))|((with_reducible refine gate_dst (N:=14) rfl ?_);refine Kd.R_lit (Kd.int .i64) _ 3 ?hg (N:=14) ?hd (xs:=([]:List Int)) (inner:=[]) (ok:=fun _=>True) (okp:=fun _=>True) ?hr ?hp (fun _ hk=>hk) trivial (Below.refl _ _) (Nat.le_refl _) (by simp) ?_;(case hd=>rfl);(case hg=>rfl);(case hr=>first|(go_simp;done)|(go_simp;rfl));(case hp=>exact (Reps.none _ _));intro v127 w5 ho6 hb hg_ hnew_;clear hg_ hnew_;(first|rw [← Ny126.out] at ho6|(simp only [Int.reduceToNat] at ho6;rw [← Ny126.out] at ho6));have n0_:=Aside0.mk (Kd.R_below (by (with_reducible repeat (first|apply Kd.R_alloc|apply Kd.R_drewN|apply Kd.R_drew));exact HO125.out) hb);have n1_:=Aside0.mk (Kd.R_lower ho6 (below_size zhb));have n2_:=Aside0.mk (below_step zhb hb);clear HO125;clear HB;have HO125:=n0_;have HO128:=n1_;have HB:=n2_;clear n0_ n1_ n2_;clear hb ho6))
  go_loopg [5,6] k (fun kq v5 v6 w'=>∃ (x5_1:List Int) (x6_1:Int),v6=.int .i64 x6_1∧Aside0 (spec_RowRead.l0 kq t123 x5_1 x6_1=some (r1,r2))∧Aside0 (kq≤k)∧Aside0 (Kd.R Kd.string 9 w' w.heap.size (fun _=>True) v124 t123)∧Aside0 (Kd.R (Kd.int .i64) 3 w' w.heap.size (fun _=>True) v5 x5_1)∧Aside0 (Below w.heap.size w w'))
  case atStart=>exact ⟨(y126),(0),(by first|rfl|(simp;done)|(simp [*];done)),H',⟨Nat.le_refl _⟩,⟨by (with_reducible repeat (first|apply Kd.R_alloc|apply Kd.R_drewN|apply Kd.R_drew));exact HO125.out⟩,⟨by (with_reducible repeat (first|apply Kd.R_alloc|apply Kd.R_drewN|apply Kd.R_drew));exact HO128.out⟩,⟨zhb⟩⟩
  case round =>
   clear H'
   try clear c2
   try clear c2b0
   try clear c2b1
   try clear p2
   try clear c3
   obtain ⟨x5_1,x6_1,rfl,HA,HK1,HO_4,HO_5,HB⟩:=hrel
   cases gk with
   | zero=>exact absurd HA.out (by simp [spec_RowRead.l0])
   | succ k1 =>
    have H:=HA.out
    clear HA
    simp only [spec_RowRead.l0] at H
    by_cases c7:x6_1 < (t123.length:Int)
    ·rw [if_pos c7] at H
     have c7b0:decide (x6_1 < (t123.length:Int))=true:=decide_eq_true c7
     clear c7
     by_cases c8:0≤x6_1
     ·rw [if_pos c8] at H
      have c8b0:decide (0≤x6_1)=true:=decide_eq_true c8
      clear c8
      replace H:=Option.bind_eq_some_iff.mp H
      obtain ⟨⟨t130,t131⟩,A90,H⟩:=H
      (try dsimp only at H)
      have A9:=Aside0.mk A90
      clear A90
      by_cases c10:t131=true
      ·subst c10
       have H1:(if x5_1.length < 17592186044416 then (spec_RowRead.l0 k1 t123 (x5_1 ++ [t130]) (wrap64 (x6_1 + 1))) else (none))=some (r1,r2):=by rw [if_pos rfl] at H;exact H
       clear H
       have H:=H1
       clear H1
       by_cases c11:x5_1.length < 17592186044416
       ·rw [if_pos c11] at H
        have LMc11:=Aside0.mk c11
        clear c11
        obtain ⟨y132,hy132⟩ : ∃ y_:List Int,y_=(x5_1 ++ [t130]):=⟨_,rfl⟩
        replace H:(spec_RowRead.l0 k1 t123 y132 (wrap64 (x6_1 + 1)))=some (r1,r2):=by first|(rw [hy132];with_reducible exact H)|(have H2_:=(Option.bind_some _ _).symm.trans H;rw [hy132];with_reducible exact H2_)|(have H2_:=(Option.bind_some _ _).symm.trans H;with_reducible exact H2_)|with_reducible exact H|(rw [hy132];exact H)|exact H
        have Ny132:=Aside0.mk hy132
        clear hy132
        have H':=Aside0.mk H
        clear H
        obtain ⟨Ao12,co12,eo12⟩:=Kd.R_slice HO_4.out
        subst eo12
        have p129:0≤(x6_1:Int):=zod
        have q129:x6_1 < (t123.length:Int):=zod
        obtain ⟨ad129,e129,hx129_0⟩:=Kd.at_string (Kd.R_reads' HO_4.out).2.2 x6_1 p129 q129
        cases e129
        replace p129:=eq_true p129
        replace q129:=eq_true q129
        go_wp2_with (first|((with_reducible refine gate_callee (f:=57) rfl ?_);refine goesL_ (some 26) rfl rfl Tryd.func57 (by kernel_rfl) rfl #[.string (rdOf ByteArray.empty t123 x6_1)] rfl zar ?_;(with_reducible refine (spec_l12Num.calls k1 (rdOf ByteArray.empty t123 x6_1) t130 true _ A9.out).mono ?_);rintro e w' ⟨rfl,⟨nd,rfl⟩⟩;refine ⟨_,rfl,?_⟩)|((with_reducible refine gate_builtin (b:=.append) (xs:=#[.tmp 31,.tmp 33]) rfl ?_);at_builtin;refine Kd.R_append (Kd.int .i64) (w0:=w) w.heap.size rfl (.tmp 31) (.tmp 33) 28 3 (.int .i64 0) 8 rfl Tryd.underlying28 info3 rfl (by decide) (by omega) u5 x5_1 t130 [.int .i64 t130] (fun _=>True) (fun _=>False) rfl rfl ?aP (fun _ hk=>hk.elim) ?aF ?aO ?aB ?aS ?aL ?_;(case aP=>exact rfl);(case aB=>exact zhb);(case aF=>exact (fun _ _=>trivial));(case aO=>exact (by (with_reducible repeat (first|apply Kd.R_alloc|apply Kd.R_drewN|apply Kd.R_drew));exact HO_5.out));(case aS=>exact (below_size zhb));(case aL=>have:=LMc11.out;omega);intro v133 w13 ho hb hg hat;rw [← Ny132.out] at ho;have n0_:=Aside0.mk (Kd.R_over' (by (with_reducible repeat (first|apply Kd.R_alloc|apply Kd.R_drewN|apply Kd.R_drew));exact HO_4.out) (Kd.R_typed (by (with_reducible repeat (first|apply Kd.R_alloc|apply Kd.R_drewN|apply Kd.R_drew));exact HO_5.out)) (by decide) hg);have n1_:=Aside0.mk (hb);have n2_:=Aside0.mk (ho);clear HO_4;clear HB;clear HO_5;have HO_4:=n0_;have HB:=n1_;have HO134:=n2_;clear n0_ n1_ n2_;clear ho hb hg hat))
        go_roundg k1
        case measure=>have:=HK1.out;omega
        case rel=>exact ⟨(y132),(wrap64 (x6_1 + 1)),(by first|rfl|(simp;done)|(simp [*];done)),H',⟨by have:=HK1.out;omega⟩,⟨by (with_reducible repeat (first|apply Kd.R_alloc|apply Kd.R_drewN|apply Kd.R_drew));exact HO_4.out⟩,⟨by (with_reducible repeat (first|apply Kd.R_alloc|apply Kd.R_drewN|apply Kd.R_drew));exact HO134.out⟩,⟨zhb⟩⟩
       ·rw [if_neg c11] at H
        exact absurd H (by simp)
      ·replace c10:=Bool.eq_false_iff.mpr c10
       subst c10
       have H1:(some (([]:List Int),false))=some (r1,r2):=by rw [if_neg (show ¬ (false=true) by decide)] at H;exact H
       clear H
       have H:=H1
       clear H1
       simp only [Option.some.injEq,Prod.mk.injEq] at H
       obtain ⟨rfl,rfl⟩:=H
       obtain ⟨Ao14,co14,eo14⟩:=Kd.R_slice HO_4.out
       subst eo14
       have p129:0≤(x6_1:Int):=zod
       have q129:x6_1 < (t123.length:Int):=zod
       obtain ⟨ad129,e129,hx129_0⟩:=Kd.at_string (Kd.R_reads' HO_4.out).2.2 x6_1 p129 q129
       cases e129
       replace p129:=eq_true p129
       replace q129:=eq_true q129
       go_wp2_with (first|((with_reducible refine gate_callee (f:=57) rfl ?_);refine goesL_ (some 26) rfl rfl Tryd.func57 (by kernel_rfl) rfl #[.string (rdOf ByteArray.empty t123 x6_1)] rfl zar ?_;(with_reducible refine (spec_l12Num.calls k1 (rdOf ByteArray.empty t123 x6_1) t130 false _ A9.out).mono ?_);rintro e w' ⟨rfl,⟨nd,rfl⟩⟩;refine ⟨_,rfl,?_⟩))
       go_ret2
       exact ⟨_,by first|rfl|(simp [errW_none,errW_some] <;> rfl)|(simp [*,errW_none,errW_some] <;> rfl),by first|exact Kd.R_nil _ _ _ _ _|exact Kd.N_nil _ _ _ _ _|exact Kd.V_nil _ _ _ _ _|exact Kd.Q_nil _ _ _ _ _|exact Kd.S_nil _ _ _ _ _,zhb⟩
     ·rw [if_neg c8] at H
      exact absurd H (by simp)
    ·rw [if_neg c7] at H
     have c7b0:decide (x6_1 < (t123.length:Int))=false:=decide_eq_false c7
     clear c7
     replace H:=Option.bind_eq_some_iff.mp H
     obtain ⟨t135,A150,H⟩:=H
     (try dsimp only at H)
     have A15:=Aside0.mk A150
     clear A150
     by_cases c16:t135=true
     ·subst c16
      have H1:(some (x5_1,true))=some (r1,r2):=by rw [if_pos rfl] at H;exact H
      clear H
      have H:=H1
      clear H1
      simp only [Option.some.injEq,Prod.mk.injEq] at H
      obtain ⟨rfl,rfl⟩:=H
      obtain ⟨Ao17,co17,eo17⟩:=Kd.R_slice HO_4.out
      subst eo17
      obtain ⟨Ao18,co18,eo18⟩:=Kd.R_slice HO_5.out
      subst eo18
      go_wp2_with (first|((with_reducible refine gate_callee (f:=33) rfl ?_);refine goesL_ (some 36) rfl rfl Tryd.func33 (by kernel_rfl) rfl #[.slice Ao18 x5_1.length co18] rfl zar ?_;(with_reducible refine (spec_RowOk.calls k1 _ _ x5_1 true _ ?side1 ?side2 A15.out).mono ?_);(case side1=>repeat (first|exact (Kd.R_reads' HO_5.out).2.2|(with_reducible refine Kd.C_alloc ?_ _)|(with_reducible refine Kd.C_drewN ?_ _)|(with_reducible refine Kd.C_drew ?_)));(case side2=>exact (Kd.R_reads' HO_5.out).2.1);rintro e w' ⟨rfl,⟨nd,rfl⟩⟩;refine ⟨_,rfl,?_⟩))
      go_ret2
      exact ⟨_,by first|rfl|(simp [errW_none,errW_some] <;> rfl)|(simp [*,errW_none,errW_some] <;> rfl),by (with_reducible repeat (first|apply Kd.R_alloc|apply Kd.R_drewN|apply Kd.R_drew));exact HO_5.out,zhb⟩
     ·replace c16:=Bool.eq_false_iff.mpr c16
      subst c16
      have H1:(some (([]:List Int),false))=some (r1,r2):=by rw [if_neg (show ¬ (false=true) by decide)] at H;exact H
      clear H
      have H:=H1
      clear H1
      simp only [Option.some.injEq,Prod.mk.injEq] at H
      obtain ⟨rfl,rfl⟩:=H
      obtain ⟨Ao19,co19,eo19⟩:=Kd.R_slice HO_4.out
      subst eo19
      obtain ⟨Ao20,co20,eo20⟩:=Kd.R_slice HO_5.out
      subst eo20
      go_wp2_with (first|((with_reducible refine gate_callee (f:=33) rfl ?_);refine goesL_ (some 36) rfl rfl Tryd.func33 (by kernel_rfl) rfl #[.slice Ao20 x5_1.length co20] rfl zar ?_;(with_reducible refine (spec_RowOk.calls k1 _ _ x5_1 false _ ?side1 ?side2 A15.out).mono ?_);(case side1=>repeat (first|exact (Kd.R_reads' HO_5.out).2.2|(with_reducible refine Kd.C_alloc ?_ _)|(with_reducible refine Kd.C_drewN ?_ _)|(with_reducible refine Kd.C_drew ?_)));(case side2=>exact (Kd.R_reads' HO_5.out).2.1);rintro e w' ⟨rfl,⟨nd,rfl⟩⟩;refine ⟨_,rfl,?_⟩))
      go_ret2
      exact ⟨_,by first|rfl|(simp [errW_none,errW_some] <;> rfl)|(simp [*,errW_none,errW_some] <;> rfl),by first|exact Kd.R_nil _ _ _ _ _|exact Kd.N_nil _ _ _ _ _|exact Kd.V_nil _ _ _ _ _|exact Kd.Q_nil _ _ _ _ _|exact Kd.S_nil _ _ _ _ _,zhb⟩

-- NOT PRINTED: function 88 (slices_IndexFunc_int_int)

-- NOT PRINTED: function 60 (slices_ContainsFunc_int_int)

/-! ### impl_isCell: function 62 -/
def impl_isCell.f (a0:Int):Option (Bool):=if a0 ≥ (-1000000000) then (some (decide (a0≤1000000000))) else (some false)
set_option maxHeartbeats 8000000 in
set_option maxRecDepth 100000 in
theorem impl_isCell.calls (a0:Int) (r:Bool) (w:World) (h:impl_isCell.f a0=some r) :
  Calls Tryd.prog 62 #[.int .i64 a0] w fun e w'=>e=.returned (.bool r)∧Drawn0 w w':=by
 have H:(if a0 ≥ (-1000000000) then (some (decide (a0≤1000000000))) else (some false))=some r:=h
 clear h
 by_cases c2:a0 ≥ (-1000000000)
 ·rw [if_pos c2] at H
  have c2b0:decide ((-1000000000)≤a0)=true:=decide_eq_true c2
  clear c2
  obtain rfl:=Option.some.inj H
  go_enter Tryd.func62,Tryd.ntmps62
  go_wp2
  go_ret
  exact ⟨by first|rfl|(simp;done)|(simp [*];done),zdw⟩
 ·rw [if_neg c2] at H
  have c2b0:decide ((-1000000000)≤a0)=false:=decide_eq_false c2
  clear c2
  obtain rfl:=Option.some.inj H
  go_enter Tryd.func62,Tryd.ntmps62
  go_wp2
  go_ret
  exact ⟨by first|rfl|(simp;done)|(simp [*];done),zdw⟩

/-! ### impl_RowOk_1: function 61 -/
def impl_RowOk_1.f (a0:Int):Option (Bool):=(impl_isCell.f a0).bind fun t136=>(some (!t136))
set_option maxHeartbeats 8000000 in
set_option maxRecDepth 100000 in
theorem impl_RowOk_1.calls (a0:Int) (r:Bool) (w:World) (h:impl_RowOk_1.f a0=some r) :
  Calls Tryd.prog 61 #[.int .i64 a0] w fun e w'=>e=.returned (.bool r)∧Drawn0 w w':=by
 have H:((impl_isCell.f a0).bind fun t136=>(some (!t136)))=some r:=h
 clear h
 replace H:=Option.bind_eq_some_iff.mp H
 obtain ⟨t136,A20,H⟩:=H
 (try dsimp only at H)
 have A2:=Aside0.mk A20
 clear A20
 obtain rfl:=Option.some.inj H
 go_enter Tryd.func61,Tryd.ntmps61
 go_wp2_with (first|((with_reducible refine gate_callee (f:=62) rfl ?_);refine goesL_ (some 4) rfl rfl Tryd.func62 (by kernel_rfl) rfl #[.int .i64 a0] rfl zar ?_;(with_reducible refine (impl_isCell.calls a0 t136 _ A2.out).mono ?_);rintro e w' ⟨rfl,⟨nd,rfl⟩⟩;refine ⟨_,rfl,?_⟩))
 go_ret
 exact ⟨by first|rfl|(simp;done)|(simp [*];done),zdw⟩

/-! ### slices_IndexFunc_int_int__impl_RowOk_1: function 88 -/
def slices_IndexFunc_int_int__impl_RowOk_1.l0:Nat→List Int→Int→Int→Option (Int)
 | 0,_,_,_=>none
 | k + 1,x0,x7,x8=>if x8 < x7 then (if 0≤x8 then (if x8 < (x0.length:Int) then ((impl_RowOk_1.f (rd x0 x8)).bind fun t138=>(if t138=true then (some x8) else (slices_IndexFunc_int_int__impl_RowOk_1.l0 k x0 x7 (wrap64 (x8 + 1))))) else (none)) else (none)) else (some (-1))
def slices_IndexFunc_int_int__impl_RowOk_1.f (k:Nat) (l0:List Int) :Option (Int):=slices_IndexFunc_int_int__impl_RowOk_1.l0 k l0 (l0.length:Int) 0
theorem slices_IndexFunc_int_int__impl_RowOk_1.mono_l : ∀ k,(∀ y0 y1 y2,LeO (slices_IndexFunc_int_int__impl_RowOk_1.l0 k y0 y1 y2) (slices_IndexFunc_int_int__impl_RowOk_1.l0 (k + 1) y0 y1 y2))
 | 0=>fun _ _ _ r h=>by simp [slices_IndexFunc_int_int__impl_RowOk_1.l0] at h
 | k + 1=>by
  have ih0:=slices_IndexFunc_int_int__impl_RowOk_1.mono_l k
  ·intro y0 y1 y2
   unfold slices_IndexFunc_int_int__impl_RowOk_1.l0
   repeat' first
   | (with_reducible exact ih0 _ _ _)
   | (with_reducible exact LeO.refl _)
   | (with_reducible exact LeO.none _)
   | (with_reducible refine LeO.ite ?_ ?_)
   | (with_reducible refine LeO.bind ?_ (fun _=>?_))
   | exact LeO.none _
   | refine LeO.ite ?_ ?_
   | refine LeO.bind ?_ (fun _=>?_)
theorem slices_IndexFunc_int_int__impl_RowOk_1.mono : ∀ a0 k,LeO (slices_IndexFunc_int_int__impl_RowOk_1.f k a0) (slices_IndexFunc_int_int__impl_RowOk_1.f (k + 1) a0):=by
 intro a0 k
 have ih0:=slices_IndexFunc_int_int__impl_RowOk_1.mono_l k
 unfold slices_IndexFunc_int_int__impl_RowOk_1.f
 repeat' first
   | (with_reducible exact ih0 _ _ _)
   | (with_reducible exact LeO.refl _)
   | (with_reducible exact LeO.none _)
   | (with_reducible refine LeO.ite ?_ ?_)
   | (with_reducible refine LeO.bind ?_ (fun _=>?_))
   | exact LeO.none _
   | refine LeO.ite ?_ ?_
   | refine LeO.bind ?_ (fun _=>?_)
set_option maxHeartbeats 8000000 in
set_option maxRecDepth 100000 in
theorem slices_IndexFunc_int_int__impl_RowOk_1.calls (k:Nat) (A0:Option Addr) (c0:Nat) (l0:List Int)  (r:Int) (w:World) (hr0:Kd.C (Kd.int .i64) w A0 l0.length l0) (hc0:l0.length≤c0) (h:slices_IndexFunc_int_int__impl_RowOk_1.f k l0=some r) :
  Calls Tryd.prog 88 #[.slice A0 l0.length c0,.func (.func 61) #[] #[]] w fun e w'=>e=.returned (.int .i64 r)∧Drawn0 w w':=by
 have HR0:=Aside0.mk hr0
 have HC0:=Aside0.mk hc0
 clear hr0 hc0
 have H:(slices_IndexFunc_int_int__impl_RowOk_1.l0 k l0 (l0.length:Int) 0)=some r:=h
 clear h
 have H':=Aside0.mk H
 clear H
 go_enter Tryd.func88,Tryd.ntmps88
 go_wp2
 go_loopg [8] k (fun kq v8 w'=>∃ (x8_1:Int),v8=.int .i64 x8_1∧Aside0 (slices_IndexFunc_int_int__impl_RowOk_1.l0 kq l0 (l0.length:Int) x8_1=some r)∧Aside0 (kq≤k)∧Drawn0 w w')
 case atStart=>exact ⟨(0),(by first|rfl|(simp;done)|(simp [*];done)),H',⟨Nat.le_refl _⟩,zdw⟩
 case round =>
  clear H'
  try clear p2
  obtain ⟨x8_1,rfl,HA,HK1,⟨m1,rfl⟩⟩:=hrel
  cases gk with
  | zero=>exact absurd HA.out (by simp [slices_IndexFunc_int_int__impl_RowOk_1.l0])
  | succ k1 =>
   have H:=HA.out
   clear HA
   simp only [slices_IndexFunc_int_int__impl_RowOk_1.l0] at H
   by_cases c3:x8_1 < (l0.length:Int)
   ·rw [if_pos c3] at H
    have c3b0:decide (x8_1 < (l0.length:Int))=true:=decide_eq_true c3
    clear c3
    by_cases c4:0≤x8_1
    ·rw [if_pos c4] at H
     have c4b0:decide (0≤x8_1)=true:=decide_eq_true c4
     clear c4
     by_cases c5:x8_1 < (l0.length:Int)
     ·rw [if_pos c5] at H
      have c5b0:decide (x8_1 < (l0.length:Int))=true:=decide_eq_true c5
      clear c5
      replace H:=Option.bind_eq_some_iff.mp H
      obtain ⟨t138,A60,H⟩:=H
      (try dsimp only at H)
      have A6:=Aside0.mk A60
      clear A60
      by_cases c7:t138=true
      ·subst c7
       have H1:(some x8_1)=some r:=by rw [if_pos rfl] at H;exact H
       clear H
       have H:=H1
       clear H1
       obtain rfl:=Option.some.inj H
       have p137:0≤(x8_1:Int):=zod
       have q137:x8_1 < (l0.length:Int):=zod
       obtain ⟨ad137,e137,hx137_0⟩:=Kd.at_int HR0.out x8_1 p137 q137
       cases e137
       replace p137:=eq_true p137
       replace q137:=eq_true q137
       go_wp2_with (first|(go_at_call 61;(with_reducible refine (impl_RowOk_1.calls (rd l0 x8_1) true _ A6.out).mono ?_);rintro e w' ⟨rfl,⟨nd,rfl⟩⟩))
       go_ret
       exact ⟨by first|rfl|(simp;done)|(simp [*];done),zdw⟩
      ·replace c7:=Bool.eq_false_iff.mpr c7
       subst c7
       have H1:(slices_IndexFunc_int_int__impl_RowOk_1.l0 k1 l0 (l0.length:Int) (wrap64 (x8_1 + 1)))=some r:=by rw [if_neg (show ¬ (false=true) by decide)] at H;exact H
       clear H
       have H:=H1
       clear H1
       have H':=Aside0.mk H
       clear H
       have p137:0≤(x8_1:Int):=zod
       have q137:x8_1 < (l0.length:Int):=zod
       obtain ⟨ad137,e137,hx137_0⟩:=Kd.at_int HR0.out x8_1 p137 q137
       cases e137
       replace p137:=eq_true p137
       replace q137:=eq_true q137
       go_wp2_with (first|(go_at_call 61;(with_reducible refine (impl_RowOk_1.calls (rd l0 x8_1) false _ A6.out).mono ?_);rintro e w' ⟨rfl,⟨nd,rfl⟩⟩))
       go_roundg k1
       case measure=>have:=HK1.out;omega
       case rel=>exact ⟨(wrap64 (x8_1 + 1)),(by first|rfl|(simp;done)|(simp [*];done)),H',⟨by have:=HK1.out;omega⟩,zdw⟩
     ·rw [if_neg c5] at H
      exact absurd H (by simp)
    ·rw [if_neg c4] at H
     exact absurd H (by simp)
   ·rw [if_neg c3] at H
    have c3b0:decide (x8_1 < (l0.length:Int))=false:=decide_eq_false c3
    clear c3
    obtain rfl:=Option.some.inj H
    go_wp2
    go_ret
    exact ⟨by first|rfl|(simp;done)|(simp [*];done),zdw⟩

/-! ### slices_ContainsFunc_int_int__impl_RowOk_1: function 60 -/
def slices_ContainsFunc_int_int__impl_RowOk_1.f (k:Nat) (l0:List Int) :Option (Bool):=(slices_IndexFunc_int_int__impl_RowOk_1.f k l0).bind fun t139=>(some (decide (t139 ≥ 0)))
theorem slices_ContainsFunc_int_int__impl_RowOk_1.mono : ∀ a0 k,LeO (slices_ContainsFunc_int_int__impl_RowOk_1.f k a0) (slices_ContainsFunc_int_int__impl_RowOk_1.f (k + 1) a0):=by
 intro a0 k
 unfold slices_ContainsFunc_int_int__impl_RowOk_1.f
 repeat' first
   | (with_reducible exact slices_IndexFunc_int_int__impl_RowOk_1.mono _ _)
   | (with_reducible exact LeO.refl _)
   | (with_reducible exact LeO.none _)
   | (with_reducible refine LeO.ite ?_ ?_)
   | (with_reducible refine LeO.bind ?_ (fun _=>?_))
   | exact LeO.none _
   | refine LeO.ite ?_ ?_
   | refine LeO.bind ?_ (fun _=>?_)
set_option maxHeartbeats 8000000 in
set_option maxRecDepth 100000 in
theorem slices_ContainsFunc_int_int__impl_RowOk_1.calls (k:Nat) (A0:Option Addr) (c0:Nat) (l0:List Int)  (r:Bool) (w:World) (hr0:Kd.C (Kd.int .i64) w A0 l0.length l0) (hc0:l0.length≤c0) (h:slices_ContainsFunc_int_int__impl_RowOk_1.f k l0=some r) :
  Calls Tryd.prog 60 #[.slice A0 l0.length c0,.func (.func 61) #[] #[]] w fun e w'=>e=.returned (.bool r)∧Drawn0 w w':=by
 have HR0:=Aside0.mk hr0
 have HC0:=Aside0.mk hc0
 clear hr0 hc0
 have H:((slices_IndexFunc_int_int__impl_RowOk_1.f k l0).bind fun t139=>(some (decide (t139 ≥ 0))))=some r:=h
 clear h
 replace H:=Option.bind_eq_some_iff.mp H
 obtain ⟨t139,A30,H⟩:=H
 (try dsimp only at H)
 have A3:=Aside0.mk A30
 clear A30
 obtain rfl:=Option.some.inj H
 go_enter Tryd.func60,Tryd.ntmps60
 go_wp2_with (first|(go_at_call 88;(with_reducible refine (slices_IndexFunc_int_int__impl_RowOk_1.calls k _ _ l0  t139 _ ?side1 ?side2 A3.out).mono ?_);(case side1=>exact zC HR0.out);(case side2=>exact HC0.out);rintro e w' ⟨rfl,⟨nd,rfl⟩⟩))
 go_ret
 exact ⟨by first|rfl|(simp;done)|(simp [*];done),zdw⟩

/-! ### impl_RowOk: function 32 -/
def impl_RowOk.f (k:Nat) (l0:List Int):Option (Bool):=if (l0.length:Int) ≥ 1 then (if (l0.length:Int)≤6 then ((slices_ContainsFunc_int_int__impl_RowOk_1.f k l0).bind fun t140=>(some (!t140))) else (some false)) else (some false)
theorem impl_RowOk.mono : ∀ a0 k,LeO (impl_RowOk.f k a0) (impl_RowOk.f (k + 1) a0):=by
 intro a0 k
 unfold impl_RowOk.f
 repeat' first
   | (with_reducible exact slices_ContainsFunc_int_int__impl_RowOk_1.mono _ _)
   | (with_reducible exact LeO.refl _)
   | (with_reducible exact LeO.none _)
   | (with_reducible refine LeO.ite ?_ ?_)
   | (with_reducible refine LeO.bind ?_ (fun _=>?_))
   | exact LeO.none _
   | refine LeO.ite ?_ ?_
   | refine LeO.bind ?_ (fun _=>?_)
set_option maxHeartbeats 8000000 in
set_option maxRecDepth 100000 in
theorem impl_RowOk.calls (k:Nat) (A0:Option Addr) (c0:Nat) (l0:List Int) (r:Bool) (w:World) (hr0:Kd.C (Kd.int .i64) w A0 l0.length l0) (hc0:l0.length≤c0) (h:impl_RowOk.f k l0=some r) :
  Calls Tryd.prog 32 #[.slice A0 l0.length c0] w fun e w'=>e=.returned (.bool r)∧Drawn0 w w':=by
 have HR0:=Aside0.mk hr0
 have HC0:=Aside0.mk hc0
 clear hr0 hc0
 have H:(if (l0.length:Int) ≥ 1 then (if (l0.length:Int)≤6 then ((slices_ContainsFunc_int_int__impl_RowOk_1.f k l0).bind fun t140=>(some (!t140))) else (some false)) else (some false))=some r:=h
 clear h
 by_cases c2:(l0.length:Int) ≥ 1
 ·rw [if_pos c2] at H
  have c2b0:decide (1≤(l0.length:Int))=true:=decide_eq_true c2
  have c2b1:decide (1≤l0.length)=true:=decide_eq_true (by omega)
  clear c2
  by_cases c3:(l0.length:Int)≤6
  ·rw [if_pos c3] at H
   have c3b0:decide ((l0.length:Int)≤6)=true:=decide_eq_true c3
   have c3b1:decide (l0.length≤6)=true:=decide_eq_true (by omega)
   clear c3
   replace H:=Option.bind_eq_some_iff.mp H
   obtain ⟨t140,A40,H⟩:=H
   (try dsimp only at H)
   have A4:=Aside0.mk A40
   clear A40
   obtain rfl:=Option.some.inj H
   go_enter Tryd.func32,Tryd.ntmps32
   go_wp2_with (first|(go_at_call 60;(with_reducible refine (slices_ContainsFunc_int_int__impl_RowOk_1.calls k _ _ l0  t140 _ ?side1 ?side2 A4.out).mono ?_);(case side1=>exact zC HR0.out);(case side2=>exact HC0.out);rintro e w' ⟨rfl,⟨nd,rfl⟩⟩))
   go_ret
   exact ⟨by first|rfl|(simp;done)|(simp [*];done),zdw⟩
  ·rw [if_neg c3] at H
   have c3b0:decide ((l0.length:Int)≤6)=false:=decide_eq_false c3
   have c3b1:decide (l0.length≤6)=false:=decide_eq_false (by omega)
   clear c3
   obtain rfl:=Option.some.inj H
   go_enter Tryd.func32,Tryd.ntmps32
   go_wp2
   go_ret
   exact ⟨by first|rfl|(simp;done)|(simp [*];done),zdw⟩
 ·rw [if_neg c2] at H
  have c2b0:decide (1≤(l0.length:Int))=false:=decide_eq_false c2
  have c2b1:decide (1≤l0.length)=false:=decide_eq_false (by omega)
  clear c2
  obtain rfl:=Option.some.inj H
  go_enter Tryd.func32,Tryd.ntmps32
  go_wp2
  go_ret
  exact ⟨by first|rfl|(simp;done)|(simp [*];done),zdw⟩

/-! ### impl_RowRead: function 28 (by hand) -/
/-- the cells of a text: what stands between its commas, read as numbers; none, if one is no number -/
def goB:List UInt8→List Int→List UInt8→Option (List Int)
 | _,rs,[]=>some rs
 | cur,rs,c :: l=>if c=44 then (match Lib.atoiAll cur with | .ok v=>goB [] (rs ++ [v]) l | _=>none) else goB (cur ++ [c]) rs l
theorem goB_skip : ∀ (m l:List UInt8) (cur:List UInt8) (rs:List Int),(∀ c ∈ m,c≠44)→goB cur rs (m ++ l)=goB (cur ++ m) rs l:=by
 intro m
 induction m with
 | nil=>intro l cur rs _;simp
 | cons c m ih =>
  intro l cur rs h
  rw [List.cons_append,goB,if_neg (h c List.mem_cons_self),ih _ _ _ (fun x hx=>h x (List.mem_cons_of_mem _ hx)),List.append_assoc]
  rfl
/-- a rune that is no ASCII byte passes over no comma -/
theorem decode_skip (s:ByteArray) (pos:Nat) (h:pos < s.size) (ha:128≤(s.get! pos).toNat):1≤(Utf8.decode s pos).2∧pos + (Utf8.decode s pos).2≤s.size∧128≤(Utf8.decode s pos).1∧∀ k,k < (Utf8.decode s pos).2→128≤(s.get! (pos + k)).toNat:=by
 rw [Lib.decode_at]
 unfold Lib.decodeN
 rw [if_neg (by omega)]
 repeat' split
 all_goals refine ⟨by simp only;omega,by simp only;omega,by simp only;omega,?_⟩
 all_goals intro k hk
 all_goals simp only at hk
 all_goals rcases k with _|_|_|_|k
 all_goals first|exact ha|(exfalso;omega)|(show 128≤(s.get! (pos + 1)).toNat;omega)|(show 128≤(s.get! (pos + 2)).toNat;omega)|(show 128≤(s.get! (pos + 3)).toNat;omega)

def impl_RowRead.f (k:Nat) (a0:ByteArray):Option (List Int × Bool) :=
 if a0.size > 100 then some ([],false) else
  match goB [] [] (a0.data.toList ++ [44]) with
  | none=>some ([],false)
  | some rs=>(impl_RowOk.f k rs).bind fun b=>if b=true then ((impl_RowText.f rs).bind fun t=>if t=a0 then some (rs,true) else some ([],false)) else some ([],false)
theorem impl_RowRead.mono : ∀ a0 k,LeO (impl_RowRead.f k a0) (impl_RowRead.f (k + 1) a0):=by
 intro a0 k
 unfold impl_RowRead.f
 refine LeO.ite (LeO.refl _) ?_
 cases goB [] [] (a0.data.toList ++ [44]) with
 | none=>exact LeO.refl _
 | some rs=>exact LeO.bind (impl_RowOk.mono _ _) (fun _=>LeO.refl _)
theorem bytes_ne {a b:ByteArray} (h:a≠b):(a.toList == b.toList)=false:=by
 rw [beq_eq_false_iff_ne]
 intro e
 rw [Lib.toList_data,Lib.toList_data] at e
 exact h (ByteArray.ext (Array.toList_inj.1 e))
theorem take_more (l:List UInt8) (f p n:Nat) (h:f≤p):(l.drop f).take (p + n - f)=(l.drop f).take (p - f) ++ (l.drop p).take n:=by
 rw [show p + n - f=(p - f) + n by omega,List.take_add,List.drop_drop,show f + (p - f)=p by omega]
/-- a rune that is no comma is passed over -/
theorem step_other (S:ByteArray) (pos f:Nat) (rs:List Int) (h:pos < S.size) (hf:f≤pos) (h44:(Utf8.decode S pos).1≠44):pos + (Utf8.decode S pos).2≤S.size∧1≤(Utf8.decode S pos).2 ∧
  goB ((S.data.toList.drop f).take (pos + (Utf8.decode S pos).2 - f)) rs (S.data.toList.drop (pos + (Utf8.decode S pos).2))=goB ((S.data.toList.drop f).take (pos - f)) rs (S.data.toList.drop pos):=by
 have hl:S.data.toList.length=S.size:=Array.length_toList
 have hget : ∀ k,pos + k < S.size→∀ c,S.data.toList[pos + k]?=some c→c=S.get! (pos + k):=by
  intro k hk c hc
  rw [List.getElem?_eq_getElem (by omega)] at hc
  rw [← Option.some.inj hc]
  show _=S.data[pos + k]!
  rw [getElem!_pos S.data (pos + k) (by exact hk)]
  exact Array.getElem_toList ..
 have key:1≤(Utf8.decode S pos).2∧pos + (Utf8.decode S pos).2≤S.size∧∀ k,k < (Utf8.decode S pos).2→S.get! (pos + k)≠44:=by
  by_cases ha:(S.get! pos).toNat < 128
  ·have e:S[pos]'h=S.get! pos:=(get_at S pos h).symm
   have hd:=decode_ascii S pos h (by rw [e];exact ha)
   rw [hd]
   refine ⟨Nat.le_refl _,h,fun k hk=>?_⟩
   have hk0:k=0:=by simp only at hk;omega
   subst hk0
   intro e44
   rw [hd] at h44
   apply h44
   show (S[pos]'h).toNat=44
   rw [e]
   have:S.get! pos=44:=e44
   rw [this]
   rfl
  ·obtain ⟨h1,h2,h3,h4⟩:=decode_skip S pos h (by omega)
   refine ⟨h1,h2,fun k hk e44=>?_⟩
   have:=h4 k hk
   rw [e44] at this
   exact absurd this (by decide)
 refine ⟨key.2.1,key.1,?_⟩
 rw [take_more _ f pos _ hf,show S.data.toList.drop pos=(S.data.toList.drop pos).take (Utf8.decode S pos).2 ++ S.data.toList.drop (pos + (Utf8.decode S pos).2) by rw [← List.drop_drop,List.take_append_drop]]
 rw [goB_skip]
 ·rw [List.take_append_of_le_length (by rw [List.length_take,List.length_drop];omega),List.take_take,Nat.min_self]
 ·intro c hc
  obtain ⟨k,hk⟩:=List.getElem?_of_mem hc
  have hk':k < (Utf8.decode S pos).2:=by
   have:=(List.getElem?_eq_some_iff.1 hk).1
   rw [List.length_take] at this
   omega
  rw [List.getElem?_take_of_lt hk',List.getElem?_drop] at hk
  rw [hget k (by omega) c hk]
  exact key.2.2 k hk'
theorem step_comma (a0 S:ByteArray) (hS:S.data.toList=a0.data.toList ++ [44]) (pos f:Nat) (h:pos < S.size) (hf:f≤pos) (hp:pos≤a0.size) (h44:(Utf8.decode S pos).1=44) :
  (Utf8.decode S pos).2=1∧(a0.extract f pos).data.toList=(S.data.toList.drop f).take (pos - f)∧S.data.toList.drop pos=44 :: S.data.toList.drop (pos + 1):=by
 have hl:a0.data.toList.length=a0.size:=Array.length_toList
 have hb:(S.get! pos).toNat < 128:=by
  by_cases ha:(S.get! pos).toNat < 128
  ·exact ha
  ·have:=(decode_skip S pos h (by omega)).2.2.1
   omega
 have e:S[pos]'h=S.get! pos:=(get_at S pos h).symm
 have hd:=decode_ascii S pos h (by rw [e];exact hb)
 refine ⟨by rw [hd],?_,?_⟩
 ·rw [hS,List.drop_append_of_le_length (by omega),List.take_append_of_le_length (by rw [List.length_drop];omega)]
  simp [ByteArray.data_extract]
 ·have hsl:pos < S.data.toList.length:=by rw [Array.length_toList];exact h
  rw [List.drop_eq_getElem_cons hsl]
  congr 1
  have:(S[pos]'h).toNat=44:=by rw [hd] at h44;exact h44
  have e2:S.data.toList[pos]=S[pos]'h:=Array.getElem_toList ..
  rw [e2]
  exact UInt8.toNat_inj.1 this
theorem infoInt:(Tryd.prog.info? 3).map (fun i=>(i.zero,i.size,i.bytes))=some (some (.int .i64 0),1,8):=by kernel_rfl
theorem below_iter {w W:World} (hb:Below w.heap.size w W) (s:ByteArray) (p:Nat):Below w.heap.size w (W.iterAt w.heap.size s p):=Lib.below_iterAt hb (k:=w.heap.size) (Nat.le_refl _) s p
theorem own_iter {W:World} {n:Nat} {e:TypeId} {v:Value} {m:Nat} {xs:List Value} (h:W.ownsRow (n + 1) e 1 v m xs) (s:ByteArray) (p:Nat):(W.iterAt n s p).ownsRow (n + 1) e 1 v m xs :=
 own_move h (fun k hk=>Lib.iterAt_other W n k s p (by have:=(h.lt k hk).1;omega))
set_option maxHeartbeats 8000000 in
set_option maxRecDepth 100000 in
theorem impl_RowRead.calls (k:Nat) (a0:ByteArray) (r1:List Int) (r2:Bool) (w:World) (h:impl_RowRead.f k a0=some (r1,r2)) (hT:TxtW w:=by exact TxtW.on HT0.out zhb) :
  Calls Tryd.prog 28 #[.string a0] w fun e w'=>∃ v0_:Value,e=.returned (.tuple #[v0_,.bool r2])∧Kd.R (Kd.int .i64) 3 w' w.heap.size (fun _=>True) v0_ r1∧Below w.heap.size w w':=by
 have HT:=Aside0.mk hT
 clear hT
 unfold impl_RowRead.f at h
 by_cases h0:a0.size > 100
 ·rw [if_pos h0] at h
  injection h with h
  injection h with e1 e2
  subst e1 e2
  have c0:decide (100 < (a0.size:Int))=true:=decide_eq_true (by omega)
  clear h0
  go_enter Tryd.func28,Tryd.ntmps28
  go_wp2
  go_step3
  go_wp2
  rw [Exit.noGoto_ret]
  go_ret2
  exact ⟨_,rfl,Kd.R_nil _ _ _ _ _,Below.refl _ _⟩
 rw [if_neg h0] at h
 have HF:=Aside0.mk h
 clear h
 have c0:decide (100 < (a0.size:Int))=false:=decide_eq_false (by omega)
 have hcat:a0.size + 1≤9223372036854775807:=by omega
 obtain ⟨S,hS⟩ : ∃ S,S=a0 ++ (⟨#[44]⟩:ByteArray):=⟨_,rfl⟩
 have hSz:S.size=a0.size + 1:=by rw [hS,ByteArray.size_append];rfl
 have HS:=Aside0.mk hS
 have HSZ:=Aside0.mk hSz
 have HSD:=Aside0.mk (show S.data.toList=a0.data.toList ++ [44] by rw [hS,ByteArray.data_append,Array.toList_append])
 have HA:=Aside0.mk (show a0.size≤100 by omega)
 have hS':=hS.symm
 obtain ⟨i0,hi,hz0,hz1,hz2⟩:=info_parts infoInt
 clear hS hSz h0
 go_enter Tryd.func28,Tryd.ntmps28
 go_wp2
 go_step3
 go_wp2
 go_step3
 go_wp2
 go_loopw [4,5] (fun v f wr=>∃ (pos from_:Nat) (rs:List Int),pos≤S.size∧from_≤pos∧f=.int .i64 from_∧wr.heap[w.heap.size]?=some (.stringIter S pos)∧wr.ownsRow (w.heap.size + 1) 3 1 v rs.length (encs (Value.int .i64) rs)∧Below w.heap.size w wr∧rs.length≤from_∧goB ((S.data.toList.drop from_).take (pos - from_)) rs (S.data.toList.drop pos)=goB [] [] S.data.toList)
  (fun _ _ wr=>S.size - wr.iterPos w.heap.size)
 case atStart =>
  refine ⟨0,0,[],Nat.zero_le _,Nat.le_refl _,rfl,?_,World.ownsRow_nil _ _ _ _,?_,Nat.le_refl _,?_⟩
  ·rw [HS.out];exact World.iter_heap w _ 0
  ·exact (Below.refl _ w).alloc (Nat.le_refl _) _
  ·simp
 case round =>
  obtain ⟨pos,from_,rs,hp,hfp,rfl,hit,hown,hnx,hrl,hgo⟩:=hrel
  have HIT:=Aside0.mk hit
  have HOW:=Aside0.mk hown
  have HNX:=Aside0.mk hnx
  have HGO:=Aside0.mk hgo
  have HRL:=Aside0.mk hrl
  have HFP:=Aside0.mk hfp
  have HSI:=Aside0.mk (show w.heap.size < wr.heap.size from (Array.getElem?_eq_some_iff.1 hit).1)
  clear hit hown hnx hgo hrl hfp
  by_cases hlt:pos < S.size
  case neg =>
   have hnext : ∀ ty,(Instr.next (.pointer (some ⟨w.heap.size,0,none⟩)) true ty).run Tryd.prog wr=_:=fun ty=>Lib.run_next_end_at wr w.heap.size S pos ty HIT.out hlt
   have HG:=Aside0.mk (show goB [] [] (a0.data.toList ++ [44])=some rs by
    rw [← HSD.out,← HGO.out,show S.data.toList.drop pos = [] from List.drop_of_length_le (by rw [Array.length_toList];show S.size≤pos;omega),goB])
   have h:=HF.out
   rw [HG.out] at h
   replace h:=Option.bind_eq_some_iff.mp h
   obtain ⟨b,h_,h⟩:=h
   have A1:=Aside0.mk h_
   have HR:=Aside0.mk (Kd.R_of_own (h1:=fun _=>rfl) (ok:=fun _=>True) HOW.out (fun _ _=>trivial))
   obtain ⟨a4,c4,rfl⟩:=Kd.R_slice HR.out
   have HX:=Aside0.mk (Kd.R_reads' HR.out).2.2
   have HP:=Aside0.mk (Kd.R_reads' HR.out).2.1
   clear h_ HF hlt hp
   cases b with
   | false =>
    rw [if_neg (by decide)] at h
    injection h with h
    injection h with e1 e2
    subst e1 e2
    go_wp2_with fail
    refine (impl_RowOk.calls k _ _ rs false _ HX.out HP.out A1.out).mono ?_
    rintro e w1 ⟨rfl,hd⟩
    have hb:Below wr.heap.size wr w1:=by obtain ⟨n,rfl⟩:=hd;exact pw_below_drewN (Below.refl _ _) n
    have HB1:=Aside0.mk (HNX.out.trans (hb.mono HNX.out.size))
    clear hb hd
    go_wp2
    rw [Exit.noGoto_ret]
    go_ret2
    exact ⟨_,rfl,Kd.R_nil _ _ _ _ _,HB1.out⟩
   | true =>
   rw [if_pos rfl] at h
   replace h:=Option.bind_eq_some_iff.mp h
   obtain ⟨t,h_,h⟩:=h
   have A2:=Aside0.mk h_
   have HH:=Aside0.mk h
   clear h_ h
   go_wp2_with fail
   refine (impl_RowOk.calls k _ _ rs true _ HX.out HP.out A1.out).mono ?_
   rintro e w1 ⟨rfl,hd⟩
   have hb:Below wr.heap.size wr w1:=by obtain ⟨n,rfl⟩:=hd;exact pw_below_drewN (Below.refl _ _) n
   have HB1:=Aside0.mk (HNX.out.trans (hb.mono HNX.out.size))
   have HBq:=Aside0.mk hb
   clear hb hd
   go_wp2_with fail
   refine (impl_RowText.calls _ _ rs t _ (Kd.C_below HX.out HBq.out) HP.out A2.out (Lib.tabBelow_of_tabIs HT.out.1 _ HB1.out)).mono ?_
   rintro e w2 ⟨rfl,hb⟩
   have HB2:=Aside0.mk (HB1.out.trans (hb.mono HB1.out.size))
   have HBr:=Aside0.mk (below_step HBq.out hb)
   clear hb
   have h:=HH.out
   clear HH
   by_cases ht:t=a0
   ·subst ht
    rw [if_pos rfl] at h
    injection h with h
    injection h with e1 e2
    subst e1 e2
    go_wp2
    rw [Exit.noGoto_ret]
    go_ret2
    exact ⟨_,rfl,Kd.R_lower (Kd.R_below HR.out HBr.out) (Nat.le_succ _),HB2.out⟩
   ·rw [if_neg ht] at h
    injection h with h
    injection h with e1 e2
    subst e1 e2
    have ht0:=bytes_ne ht
    go_wp2
    rw [Exit.noGoto_ret]
    go_ret2
    exact ⟨_,rfl,Kd.R_nil _ _ _ _ _,HB2.out⟩
  have hnext : ∀ ty,(Instr.next (.pointer (some ⟨w.heap.size,0,none⟩)) true ty).run Tryd.prog wr=_:=fun ty=>Lib.run_next_any_at wr w.heap.size S pos ty HIT.out hlt
  by_cases h44:(Utf8.decode S pos).1=44
  case neg =>
   have i44b : ¬ ((Utf8.decode S pos).1:Int)=44:=by omega
   have HNI:=Aside0.mk (below_iter HNX.out S (pos + (Utf8.decode S pos).2))
   have HOI:=Aside0.mk (own_iter HOW.out S (pos + (Utf8.decode S pos).2))
   have HII:=Aside0.mk (Lib.iterAt_heap wr w.heap.size S pos (pos + (Utf8.decode S pos).2) HIT.out)
   have HST:=Aside0.mk (step_other S pos from_ rs hlt HFP.out h44)
   clear h44
   go_wp2_with fail
   go_roundw
   case rel =>
    exact ⟨pos + (Utf8.decode S pos).2,from_,rs,HST.out.1,by have:=HFP.out;omega,rfl,HII.out,HOI.out,HNI.out,HRL.out,HST.out.2.2.trans HGO.out⟩
   case measure =>
    simp only [World.iterPos,HII.out,HIT.out]
    have:=HST.out.2.1
    omega
  have i44b:((Utf8.decode S pos).1:Int)=44:=by omega
  have i44c:IntKind.i32.wrap 44=44:=rfl
  have hpa:pos≤a0.size:=by have:=HSZ.out;omega
  have hfp2:=HFP.out
  have HSC:=Aside0.mk (step_comma a0 S HSD.out pos from_ hlt hfp2 hpa h44)
  have hw1:=HSC.out.1
  rw [hw1] at hnext
  have HNI:=Aside0.mk (below_iter HNX.out S (pos + 1))
  have HOI:=Aside0.mk (own_iter HOW.out S (pos + 1))
  have HII:=Aside0.mk (Lib.iterAt_heap wr w.heap.size S pos (pos + 1) HIT.out)
  have HZI:=Aside0.mk (show w.heap.size + 1≤(wr.iterAt w.heap.size S (pos + 1)).heap.size by rw [Lib.iterAt_size];exact HSI.out)
  have HIP:=Aside0.mk (show wr.iterPos w.heap.size=pos by simp only [World.iterPos,HIT.out])
  have HLT:=Aside0.mk hlt
  have HG2:=Aside0.mk (show goB [] [] S.data.toList=(match Lib.atoiAll (a0.extract from_ pos).data.toList with | .ok v=>goB [] (rs ++ [v]) (S.data.toList.drop (pos + 1))|_=>none) by
   rw [← HGO.out,HSC.out.2.2,HSC.out.2.1,goB,if_pos rfl])
  have HEX:=Aside0.mk (show (a0.extract from_ pos).size≤100 by
   show (a0.extract from_ pos).data.size≤100
   rw [← Array.length_toList,HSC.out.2.1,List.length_take]
   have:=HA.out
   omega)
  obtain ⟨W1,hW1⟩ : ∃ W1,W1=wr.iterAt w.heap.size S (pos + 1):=⟨_,rfl⟩
  rw [← hW1] at hnext
  rw [← hW1] at HNI HOI HII HZI
  clear hW1 hw1 h44 hlt
  have hret : ∀ (z:Lib.NumEnd Int),Lib.atoiAll (a0.extract from_ pos).data.toList=z→(∀ v,z≠.ok v)→r1 = []∧r2=false:=by
   intro z hz hn
   have h1:=HF.out
   have h2:=HG2.out
   rw [HSD.out,hz] at h2
   rw [h2] at h1
   cases z with
   | ok v=>exact absurd rfl (hn v)
   | range=>simp at h1;exact ⟨h1.1,h1.2⟩
   | _=>simp at h1;exact ⟨h1.1,h1.2⟩
  have HRT:=Aside0.mk hret
  clear hret
  cases hat:Lib.atoiAll (a0.extract from_ pos).data.toList with
  | ok v =>
   have HAT:=Aside0.mk hat
   clear hat
   go_wp2_with (go_at_call 40;refine (Tryd.strconv_Atoi_ok _ (by have:=HEX.out;omega) v HAT.out W1).mono ?_;rintro e W2 ⟨rfl,hw⟩;refine Hid.out ?_)
   refine Lib.hid ?_
   have hb:Below W1.heap.size W1 W2:=by
    rcases hw with rfl|⟨t,rfl⟩
    ·exact Below.refl _ _
    ·exact Lib.bytesWorld_below W1 _ t
   have HB1:=Aside0.mk hb
   have HNW:=Aside0.mk (HNI.out.trans (hb.mono HNI.out.size))
   have HOJ:=Aside0.mk (own_move HOI.out (fun k hk=>hb.block k (by
    obtain ⟨cells,hc⟩:=own_typed HOI.out k hk
    exact (Array.getElem?_eq_some_iff.1 hc).1)))
   have HIJ:=Aside0.mk ((hb.block _ (by have:=HZI.out;omega)).trans HII.out)
   have HZJ:=Aside0.mk (Nat.le_trans HZI.out hb.size)
   have HLN:=Aside0.mk (show rs.length≤100 by have:=HRL.out;have:=HFP.out;have:=HA.out;omega)
   have HWR:=Aside0.mk (show wrap64 ((pos:Int) + 1)=((pos + 1:Nat):Int) by have:=HA.out;unfold wrap64;omega)
   clear hw hb hfp2
   go_wp2_with (at_builtin;refine wpList_append_own _ rfl _ _ 28 rfl (w.heap.size + 1) 3 i0 (.int .i64 0) 1 8 Tryd.underlying28 hi hz0 hz1 hz2 rfl (by decide) _ _ _ rfl (HOJ.out.alloc _) ⟨W2.heap.size,0,none⟩ 1 1 [Value.int .i64 v] rfl rfl (by intro j u' hj;match j,hj with|0,hj=>simp at hj;subst hj;simp [Addr.add]) (by intro u' hu';simp at hu';subst hu';rfl) (by have:=HLN.out;unfold maxLen;omega) (by have:=HLN.out;omega) (by have:=HZJ.out;simp;omega) ?_)
   intro v3 w3 hown3 hgrow _
   have hnx3:Below w.heap.size w w3:=(HNW.out.alloc (by have:=HZJ.out;omega) _).grown hgrow (by have:=HZJ.out;simp;omega) (fun k_ hk_=>Nat.le_trans (Nat.le_succ _) (HOJ.out.lt k_ hk_).1)
   have hit3:w3.heap[w.heap.size]?=some (.stringIter S (pos + 1)):=by
    have h1:Below (w.heap.size + 1) W2 w3:=((Below.refl (w.heap.size + 1) W2).alloc HZJ.out _).grown hgrow (by have:=HZJ.out;simp;omega) (fun k_ hk_=>(HOJ.out.lt k_ hk_).1)
    exact (h1.block _ (Nat.lt_succ_self _)).trans HIJ.out
   have HOW3:=Aside0.mk hown3
   have HNX3:=Aside0.mk hnx3
   have HIT3:=Aside0.mk hit3
   clear hown3 hgrow hnx3 hit3
   go_wp2
   go_roundw
   case rel =>
    refine ⟨pos + 1,pos + 1,rs ++ [v],HLT.out,Nat.le_refl _,by first|rfl|simp,HIT3.out,?_,HNX3.out,?_,?_⟩
    ·have:=HOW3.out
     simpa [encs] using this
    ·have:=HRL.out;have:=HFP.out;rw [List.length_append,List.length_singleton];omega
    ·rw [Nat.sub_self,List.take_zero,HG2.out,HAT.out]
   case measure =>
    simp only [World.iterPos,HIT3.out]
    have:=HLT.out
    have h2:=HIP.out
    simp only [World.iterPos] at h2
    rw [h2]
    omega
  | range =>
   obtain ⟨rfl,rfl⟩:=HRT.out _ hat (fun v=>by intro h;cases h)
   have HAT:=Aside0.mk hat
   clear hat
   obtain ⟨tp,p,hv⟩:=(HT.out.on HNI.out).2.2
   have HV:=Aside0.mk hv
   clear hv
   go_wp2_with (go_at_call 40;refine (Tryd.strconv_Atoi_range_var _ (by have:=HEX.out;omega) HAT.out tp p W1 HV.out).mono ?_;rintro e W2 ⟨N,rfl,-,-,hb⟩;have HB2:=Aside0.mk (HNI.out.trans (hb.mono HNI.out.size));clear hb)
   rw [Exit.noGoto_ret]
   go_ret2
   exact ⟨_,rfl,Kd.R_nil _ _ _ _ _,HB2.out⟩
  | _ =>
   obtain ⟨rfl,rfl⟩:=HRT.out _ hat (fun v=>by intro h;cases h)
   have HAT:=Aside0.mk hat
   clear hat
   obtain ⟨tp,p,hv⟩:=(HT.out.on HNI.out).2.1
   have HV:=Aside0.mk hv
   clear hv
   go_wp2_with (go_at_call 40;refine (Tryd.strconv_Atoi_syntax_var _ (by have:=HEX.out;omega) HAT.out tp p W1 HV.out).mono ?_;rintro e W2 ⟨N,rfl,-,-,hb⟩;have HB2:=Aside0.mk (HNI.out.trans (hb.mono HNI.out.size));clear hb)
   rw [Exit.noGoto_ret]
   go_ret2
   exact ⟨_,rfl,Kd.R_nil _ _ _ _ _,HB2.out⟩

end Go.Proofs.YtgcplipimcbhlaaDoor.PFnRow
