-- Written by wip/tools/pp.py, a program of this session over the kit's printer: not the kit's own print
import Derived.Test.YtgcplipimcbhlaaGreatDoorPFnZTextx0
import Derived.Test.YtgcplipimcbhlaaGreatDoorPFnZTextx1
import Derived.Test.YtgcplipimcbhlaaGreatDoorPFnZTextx6
import Derived.Test.YtgcplipimcbhlaaGreatDoorPFnZTextx7
import Derived.Test.YtgcplipimcbhlaaGreatDoorPFnZTextx12
import Derived.Test.YtgcplipimcbhlaaGreatDoorPFnZTextx13
namespace Go.Proofs.YtgcplipimcbhlaaGreatDoor.PFnZText
open Go.RowKit Go.Proofs.YtgcplipimcbhlaaGreatDoorW.PrintWords Go.Proofs.YtgcplipimcbhlaaGreatDoorW.PrintLast Go.Proofs.YtgcplipimcbhlaaGreatDoorW.PrintMore
attribute [local go_sem] max2_int min2_int max_two min_two max_three min_three max_four min_four   -- for this text's walks alone
set_option linter.unusedVariables false
set_option linter.unusedSimpArgs false

/-! ### spec_RowRead: function 69 -/
def spec_RowRead.l0:Nat→List ByteArray→List Int→Int→Option (List Int × Bool)
 | 0,_,_,_=>none
 | k + 1,x4,x5,x6=>if x6 < (x4.length:Int) then (if 0≤x6 then ((spec_l12Num.f k (rdOf ByteArray.empty x4 x6)).bind fun bt308=>(if bt308.2=true then (if x5.length < 17592186044416 then (spec_RowRead.l0 k x4 (x5 ++ [bt308.1]) (wrap64 (x6 + 1))) else (none)) else (some (([]:List Int),false)))) else (none)) else ((spec_RowOk.f k x5).bind fun t313=>(if t313=true then (some (x5,true)) else (some (([]:List Int),false))))
def spec_RowRead.f (k:Nat) (a0:ByteArray):Option (List Int × Bool):=if (a0.size:Int) > 100 then (some (([]:List Int),false)) else ((spec_l12Cut.f k a0 44).bind fun t301=>(spec_RowRead.l0 k t301 (([]:List Int)) 0))
theorem spec_RowRead.mono_l : ∀ k,(∀ y0 y1 y2,LeO (spec_RowRead.l0 k y0 y1 y2) (spec_RowRead.l0 (k + 1) y0 y1 y2))
 | 0=>fun _ _ _ r h=>by simp [spec_RowRead.l0] at h
 | k + 1=>by
  have ih0:=spec_RowRead.mono_l k
  ·intro y0 y1 y2
   unfold spec_RowRead.l0
   repeat' first
   | (with_reducible exact ih0 _ _ _)
   | (with_reducible exact spec_RowOk.mono _ _)
   | (with_reducible exact spec_l12Cut.mono _ _ _)
   | (with_reducible exact spec_l12Num.mono _ _)
   | (with_reducible exact LeO.refl _)
   | (with_reducible exact LeO.none _)
   | (with_reducible refine LeO.ite ?_ ?_)
   | (with_reducible refine LeO.bind ?_ (fun _=>?_))
   | exact LeO.none _
   | refine LeO.ite ?_ ?_
   | refine LeO.bind ?_ (fun _=>?_)
theorem spec_RowRead.mono : ∀ a0 k,LeO (spec_RowRead.f k a0) (spec_RowRead.f (k + 1) a0):=by
 intro a0 k
 have ih0:=spec_RowRead.mono_l k
 unfold spec_RowRead.f
 repeat' first
   | (with_reducible exact ih0 _ _ _)
   | (with_reducible exact spec_RowOk.mono _ _)
   | (with_reducible exact spec_l12Cut.mono _ _ _)
   | (with_reducible exact spec_l12Num.mono _ _)
   | (with_reducible exact LeO.refl _)
   | (with_reducible exact LeO.none _)
   | (with_reducible refine LeO.ite ?_ ?_)
   | (with_reducible refine LeO.bind ?_ (fun _=>?_))
   | exact LeO.none _
   | refine LeO.ite ?_ ?_
   | refine LeO.bind ?_ (fun _=>?_)
set_option maxHeartbeats 8000000 in
set_option maxRecDepth 100000 in
theorem spec_RowRead.calls (k:Nat) (a0:ByteArray) (r1:List Int) (r2:Bool) (w:World) (h:spec_RowRead.f k a0=some (r1,r2)) :
  Calls Tryz.prog 69 #[.string a0] w fun e w'=>∃ v0_:Value,e=.returned (.tuple #[v0_,.bool r2])∧Kd.R (Kd.int .i64) 3 w' w.heap.size (fun _=>True) v0_ r1∧Below w.heap.size w w':=by
 have HB:=Aside0.mk (Below.refl w.heap.size w)
 have H:(if (a0.size:Int) > 100 then (some (([]:List Int),false)) else ((spec_l12Cut.f k a0 44).bind fun t301=>(spec_RowRead.l0 k t301 (([]:List Int)) 0)))=some (r1,r2):=h
 clear h
 by_cases c2:(a0.size:Int) > 100
 ·rw [if_pos c2] at H
  have c2b0:decide (100 < (a0.size:Int))=true:=decide_eq_true c2
  have c2b1:decide (100 < a0.size)=true:=decide_eq_true (by omega)
  clear c2
  simp only [Option.some.injEq,Prod.mk.injEq] at H
  obtain ⟨rfl,rfl⟩:=H
  go_enter Tryz.func69,Tryz.ntmps69
  go_wp2
  go_ret2
  exact ⟨_,by first|rfl|(simp [errW_none,errW_some] <;> rfl)|(simp [*,errW_none,errW_some] <;> rfl),by first|exact Kd.R_nil _ _ _ _ _|exact Kd.N_nil _ _ _ _ _|exact Kd.V_nil _ _ _ _ _|exact Kd.Q_nil _ _ _ _ _|exact Kd.S_nil _ _ _ _ _,zhb⟩
 ·rw [if_neg c2] at H
  have c2b0:decide (100 < (a0.size:Int))=false:=decide_eq_false c2
  have c2b1:decide (100 < a0.size)=false:=decide_eq_false (by omega)
  clear c2
  replace H:=Option.bind_eq_some_iff.mp H
  obtain ⟨t301,A30,H⟩:=H
  (try dsimp only at H)
  have A3:=Aside0.mk A30
  clear A30
  obtain ⟨y304,hy304⟩ : ∃ y_:List Int,y_=(([]:List Int)):=⟨_,rfl⟩
  replace H:(spec_RowRead.l0 k t301 y304 0)=some (r1,r2):=by first|(rw [hy304];with_reducible exact H)|(have H2_:=(Option.bind_some _ _).symm.trans H;rw [hy304];with_reducible exact H2_)|(have H2_:=(Option.bind_some _ _).symm.trans H;with_reducible exact H2_)|with_reducible exact H|(rw [hy304];exact H)|exact H
  have Ny304:=Aside0.mk hy304
  clear hy304
  have H':=Aside0.mk H
  clear H
  go_enter Tryz.func69,Tryz.ntmps69
  go_wp2_with (first|((with_reducible refine gate_callee (f:=41) rfl ?_);refine goesL_ (some 13) rfl rfl Tryz.func41 (by kernel_rfl) rfl #[.string a0,.int .u8 44] rfl zar ?_;(with_reducible refine (spec_l12Cut.calls k a0 44 t301 _ A3.out).mono ?_);rintro e w4 ⟨v302,rfl,ho0,hb⟩;refine ⟨_,rfl,?_⟩;have n0_:=Aside0.mk (Kd.R_lower ho0 (below_size zhb));have n1_:=Aside0.mk (below_step zhb hb);clear HB;have HO303:=n0_;have HB:=n1_;clear n0_ n1_;(try clear hb);(try clear hb2);(try clear hk);(try clear hi);(try clear ho0))|((with_reducible refine gate_dst (N:=14) rfl ?_);refine Kd.R_lit (Kd.int .i64) _ 3 ?hg (N:=14) ?hd (xs:=([]:List Int)) (inner:=[]) (ok:=fun _=>True) (okp:=fun _=>True) ?hr ?hp (fun _ hk=>hk) trivial (Below.refl _ _) (Nat.le_refl _) (by simp) ?_;(case hd=>rfl);(case hg=>rfl);(case hr=>first|(go_simp;done)|(go_simp;rfl));(case hp=>exact (Reps.none _ _));intro v305 w5 ho6 hb hg_ hnew_;clear hg_ hnew_;(first|rw [← Ny304.out] at ho6|(simp only [Int.reduceToNat] at ho6;rw [← Ny304.out] at ho6));have n0_:=Aside0.mk (Kd.R_below (by (with_reducible repeat (first|apply Kd.R_alloc|apply Kd.R_drewN|apply Kd.R_drew));exact HO303.out) hb);have n1_:=Aside0.mk (Kd.R_lower ho6 (below_size zhb));have n2_:=Aside0.mk (below_step zhb hb);clear HO303;clear HB;have HO303:=n0_;have HO306:=n1_;have HB:=n2_;clear n0_ n1_ n2_;clear hb ho6))
  go_loopg [5,6] k (fun kq v5 v6 w'=>∃ (x5_1:List Int) (x6_1:Int),v6=.int .i64 x6_1∧Aside0 (spec_RowRead.l0 kq t301 x5_1 x6_1=some (r1,r2))∧Aside0 (kq≤k)∧Aside0 (Kd.R Kd.string 9 w' w.heap.size (fun _=>True) v302 t301)∧Aside0 (Kd.R (Kd.int .i64) 3 w' w.heap.size (fun _=>True) v5 x5_1)∧Aside0 (Below w.heap.size w w'))
  case atStart=>exact ⟨(y304),(0),(by first|rfl|(simp;done)|(simp [*];done)),H',⟨Nat.le_refl _⟩,⟨by (with_reducible repeat (first|apply Kd.R_alloc|apply Kd.R_drewN|apply Kd.R_drew));exact HO303.out⟩,⟨by (with_reducible repeat (first|apply Kd.R_alloc|apply Kd.R_drewN|apply Kd.R_drew));exact HO306.out⟩,⟨zhb⟩⟩
  case round =>
   clear H'
   try clear c2
   try clear c2b0
   try clear c2b1
   try clear p2
   try clear c4
   try clear c6
   obtain ⟨x5_1,x6_1,rfl,HA,HK1,HO_4,HO_5,HB⟩:=hrel
   cases gk with
   | zero=>exact absurd HA.out (by simp [spec_RowRead.l0])
   | succ k1 =>
    have H:=HA.out
    clear HA
    simp only [spec_RowRead.l0] at H
    by_cases c7:x6_1 < (t301.length:Int)
    ·rw [if_pos c7] at H
     have c7b0:decide (x6_1 < (t301.length:Int))=true:=decide_eq_true c7
     clear c7
     by_cases c8:0≤x6_1
     ·rw [if_pos c8] at H
      have c8b0:decide (0≤x6_1)=true:=decide_eq_true c8
      clear c8
      replace H:=Option.bind_eq_some_iff.mp H
      obtain ⟨⟨t308,t309⟩,A90,H⟩:=H
      (try dsimp only at H)
      have A9:=Aside0.mk A90
      clear A90
      by_cases c10:t309=true
      ·subst c10
       have H1:(if x5_1.length < 17592186044416 then (spec_RowRead.l0 k1 t301 (x5_1 ++ [t308]) (wrap64 (x6_1 + 1))) else (none))=some (r1,r2):=by rw [if_pos rfl] at H;exact H
       clear H
       have H:=H1
       clear H1
       by_cases c11:x5_1.length < 17592186044416
       ·rw [if_pos c11] at H
        have LMc11:=Aside0.mk c11
        clear c11
        obtain ⟨y310,hy310⟩ : ∃ y_:List Int,y_=(x5_1 ++ [t308]):=⟨_,rfl⟩
        replace H:(spec_RowRead.l0 k1 t301 y310 (wrap64 (x6_1 + 1)))=some (r1,r2):=by first|(rw [hy310];with_reducible exact H)|(have H2_:=(Option.bind_some _ _).symm.trans H;rw [hy310];with_reducible exact H2_)|(have H2_:=(Option.bind_some _ _).symm.trans H;with_reducible exact H2_)|with_reducible exact H|(rw [hy310];exact H)|exact H
        have Ny310:=Aside0.mk hy310
        clear hy310
        have H':=Aside0.mk H
        clear H
        obtain ⟨Ao12,co12,eo12⟩:=Kd.R_slice HO_4.out
        subst eo12
        have p307:0≤(x6_1:Int):=zod
        have q307:x6_1 < (t301.length:Int):=zod
        obtain ⟨ad307,e307,hx307_0⟩:=Kd.at_string (Kd.R_reads' HO_4.out).2.2 x6_1 p307 q307
        cases e307
        replace p307:=eq_true p307
        replace q307:=eq_true q307
        go_wp2_with (first|((with_reducible refine gate_callee (f:=70) rfl ?_);refine goesL_ (some 26) rfl rfl Tryz.func70 (by kernel_rfl) rfl #[.string (rdOf ByteArray.empty t301 x6_1)] rfl zar ?_;(with_reducible refine (spec_l12Num.calls k1 (rdOf ByteArray.empty t301 x6_1) t308 true _ A9.out).mono ?_);rintro e w' ⟨rfl,⟨nd,rfl⟩⟩;refine ⟨_,rfl,?_⟩)|((with_reducible refine gate_builtin (b:=.append) (xs:=#[.tmp 31,.tmp 33]) rfl ?_);at_builtin;refine Kd.R_append (Kd.int .i64) (w0:=w) w.heap.size rfl (.tmp 31) (.tmp 33) 31 3 (.int .i64 0) 8 rfl Tryz.underlying31 info3 rfl (by decide) (by omega) u5 x5_1 t308 [.int .i64 t308] (fun _=>True) (fun _=>False) rfl rfl ?aP (fun _ hk=>hk.elim) ?aF ?aO ?aB ?aS ?aL ?_;(case aP=>exact rfl);(case aB=>exact zhb);(case aF=>exact (fun _ _=>trivial));(case aO=>exact (by (with_reducible repeat (first|apply Kd.R_alloc|apply Kd.R_drewN|apply Kd.R_drew));exact HO_5.out));(case aS=>exact (below_size zhb));(case aL=>have:=LMc11.out;omega);intro v311 w13 ho hb hg hat;rw [← Ny310.out] at ho;have n0_:=Aside0.mk (Kd.R_over' (by (with_reducible repeat (first|apply Kd.R_alloc|apply Kd.R_drewN|apply Kd.R_drew));exact HO_4.out) (Kd.R_typed (by (with_reducible repeat (first|apply Kd.R_alloc|apply Kd.R_drewN|apply Kd.R_drew));exact HO_5.out)) (by decide) hg);have n1_:=Aside0.mk (hb);have n2_:=Aside0.mk (ho);clear HO_4;clear HB;clear HO_5;have HO_4:=n0_;have HB:=n1_;have HO312:=n2_;clear n0_ n1_ n2_;clear ho hb hg hat))
        go_roundg k1
        case measure=>have:=HK1.out;omega
        case rel=>exact ⟨(y310),(wrap64 (x6_1 + 1)),(by first|rfl|(simp;done)|(simp [*];done)),H',⟨by have:=HK1.out;omega⟩,⟨by (with_reducible repeat (first|apply Kd.R_alloc|apply Kd.R_drewN|apply Kd.R_drew));exact HO_4.out⟩,⟨by (with_reducible repeat (first|apply Kd.R_alloc|apply Kd.R_drewN|apply Kd.R_drew));exact HO312.out⟩,⟨zhb⟩⟩
       ·rw [if_neg c11] at H
        exact absurd H (by simp)
      ·replace c10:=Bool.eq_false_iff.mpr c10
       subst c10
       have H1:(some (([]:List Int),false))=some (r1,r2):=by rw [if_neg (show ¬ (false=true) by decide)] at H;exact H
       clear H
       have H:=H1
       clear H1
       simp only [Option.some.injEq,Prod.mk.injEq] at H
       obtain ⟨rfl,rfl⟩:=H
       obtain ⟨Ao14,co14,eo14⟩:=Kd.R_slice HO_4.out
       subst eo14
       have p307:0≤(x6_1:Int):=zod
       have q307:x6_1 < (t301.length:Int):=zod
       obtain ⟨ad307,e307,hx307_0⟩:=Kd.at_string (Kd.R_reads' HO_4.out).2.2 x6_1 p307 q307
       cases e307
       replace p307:=eq_true p307
       replace q307:=eq_true q307
       go_wp2_with (first|((with_reducible refine gate_callee (f:=70) rfl ?_);refine goesL_ (some 26) rfl rfl Tryz.func70 (by kernel_rfl) rfl #[.string (rdOf ByteArray.empty t301 x6_1)] rfl zar ?_;(with_reducible refine (spec_l12Num.calls k1 (rdOf ByteArray.empty t301 x6_1) t308 false _ A9.out).mono ?_);rintro e w' ⟨rfl,⟨nd,rfl⟩⟩;refine ⟨_,rfl,?_⟩))
       go_ret2
       exact ⟨_,by first|rfl|(simp [errW_none,errW_some] <;> rfl)|(simp [*,errW_none,errW_some] <;> rfl),by first|exact Kd.R_nil _ _ _ _ _|exact Kd.N_nil _ _ _ _ _|exact Kd.V_nil _ _ _ _ _|exact Kd.Q_nil _ _ _ _ _|exact Kd.S_nil _ _ _ _ _,zhb⟩
     ·rw [if_neg c8] at H
      exact absurd H (by simp)
    ·rw [if_neg c7] at H
     have c7b0:decide (x6_1 < (t301.length:Int))=false:=decide_eq_false c7
     clear c7
     replace H:=Option.bind_eq_some_iff.mp H
     obtain ⟨t313,A150,H⟩:=H
     (try dsimp only at H)
     have A15:=Aside0.mk A150
     clear A150
     by_cases c16:t313=true
     ·subst c16
      have H1:(some (x5_1,true))=some (r1,r2):=by rw [if_pos rfl] at H;exact H
      clear H
      have H:=H1
      clear H1
      simp only [Option.some.injEq,Prod.mk.injEq] at H
      obtain ⟨rfl,rfl⟩:=H
      obtain ⟨Ao17,co17,eo17⟩:=Kd.R_slice HO_4.out
      subst eo17
      obtain ⟨Ao18,co18,eo18⟩:=Kd.R_slice HO_5.out
      subst eo18
      go_wp2_with (first|((with_reducible refine gate_callee (f:=21) rfl ?_);refine goesL_ (some 36) rfl rfl Tryz.func21 (by kernel_rfl) rfl #[.slice Ao18 x5_1.length co18] rfl zar ?_;(with_reducible refine (spec_RowOk.calls k1 _ _ x5_1 true _ ?side1 ?side2 A15.out).mono ?_);(case side1=>repeat (first|exact (Kd.R_reads' HO_5.out).2.2|(with_reducible refine Kd.C_alloc ?_ _)|(with_reducible refine Kd.C_drewN ?_ _)|(with_reducible refine Kd.C_drew ?_)));(case side2=>exact (Kd.R_reads' HO_5.out).2.1);rintro e w' ⟨rfl,⟨nd,rfl⟩⟩;refine ⟨_,rfl,?_⟩))
      go_ret2
      exact ⟨_,by first|rfl|(simp [errW_none,errW_some] <;> rfl)|(simp [*,errW_none,errW_some] <;> rfl),by (with_reducible repeat (first|apply Kd.R_alloc|apply Kd.R_drewN|apply Kd.R_drew));exact HO_5.out,zhb⟩
     ·replace c16:=Bool.eq_false_iff.mpr c16
      subst c16
      have H1:(some (([]:List Int),false))=some (r1,r2):=by rw [if_neg (show ¬ (false=true) by decide)] at H;exact H
      clear H
      have H:=H1
      clear H1
      simp only [Option.some.injEq,Prod.mk.injEq] at H
      obtain ⟨rfl,rfl⟩:=H
      obtain ⟨Ao19,co19,eo19⟩:=Kd.R_slice HO_4.out
      subst eo19
      obtain ⟨Ao20,co20,eo20⟩:=Kd.R_slice HO_5.out
      subst eo20
      go_wp2_with (first|((with_reducible refine gate_callee (f:=21) rfl ?_);refine goesL_ (some 36) rfl rfl Tryz.func21 (by kernel_rfl) rfl #[.slice Ao20 x5_1.length co20] rfl zar ?_;(with_reducible refine (spec_RowOk.calls k1 _ _ x5_1 false _ ?side1 ?side2 A15.out).mono ?_);(case side1=>repeat (first|exact (Kd.R_reads' HO_5.out).2.2|(with_reducible refine Kd.C_alloc ?_ _)|(with_reducible refine Kd.C_drewN ?_ _)|(with_reducible refine Kd.C_drew ?_)));(case side2=>exact (Kd.R_reads' HO_5.out).2.1);rintro e w' ⟨rfl,⟨nd,rfl⟩⟩;refine ⟨_,rfl,?_⟩))
      go_ret2
      exact ⟨_,by first|rfl|(simp [errW_none,errW_some] <;> rfl)|(simp [*,errW_none,errW_some] <;> rfl),by first|exact Kd.R_nil _ _ _ _ _|exact Kd.N_nil _ _ _ _ _|exact Kd.V_nil _ _ _ _ _|exact Kd.Q_nil _ _ _ _ _|exact Kd.S_nil _ _ _ _ _,zhb⟩

/-! ### spec_l2One: function 42 -/
def spec_l2One.f (k:Nat) (a0:ByteArray):Option (List Int × Int × Bool):=(spec_l12Find.f k a0 42).bind fun t315=>(if t315 < 0 then (some (([]:List Int),0,false)) else (if 0≤t315 then (if t315≤(a0.size:Int) then ((spec_RowRead.f k (a0.extract 0 (t315:Int).toNat)).bind fun bt316=>(if 0≤(wrap64 (t315 + 1)) then (if (wrap64 (t315 + 1))≤(a0.size:Int) then ((spec_l12Num.f k (a0.extract ((wrap64 (t315 + 1)):Int).toNat a0.size)).bind fun bt320=>(if bt316.2=true then (some (bt316.1,bt320.1,bt320.2)) else (some (bt316.1,bt320.1,false)))) else (none)) else (none))) else (none)) else (none)))
theorem spec_l2One.mono : ∀ a0 k,LeO (spec_l2One.f k a0) (spec_l2One.f (k + 1) a0):=by
 intro a0 k
 unfold spec_l2One.f
 repeat' first
   | (with_reducible exact spec_RowRead.mono _ _)
   | (with_reducible exact spec_l12Find.mono _ _ _)
   | (with_reducible exact spec_l12Num.mono _ _)
   | (with_reducible exact LeO.refl _)
   | (with_reducible exact LeO.none _)
   | (with_reducible refine LeO.ite ?_ ?_)
   | (with_reducible refine LeO.bind ?_ (fun _=>?_))
   | exact LeO.none _
   | refine LeO.ite ?_ ?_
   | refine LeO.bind ?_ (fun _=>?_)
set_option maxHeartbeats 8000000 in
set_option maxRecDepth 100000 in
theorem spec_l2One.calls (k:Nat) (a0:ByteArray) (r1:List Int) (r2:Int) (r3:Bool) (w:World) (h:spec_l2One.f k a0=some (r1,r2,r3)) :
  Calls Tryz.prog 42 #[.string a0] w fun e w'=>∃ v0_:Value,e=.returned (.tuple #[.agg #[v0_,.int .i64 r2],.bool r3])∧Kd.R (Kd.int .i64) 3 w' w.heap.size (fun _=>True) v0_ r1∧Below w.heap.size w w':=by
 have hu33:=Tryz.underlying33
 have HB:=Aside0.mk (Below.refl w.heap.size w)
 have H:((spec_l12Find.f k a0 42).bind fun t315=>(if t315 < 0 then (some (([]:List Int),0,false)) else (if 0≤t315 then (if t315≤(a0.size:Int) then ((spec_RowRead.f k (a0.extract 0 (t315:Int).toNat)).bind fun bt316=>(if 0≤(wrap64 (t315 + 1)) then (if (wrap64 (t315 + 1))≤(a0.size:Int) then ((spec_l12Num.f k (a0.extract ((wrap64 (t315 + 1)):Int).toNat a0.size)).bind fun bt320=>(if bt316.2=true then (some (bt316.1,bt320.1,bt320.2)) else (some (bt316.1,bt320.1,false)))) else (none)) else (none))) else (none)) else (none))))=some (r1,r2,r3):=h
 clear h
 replace H:=Option.bind_eq_some_iff.mp H
 obtain ⟨t315,A20,H⟩:=H
 (try dsimp only at H)
 have A2:=Aside0.mk A20
 clear A20
 by_cases c3:t315 < 0
 ·rw [if_pos c3] at H
  have c3b0:decide (t315 < 0)=true:=decide_eq_true c3
  clear c3
  simp only [Option.some.injEq,Prod.mk.injEq] at H
  obtain ⟨rfl,rfl,rfl⟩:=H
  go_enter Tryz.func42,Tryz.ntmps42
  go_wp2_with (first|((with_reducible refine gate_dst (N:=2) rfl ?_);refine box_event ?hg (N:=2) ?hd (cs:=#[.slice none 0 0,.int .i64 0]) (t:=33) ?hr ?_;(case hd=>rfl);(case hg=>rfl);(case hr=>first|(go_simp;done)|(go_simp;rfl));intro gb314 hg w4 hbox hb;have n0_:=Aside0.mk (below_step zhb hb);have n1_:=Aside0.mk (hbox);have n2_:=Aside0.mk ((by rw [hg];exact (below_size zhb):w.heap.size≤gb314));have n3_:=Aside0.mk ((by rw [hg];exact (below_size zhb):w.heap.size≤gb314));clear HB;have HB:=n0_;have BK314:=n1_;have GW314:=n2_;have GE314:=n3_;clear n0_ n1_ n2_ n3_;clear hb hbox hg)|((with_reducible refine gate_callee (f:=68) rfl ?_);refine goesL_ (some 10) rfl rfl Tryz.func68 (by kernel_rfl) rfl #[.string a0,.int .u8 42] rfl zar ?_;(with_reducible refine (spec_l12Find.calls k a0 42 t315 _ A2.out).mono ?_);rintro e w' ⟨rfl,⟨nd,rfl⟩⟩;refine ⟨_,rfl,?_⟩;(try (rw [drewN_self w4];generalize hq_:World.drewN w4 _=w4;have n0_:Aside0 (w4.heap[gb314]?=some (.cells #[.slice none 0 0,.int .i64 0] 33 (0,0))):=⟨by rw [← hq_];exact (by (with_reducible repeat (first|refine blk_drewN ?_ _|refine blk_drew ?_|refine blk_alloc ?_ _));exact BK314.out)⟩;have n1_:Aside0 (Below w.heap.size w w4):=⟨by rw [← hq_];exact (by repeat (first|(with_reducible first|exact HB.out|apply below_alloc|apply pw_below_drewN|apply below_drew1|refine below_set ?_ GE314.out)|exact HB.out))⟩;clear BK314 HB hq_;have BK314:=n0_;have HB:=n1_;clear n0_ n1_));have hcz5_0:w4.cell? ⟨gb314,0,none⟩=some (.slice none 0 0):=(blk_cell BK314.out 0).trans rfl;have hcz5_1:w4.cell? ⟨gb314,1,none⟩=some (.int .i64 0):=(blk_cell BK314.out 1).trans rfl;have hfz5_0:=blk_frozen BK314.out 0;have hfz5_1:=blk_frozen BK314.out 1))
  refine bodyPost_ret (results_ct rfl _ _ gb314 33 #[.slice none 0 0,.int .i64 0] (0,0) _ rfl (by (with_reducible repeat (first|refine blk_drewN ?_ _|refine blk_drew ?_|refine blk_alloc ?_ _));refine blk_put (cs:=#[.slice none 0 0,.int .i64 0]) ?_ 1 _ rfl;(with_reducible repeat (first|refine blk_drewN ?_ _|refine blk_drew ?_|refine blk_alloc ?_ _));refine blk_put (cs:=#[.slice none 0 0,.int .i64 0]) ?_ 0 _ rfl;(with_reducible repeat (first|refine blk_drewN ?_ _|refine blk_drew ?_|refine blk_alloc ?_ _));exact BK314.out) Tryz.underlying33 rfl (by kernel_rfl)) rfl ?_
  exact ⟨_,by first|rfl|(simp [errW_none,errW_some] <;> rfl)|(simp [*,errW_none,errW_some] <;> rfl),by first|exact Kd.R_nil _ _ _ _ _|exact Kd.N_nil _ _ _ _ _|exact Kd.V_nil _ _ _ _ _|exact Kd.Q_nil _ _ _ _ _|exact Kd.S_nil _ _ _ _ _,by repeat (first|(with_reducible first|exact HB.out|apply below_alloc|apply pw_below_drewN|apply below_drew1|refine below_set ?_ GE314.out)|exact HB.out)⟩
 ·rw [if_neg c3] at H
  have c3b0:decide (t315 < 0)=false:=decide_eq_false c3
  clear c3
  by_cases c6:0≤t315
  ·rw [if_pos c6] at H
   have c6b0:=eq_true c6
   have c6b1:decide (0≤t315)=true:=decide_eq_true c6
   clear c6
   by_cases c7:t315≤(a0.size:Int)
   ·rw [if_pos c7] at H
    have c7b0:=eq_true c7
    have c7b1:decide (t315≤(a0.size:Int))=true:=decide_eq_true c7
    clear c7
    replace H:=Option.bind_eq_some_iff.mp H
    obtain ⟨⟨t316,t317⟩,A80,H⟩:=H
    (try dsimp only at H)
    have A8:=Aside0.mk A80
    clear A80
    obtain ⟨ji9,hji9⟩ : ∃ j_:Int,(wrap64 (t315 + 1))=j_:=⟨_,rfl⟩
    replace H:(if 0≤(ji9) then (if (ji9)≤(a0.size:Int) then ((spec_l12Num.f k (a0.extract ((ji9):Int).toNat a0.size)).bind fun bt320=>(if t317=true then (some (t316,bt320.1,bt320.2)) else (some (t316,bt320.1,false)))) else (none)) else (none))=some (r1,r2,r3):=by first|(rw [hji9] at H;exact H)|(simp only [hji9] at H ⊢;exact H)
    (try rw [hji9] at A2)
    (try rw [hji9] at A8)
    have hji9w:(IntKind.i64.wrap (t315 + 1))=ji9:=(i64_w _).trans hji9
    by_cases c10:0≤(ji9)
    ·rw [if_pos c10] at H
     have c10b0:=eq_true c10
     have c10b1:decide (0≤(ji9))=true:=decide_eq_true c10
     clear c10
     by_cases c11:(ji9)≤(a0.size:Int)
     ·rw [if_pos c11] at H
      have c11b0:=eq_true c11
      have c11b1:decide ((ji9)≤(a0.size:Int))=true:=decide_eq_true c11
      clear c11
      replace H:=Option.bind_eq_some_iff.mp H
      obtain ⟨⟨t320,t321⟩,A120,H⟩:=H
      (try dsimp only at H)
      have A12:=Aside0.mk A120
      clear A120
      by_cases c13:t317=true
      ·subst c13
       have H1:(some (t316,t320,t321))=some (r1,r2,r3):=by rw [if_pos rfl] at H;exact H
       clear H
       have H:=H1
       clear H1
       simp only [Option.some.injEq,Prod.mk.injEq] at H
       obtain ⟨rfl,rfl,rfl⟩:=H
       go_enter Tryz.func42,Tryz.ntmps42
       go_wp2_with (first|((with_reducible refine gate_dst (N:=2) rfl ?_);refine box_event ?hg (N:=2) ?hd (cs:=#[.slice none 0 0,.int .i64 0]) (t:=33) ?hr ?_;(case hd=>rfl);(case hg=>rfl);(case hr=>first|(go_simp;done)|(go_simp;rfl));intro gb314 hg w14 hbox hb;have n0_:=Aside0.mk (below_step zhb hb);have n1_:=Aside0.mk (hbox);have n2_:=Aside0.mk ((by rw [hg];exact (below_size zhb):w.heap.size≤gb314));have n3_:=Aside0.mk ((by rw [hg];exact (below_size zhb):w.heap.size≤gb314));clear HB;have HB:=n0_;have BK314:=n1_;have GW314:=n2_;have GE314:=n3_;clear n0_ n1_ n2_ n3_;clear hb hbox hg)|((with_reducible refine gate_callee (f:=68) rfl ?_);refine goesL_ (some 10) rfl rfl Tryz.func68 (by kernel_rfl) rfl #[.string a0,.int .u8 42] rfl zar ?_;(with_reducible refine (spec_l12Find.calls k a0 42 t315 _ A2.out).mono ?_);rintro e w' ⟨rfl,⟨nd,rfl⟩⟩;refine ⟨_,rfl,?_⟩;(try (rw [drewN_self w14];generalize hq_:World.drewN w14 _=w14;have n0_:Aside0 (w14.heap[gb314]?=some (.cells #[.slice none 0 0,.int .i64 0] 33 (0,0))):=⟨by rw [← hq_];exact (by (with_reducible repeat (first|refine blk_drewN ?_ _|refine blk_drew ?_|refine blk_alloc ?_ _));exact BK314.out)⟩;have n1_:Aside0 (Below w.heap.size w w14):=⟨by rw [← hq_];exact (by repeat (first|(with_reducible first|exact HB.out|apply below_alloc|apply pw_below_drewN|apply below_drew1|refine below_set ?_ GE314.out)|exact HB.out))⟩;clear BK314 HB hq_;have BK314:=n0_;have HB:=n1_;clear n0_ n1_)))|((with_reducible refine gate_callee (f:=69) rfl ?_);refine goesL_ (some 18) rfl rfl Tryz.func69 (by kernel_rfl) rfl #[.string (a0.extract 0 (t315:Int).toNat)] rfl zar ?_;(with_reducible refine (spec_RowRead.calls k (a0.extract 0 (t315:Int).toNat) t316 true _ A8.out).mono ?_);rintro e w15 ⟨v318,rfl,ho0,hb⟩;refine ⟨_,rfl,?_⟩;have n0_:=Aside0.mk (Kd.R_lower ho0 (below_size (by repeat (first|(with_reducible first|exact HB.out|apply below_alloc|apply pw_below_drewN|apply below_drew1|refine below_set ?_ GE314.out)|exact HB.out))));have n1_:=Aside0.mk (blk_below (g:=gb314) (o:=.cells #[.slice none 0 0,.int .i64 0] 33 (0,0)) (by (with_reducible repeat (first|refine blk_drewN ?_ _|refine blk_drew ?_|refine blk_alloc ?_ _));exact BK314.out) hb);have n2_:=Aside0.mk (below_step (by repeat (first|(with_reducible first|exact HB.out|apply below_alloc|apply pw_below_drewN|apply below_drew1|refine below_set ?_ GE314.out)|exact HB.out)) hb);clear BK314;clear HB;have HO319:=n0_;have BK314:=n1_;have HB:=n2_;clear n0_ n1_ n2_;(try clear hb);(try clear hb2);(try clear hk);(try clear hi);(try clear ho0))|((with_reducible refine gate_callee (f:=70) rfl ?_);refine goesL_ (some 26) rfl rfl Tryz.func70 (by kernel_rfl) rfl #[.string (a0.extract ((ji9):Int).toNat a0.size)] rfl (by (try simp only [List.map_toArray,List.map_cons,List.map_nil]);first|done|(simp only [hji9];rfl)|rfl|(simp only [List.length_drop,List.length_take];rfl)) ?_;(with_reducible refine (spec_l12Num.calls k (a0.extract ((ji9):Int).toNat a0.size) t320 t321 _ A12.out).mono ?_);rintro e w' ⟨rfl,⟨nd,rfl⟩⟩;refine ⟨_,rfl,?_⟩;(try (rw [drewN_self w15];generalize hq_:World.drewN w15 _=w15;have n0_:Aside0 (Kd.R (Kd.int .i64) 3 w15 w.heap.size (fun _=>True) v318 t316):=⟨by rw [← hq_];exact (by (with_reducible repeat (first|apply Kd.R_alloc|apply Kd.R_drewN|apply Kd.R_drew));exact HO319.out)⟩;have n1_:Aside0 (w15.heap[gb314]?=some (.cells #[.slice none 0 0,.int .i64 0] 33 (0,0))):=⟨by rw [← hq_];exact (by (with_reducible repeat (first|refine blk_drewN ?_ _|refine blk_drew ?_|refine blk_alloc ?_ _));exact BK314.out)⟩;have n2_:Aside0 (Below w.heap.size w w15):=⟨by rw [← hq_];exact (by repeat (first|(with_reducible first|exact HB.out|apply below_alloc|apply pw_below_drewN|apply below_drew1|refine below_set ?_ GE314.out)|exact HB.out))⟩;clear HO319 BK314 HB hq_;have HO319:=n0_;have BK314:=n1_;have HB:=n2_;clear n0_ n1_ n2_));obtain ⟨Ao16,co16,eo16⟩:=Kd.R_slice HO319.out;subst eo16;have hcz17_0:w15.cell? ⟨gb314,0,none⟩=some (.slice none 0 0):=(blk_cell BK314.out 0).trans rfl;have hcz17_1:w15.cell? ⟨gb314,1,none⟩=some (.int .i64 0):=(blk_cell BK314.out 1).trans rfl;have hfz17_0:=blk_frozen BK314.out 0;have hfz17_1:=blk_frozen BK314.out 1))
       refine bodyPost_ret (results_ct rfl _ _ gb314 33 #[.slice Ao16 t316.length co16,.int .i64 t320] (0,0) _ rfl (by (with_reducible repeat (first|refine blk_drewN ?_ _|refine blk_drew ?_|refine blk_alloc ?_ _));refine blk_put (cs:=#[.slice Ao16 t316.length co16,.int .i64 0]) ?_ 1 _ rfl;(with_reducible repeat (first|refine blk_drewN ?_ _|refine blk_drew ?_|refine blk_alloc ?_ _));refine blk_put (cs:=#[.slice none 0 0,.int .i64 0]) ?_ 0 _ rfl;(with_reducible repeat (first|refine blk_drewN ?_ _|refine blk_drew ?_|refine blk_alloc ?_ _));exact BK314.out) Tryz.underlying33 rfl (by kernel_rfl)) rfl ?_
       exact ⟨_,by first|rfl|(simp [errW_none,errW_some] <;> rfl)|(simp only [← hji9];first|rfl|(simp [errW_none,errW_some] <;> rfl))|(simp [*,errW_none,errW_some] <;> rfl),by (with_reducible repeat (first|apply Kd.R_alloc|apply Kd.R_drewN|apply Kd.R_drew));exact Kd.R_mono (Kd.R_far (p:=⟨gb314,1,none⟩) (Kd.R_far (p:=⟨gb314,0,none⟩) (Kd.R_types HO319.out BK314.out (by decide)) (fun _ hk=>hk.2) (.slice Ao16 t316.length co16)) (fun _ hk=>hk.2) (.int .i64 t320)) (fun _ hk=>trivial),by repeat (first|(with_reducible first|exact HB.out|apply below_alloc|apply pw_below_drewN|apply below_drew1|refine below_set ?_ GE314.out)|exact HB.out)⟩
      ·replace c13:=Bool.eq_false_iff.mpr c13
       subst c13
       have H1:(some (t316,t320,false))=some (r1,r2,r3):=by rw [if_neg (show ¬ (false=true) by decide)] at H;exact H
       clear H
       have H:=H1
       clear H1
       simp only [Option.some.injEq,Prod.mk.injEq] at H
       obtain ⟨rfl,rfl,rfl⟩:=H
       go_enter Tryz.func42,Tryz.ntmps42
       go_wp2_with (first|((with_reducible refine gate_dst (N:=2) rfl ?_);refine box_event ?hg (N:=2) ?hd (cs:=#[.slice none 0 0,.int .i64 0]) (t:=33) ?hr ?_;(case hd=>rfl);(case hg=>rfl);(case hr=>first|(go_simp;done)|(go_simp;rfl));intro gb314 hg w18 hbox hb;have n0_:=Aside0.mk (below_step zhb hb);have n1_:=Aside0.mk (hbox);have n2_:=Aside0.mk ((by rw [hg];exact (below_size zhb):w.heap.size≤gb314));have n3_:=Aside0.mk ((by rw [hg];exact (below_size zhb):w.heap.size≤gb314));clear HB;have HB:=n0_;have BK314:=n1_;have GW314:=n2_;have GE314:=n3_;clear n0_ n1_ n2_ n3_;clear hb hbox hg)|((with_reducible refine gate_callee (f:=68) rfl ?_);refine goesL_ (some 10) rfl rfl Tryz.func68 (by kernel_rfl) rfl #[.string a0,.int .u8 42] rfl zar ?_;(with_reducible refine (spec_l12Find.calls k a0 42 t315 _ A2.out).mono ?_);rintro e w' ⟨rfl,⟨nd,rfl⟩⟩;refine ⟨_,rfl,?_⟩;(try (rw [drewN_self w18];generalize hq_:World.drewN w18 _=w18;have n0_:Aside0 (w18.heap[gb314]?=some (.cells #[.slice none 0 0,.int .i64 0] 33 (0,0))):=⟨by rw [← hq_];exact (by (with_reducible repeat (first|refine blk_drewN ?_ _|refine blk_drew ?_|refine blk_alloc ?_ _));exact BK314.out)⟩;have n1_:Aside0 (Below w.heap.size w w18):=⟨by rw [← hq_];exact (by repeat (first|(with_reducible first|exact HB.out|apply below_alloc|apply pw_below_drewN|apply below_drew1|refine below_set ?_ GE314.out)|exact HB.out))⟩;clear BK314 HB hq_;have BK314:=n0_;have HB:=n1_;clear n0_ n1_)))|((with_reducible refine gate_callee (f:=69) rfl ?_);refine goesL_ (some 18) rfl rfl Tryz.func69 (by kernel_rfl) rfl #[.string (a0.extract 0 (t315:Int).toNat)] rfl zar ?_;(with_reducible refine (spec_RowRead.calls k (a0.extract 0 (t315:Int).toNat) t316 false _ A8.out).mono ?_);rintro e w19 ⟨v318,rfl,ho0,hb⟩;refine ⟨_,rfl,?_⟩;have n0_:=Aside0.mk (Kd.R_lower ho0 (below_size (by repeat (first|(with_reducible first|exact HB.out|apply below_alloc|apply pw_below_drewN|apply below_drew1|refine below_set ?_ GE314.out)|exact HB.out))));have n1_:=Aside0.mk (blk_below (g:=gb314) (o:=.cells #[.slice none 0 0,.int .i64 0] 33 (0,0)) (by (with_reducible repeat (first|refine blk_drewN ?_ _|refine blk_drew ?_|refine blk_alloc ?_ _));exact BK314.out) hb);have n2_:=Aside0.mk (below_step (by repeat (first|(with_reducible first|exact HB.out|apply below_alloc|apply pw_below_drewN|apply below_drew1|refine below_set ?_ GE314.out)|exact HB.out)) hb);clear BK314;clear HB;have HO319:=n0_;have BK314:=n1_;have HB:=n2_;clear n0_ n1_ n2_;(try clear hb);(try clear hb2);(try clear hk);(try clear hi);(try clear ho0))|((with_reducible refine gate_callee (f:=70) rfl ?_);refine goesL_ (some 26) rfl rfl Tryz.func70 (by kernel_rfl) rfl #[.string (a0.extract ((ji9):Int).toNat a0.size)] rfl (by (try simp only [List.map_toArray,List.map_cons,List.map_nil]);first|done|(simp only [hji9];rfl)|rfl|(simp only [List.length_drop,List.length_take];rfl)) ?_;(with_reducible refine (spec_l12Num.calls k (a0.extract ((ji9):Int).toNat a0.size) t320 t321 _ A12.out).mono ?_);rintro e w' ⟨rfl,⟨nd,rfl⟩⟩;refine ⟨_,rfl,?_⟩;(try (rw [drewN_self w19];generalize hq_:World.drewN w19 _=w19;have n0_:Aside0 (Kd.R (Kd.int .i64) 3 w19 w.heap.size (fun _=>True) v318 t316):=⟨by rw [← hq_];exact (by (with_reducible repeat (first|apply Kd.R_alloc|apply Kd.R_drewN|apply Kd.R_drew));exact HO319.out)⟩;have n1_:Aside0 (w19.heap[gb314]?=some (.cells #[.slice none 0 0,.int .i64 0] 33 (0,0))):=⟨by rw [← hq_];exact (by (with_reducible repeat (first|refine blk_drewN ?_ _|refine blk_drew ?_|refine blk_alloc ?_ _));exact BK314.out)⟩;have n2_:Aside0 (Below w.heap.size w w19):=⟨by rw [← hq_];exact (by repeat (first|(with_reducible first|exact HB.out|apply below_alloc|apply pw_below_drewN|apply below_drew1|refine below_set ?_ GE314.out)|exact HB.out))⟩;clear HO319 BK314 HB hq_;have HO319:=n0_;have BK314:=n1_;have HB:=n2_;clear n0_ n1_ n2_));obtain ⟨Ao20,co20,eo20⟩:=Kd.R_slice HO319.out;subst eo20;have hcz21_0:w19.cell? ⟨gb314,0,none⟩=some (.slice none 0 0):=(blk_cell BK314.out 0).trans rfl;have hcz21_1:w19.cell? ⟨gb314,1,none⟩=some (.int .i64 0):=(blk_cell BK314.out 1).trans rfl;have hfz21_0:=blk_frozen BK314.out 0;have hfz21_1:=blk_frozen BK314.out 1))
       refine bodyPost_ret (results_ct rfl _ _ gb314 33 #[.slice Ao20 t316.length co20,.int .i64 t320] (0,0) _ rfl (by (with_reducible repeat (first|refine blk_drewN ?_ _|refine blk_drew ?_|refine blk_alloc ?_ _));refine blk_put (cs:=#[.slice Ao20 t316.length co20,.int .i64 0]) ?_ 1 _ rfl;(with_reducible repeat (first|refine blk_drewN ?_ _|refine blk_drew ?_|refine blk_alloc ?_ _));refine blk_put (cs:=#[.slice none 0 0,.int .i64 0]) ?_ 0 _ rfl;(with_reducible repeat (first|refine blk_drewN ?_ _|refine blk_drew ?_|refine blk_alloc ?_ _));exact BK314.out) Tryz.underlying33 rfl (by kernel_rfl)) rfl ?_
       exact ⟨_,by first|rfl|(simp [errW_none,errW_some] <;> rfl)|(simp only [← hji9];first|rfl|(simp [errW_none,errW_some] <;> rfl))|(simp [*,errW_none,errW_some] <;> rfl),by (with_reducible repeat (first|apply Kd.R_alloc|apply Kd.R_drewN|apply Kd.R_drew));exact Kd.R_mono (Kd.R_far (p:=⟨gb314,1,none⟩) (Kd.R_far (p:=⟨gb314,0,none⟩) (Kd.R_types HO319.out BK314.out (by decide)) (fun _ hk=>hk.2) (.slice Ao20 t316.length co20)) (fun _ hk=>hk.2) (.int .i64 t320)) (fun _ hk=>trivial),by repeat (first|(with_reducible first|exact HB.out|apply below_alloc|apply pw_below_drewN|apply below_drew1|refine below_set ?_ GE314.out)|exact HB.out)⟩
     ·rw [if_neg c11] at H
      exact absurd H (by simp)
    ·rw [if_neg c10] at H
     exact absurd H (by simp)
   ·rw [if_neg c7] at H
    exact absurd H (by simp)
  ·rw [if_neg c6] at H
   exact absurd H (by simp)

/-! ### spec_ZRead: function 15 -/
def spec_ZRead.l0:Nat→List (S33)→List ByteArray→Int→Option ((List (S33)) × Bool)
 | 0,_,_,_=>none
 | k + 1,x4,x5,x6=>if x6 < (x5.length:Int) then (if 0≤x6 then ((spec_l2One.f k (rdOf ByteArray.empty x5 x6)).bind fun bt329=>(if bt329.2.2=true then (if x4.length < 4398046511104 then (spec_ZRead.l0 k (x4 ++ [(⟨bt329.1,bt329.2.1⟩:S33)]) x5 (wrap64 (x6 + 1))) else (none)) else (some (([]:List (S33)),false)))) else (none)) else ((spec_ZOk.f k x4).bind fun t338=>(if t338=true then (some (x4,true)) else (some (([]:List (S33)),false))))
def spec_ZRead.f (k:Nat) (a0:ByteArray):Option ((List (S33)) × Bool):=(some (([]:List (S33)):List (S33))).bind fun y322=>(if a0.toList=([]:List UInt8) then (some (y322,true)) else (if (a0.size:Int) > 9000 then (some (([]:List (S33)),false)) else ((spec_l12Cut.f k a0 32).bind fun t325=>(spec_ZRead.l0 k y322 t325 0))))
theorem spec_ZRead.mono_l : ∀ k,(∀ y0 y1 y2,LeO (spec_ZRead.l0 k y0 y1 y2) (spec_ZRead.l0 (k + 1) y0 y1 y2))
 | 0=>fun _ _ _ r h=>by simp [spec_ZRead.l0] at h
 | k + 1=>by
  have ih0:=spec_ZRead.mono_l k
  ·intro y0 y1 y2
   unfold spec_ZRead.l0
   repeat' first
   | (with_reducible exact ih0 _ _ _)
   | (with_reducible exact spec_ZOk.mono _ _)
   | (with_reducible exact spec_l12Cut.mono _ _ _)
   | (with_reducible exact spec_l2One.mono _ _)
   | (with_reducible exact LeO.refl _)
   | (with_reducible exact LeO.none _)
   | (with_reducible refine LeO.ite ?_ ?_)
   | (with_reducible refine LeO.bind ?_ (fun _=>?_))
   | exact LeO.none _
   | refine LeO.ite ?_ ?_
   | refine LeO.bind ?_ (fun _=>?_)
theorem spec_ZRead.mono : ∀ a0 k,LeO (spec_ZRead.f k a0) (spec_ZRead.f (k + 1) a0):=by
 intro a0 k
 have ih0:=spec_ZRead.mono_l k
 unfold spec_ZRead.f
 repeat' first
   | (with_reducible exact ih0 _ _ _)
   | (with_reducible exact spec_ZOk.mono _ _)
   | (with_reducible exact spec_l12Cut.mono _ _ _)
   | (with_reducible exact spec_l2One.mono _ _)
   | (with_reducible exact LeO.refl _)
   | (with_reducible exact LeO.none _)
   | (with_reducible refine LeO.ite ?_ ?_)
   | (with_reducible refine LeO.bind ?_ (fun _=>?_))
   | exact LeO.none _
   | refine LeO.ite ?_ ?_
   | refine LeO.bind ?_ (fun _=>?_)
set_option maxHeartbeats 8000000 in
set_option maxRecDepth 100000 in
theorem spec_ZRead.calls (k:Nat) (a0:ByteArray) (r1:List (S33)) (r2:Bool) (w:World) (h:spec_ZRead.f k a0=some (r1,r2)) :
  Calls Tryz.prog 15 #[.string a0] w fun e w'=>∃ v0_:Value,e=.returned (.tuple #[v0_,.bool r2])∧Kd.S k33 33 w' w.heap.size (fun _=>True) v0_ r1∧Below w.heap.size w w':=by
 have hu33:=Tryz.underlying33
 have HB:=Aside0.mk (Below.refl w.heap.size w)
 have H:((some (([]:List (S33)):List (S33))).bind fun y322=>(if a0.toList=([]:List UInt8) then (some (y322,true)) else (if (a0.size:Int) > 9000 then (some (([]:List (S33)),false)) else ((spec_l12Cut.f k a0 32).bind fun t325=>(spec_ZRead.l0 k y322 t325 0)))))=some (r1,r2):=h
 clear h
 obtain ⟨y322,hy322⟩ : ∃ y_:List (S33),y_=(([]:List (S33))):=⟨_,rfl⟩
 replace H:(if a0.toList=([]:List UInt8) then (some (y322,true)) else (if (a0.size:Int) > 9000 then (some (([]:List (S33)),false)) else ((spec_l12Cut.f k a0 32).bind fun t325=>(spec_ZRead.l0 k y322 t325 0))))=some (r1,r2):=by first|(rw [hy322];with_reducible exact H)|(have H2_:=(Option.bind_some _ _).symm.trans H;rw [hy322];with_reducible exact H2_)|(have H2_:=(Option.bind_some _ _).symm.trans H;with_reducible exact H2_)|with_reducible exact H|(rw [hy322];exact H)|exact H
 have Ny322:=Aside0.mk hy322
 clear hy322
 by_cases c2:a0.toList=([]:List UInt8)
 ·rw [if_pos c2] at H
  have c2b0:(a0.toList == ([]:List UInt8))=true:=beq_iff_eq.mpr c2
  have c2b1:(a0.toList != ([]:List UInt8))=false:=bne_eq_false_iff_eq.mpr c2
  clear c2
  simp only [Option.some.injEq,Prod.mk.injEq] at H
  obtain ⟨rfl,rfl⟩:=H
  go_enter Tryz.func15,Tryz.ntmps15
  go_wp2_with (first|((with_reducible refine gate_dst (N:=9) rfl ?_);refine Kd.S_lit k33 _ 33 ?hg (N:=9) ?hd (xs:=([]:List (S33))) (inner:=[]) (ok:=fun _=>True) (okp:=fun _=>True) ?hr ?hp (fun _ hk=>hk) trivial (Below.refl _ _) (Nat.le_refl _) (by simp) ?_;(case hd=>rfl);(case hg=>rfl);(case hr=>first|(go_simp;done)|(go_simp;rfl));(case hp=>exact (Reps.none _ _));intro v323 w3 ho4 hb hg_ hnew_;clear hg_ hnew_;(first|rw [← Ny322.out] at ho4|(simp only [Int.reduceToNat] at ho4;rw [← Ny322.out] at ho4));have n0_:=Aside0.mk (Kd.S_lower ho4 (below_size zhb));have n1_:=Aside0.mk (below_step zhb hb);clear HB;have HO324:=n0_;have HB:=n1_;clear n0_ n1_;clear hb ho4))
  go_ret2
  exact ⟨_,by first|rfl|(simp [errW_none,errW_some] <;> rfl)|(simp [*,errW_none,errW_some] <;> rfl),by (with_reducible repeat (first|apply Kd.S_alloc|apply Kd.S_drewN|apply Kd.S_drew));exact HO324.out,zhb⟩
 ·rw [if_neg c2] at H
  have c2b0:(a0.toList == ([]:List UInt8))=false:=beq_eq_false_iff_ne.mpr c2
  have c2b1:(a0.toList != ([]:List UInt8))=true:=bne_iff_ne.mpr c2
  by_cases c5:(a0.size:Int) > 9000
  ·rw [if_pos c5] at H
   have c5b0:decide (9000 < (a0.size:Int))=true:=decide_eq_true c5
   have c5b1:decide (9000 < a0.size)=true:=decide_eq_true (by omega)
   clear c5
   simp only [Option.some.injEq,Prod.mk.injEq] at H
   obtain ⟨rfl,rfl⟩:=H
   go_enter Tryz.func15,Tryz.ntmps15
   go_wp2_with (first|((with_reducible refine gate_dst (N:=9) rfl ?_);refine Kd.S_lit k33 _ 33 ?hg (N:=9) ?hd (xs:=([]:List (S33))) (inner:=[]) (ok:=fun _=>True) (okp:=fun _=>True) ?hr ?hp (fun _ hk=>hk) trivial (Below.refl _ _) (Nat.le_refl _) (by simp) ?_;(case hd=>rfl);(case hg=>rfl);(case hr=>first|(go_simp;done)|(go_simp;rfl));(case hp=>exact (Reps.none _ _));intro v323 w6 ho7 hb hg_ hnew_;clear hg_ hnew_;(first|rw [← Ny322.out] at ho7|(simp only [Int.reduceToNat] at ho7;rw [← Ny322.out] at ho7));have n0_:=Aside0.mk (Kd.S_lower ho7 (below_size zhb));have n1_:=Aside0.mk (below_step zhb hb);clear HB;have HO324:=n0_;have HB:=n1_;clear n0_ n1_;clear hb ho7))
   go_ret2
   exact ⟨_,by first|rfl|(simp [errW_none,errW_some] <;> rfl)|(simp [*,errW_none,errW_some] <;> rfl),by first|exact Kd.S_nil _ _ _ _ _|exact Kd.N_nil _ _ _ _ _|exact Kd.V_nil _ _ _ _ _|exact Kd.Q_nil _ _ _ _ _|exact Kd.R_nil _ _ _ _ _,zhb⟩
  ·rw [if_neg c5] at H
   have c5b0:decide (9000 < (a0.size:Int))=false:=decide_eq_false c5
   have c5b1:decide (9000 < a0.size)=false:=decide_eq_false (by omega)
   clear c5
   replace H:=Option.bind_eq_some_iff.mp H
   obtain ⟨t325,A80,H⟩:=H
   (try dsimp only at H)
   have A8:=Aside0.mk A80
   clear A80
   have H':=Aside0.mk H
   clear H
   go_enter Tryz.func15,Tryz.ntmps15
   go_wp2_with (first|((with_reducible refine gate_dst (N:=9) rfl ?_);refine Kd.S_lit k33 _ 33 ?hg (N:=9) ?hd (xs:=([]:List (S33))) (inner:=[]) (ok:=fun _=>True) (okp:=fun _=>True) ?hr ?hp (fun _ hk=>hk) trivial (Below.refl _ _) (Nat.le_refl _) (by simp) ?_;(case hd=>rfl);(case hg=>rfl);(case hr=>first|(go_simp;done)|(go_simp;rfl));(case hp=>exact (Reps.none _ _));intro v323 w9 ho10 hb hg_ hnew_;clear hg_ hnew_;(first|rw [← Ny322.out] at ho10|(simp only [Int.reduceToNat] at ho10;rw [← Ny322.out] at ho10));have n0_:=Aside0.mk (Kd.S_lower ho10 (below_size zhb));have n1_:=Aside0.mk (below_step zhb hb);clear HB;have HO324:=n0_;have HB:=n1_;clear n0_ n1_;clear hb ho10)|((with_reducible refine gate_callee (f:=41) rfl ?_);refine goesL_ (some 17) rfl rfl Tryz.func41 (by kernel_rfl) rfl #[.string a0,.int .u8 32] rfl zar ?_;(with_reducible refine (spec_l12Cut.calls k a0 32 t325 _ A8.out).mono ?_);rintro e w11 ⟨v326,rfl,ho0,hb⟩;refine ⟨_,rfl,?_⟩;have n0_:=Aside0.mk (Kd.S_below (by (with_reducible repeat (first|apply Kd.S_alloc|apply Kd.S_drewN|apply Kd.S_drew));exact HO324.out) hb);have n1_:=Aside0.mk (Kd.R_lower ho0 (below_size zhb));have n2_:=Aside0.mk (below_step zhb hb);clear HO324;clear HB;have HO324:=n0_;have HO327:=n1_;have HB:=n2_;clear n0_ n1_ n2_;(try clear hb);(try clear hb2);(try clear hk);(try clear hi);(try clear ho0)))
   go_loopg [4,6] k (fun kq v4 v6 w'=>∃ (x4_1:List (S33)) (x6_1:Int),v6=.int .i64 x6_1∧Aside0 (spec_ZRead.l0 kq x4_1 t325 x6_1=some (r1,r2))∧Aside0 (kq≤k)∧Aside0 (Kd.S k33 33 w' w.heap.size (fun _=>True) v4 x4_1)∧Aside0 (Kd.R Kd.string 9 w' w.heap.size (fun _=>True) v326 t325)∧Aside0 (Below w.heap.size w w'))
   case atStart=>exact ⟨(y322),(0),(by first|rfl|(simp;done)|(simp [*];done)),H',⟨Nat.le_refl _⟩,⟨by (with_reducible repeat (first|apply Kd.S_alloc|apply Kd.S_drewN|apply Kd.S_drew));exact HO324.out⟩,⟨by (with_reducible repeat (first|apply Kd.R_alloc|apply Kd.R_drewN|apply Kd.R_drew));exact HO327.out⟩,⟨zhb⟩⟩
   case round =>
    clear H'
    try clear c1
    try clear c2
    try clear c2b0
    try clear c2b1
    try clear p2
    try clear c4
    try clear c5
    try clear c5b0
    try clear c5b1
    obtain ⟨x4_1,x6_1,rfl,HA,HK1,HO_4,HO_5,HB⟩:=hrel
    cases gk with
    | zero=>exact absurd HA.out (by simp [spec_ZRead.l0])
    | succ k1 =>
     have H:=HA.out
     clear HA
     simp only [spec_ZRead.l0] at H
     by_cases c12:x6_1 < (t325.length:Int)
     ·rw [if_pos c12] at H
      have c12b0:decide (x6_1 < (t325.length:Int))=true:=decide_eq_true c12
      clear c12
      by_cases c13:0≤x6_1
      ·rw [if_pos c13] at H
       have c13b0:decide (0≤x6_1)=true:=decide_eq_true c13
       clear c13
       replace H:=Option.bind_eq_some_iff.mp H
       obtain ⟨⟨t329,t332,t333⟩,A140,H⟩:=H
       (try dsimp only at H)
       have A14:=Aside0.mk A140
       clear A140
       by_cases c15:t333=true
       ·subst c15
        have H1:(if x4_1.length < 4398046511104 then (spec_ZRead.l0 k1 (x4_1 ++ [(⟨t329,t332⟩:S33)]) t325 (wrap64 (x6_1 + 1))) else (none))=some (r1,r2):=by rw [if_pos rfl] at H;exact H
        clear H
        have H:=H1
        clear H1
        by_cases c16:x4_1.length < 4398046511104
        ·rw [if_pos c16] at H
         have LMc16:=Aside0.mk c16
         clear c16
         obtain ⟨y335,hy335⟩ : ∃ y_:List (S33),y_=(x4_1 ++ [(⟨t329,t332⟩:S33)]):=⟨_,rfl⟩
         replace H:(spec_ZRead.l0 k1 y335 t325 (wrap64 (x6_1 + 1)))=some (r1,r2):=by first|(rw [hy335];with_reducible exact H)|(have H2_:=(Option.bind_some _ _).symm.trans H;rw [hy335];with_reducible exact H2_)|(have H2_:=(Option.bind_some _ _).symm.trans H;with_reducible exact H2_)|with_reducible exact H|(rw [hy335];exact H)|exact H
         have Ny335:=Aside0.mk hy335
         clear hy335
         have H':=Aside0.mk H
         clear H
         obtain ⟨Ao17,co17,eo17⟩:=Kd.R_slice HO_5.out
         subst eo17
         have p328:0≤(x6_1:Int):=zod
         have q328:x6_1 < (t325.length:Int):=zod
         obtain ⟨ad328,e328,hx328_0⟩:=Kd.at_string (Kd.R_reads' HO_5.out).2.2 x6_1 p328 q328
         cases e328
         replace p328:=eq_true p328
         replace q328:=eq_true q328
         go_wp2_with (first|((with_reducible refine gate_callee (f:=42) rfl ?_);refine goesL_ (some 29) rfl rfl Tryz.func42 (by kernel_rfl) rfl #[.string (rdOf ByteArray.empty t325 x6_1)] rfl zar ?_;(with_reducible refine (spec_l2One.calls k1 (rdOf ByteArray.empty t325 x6_1) t329 t332 true _ A14.out).mono ?_);rintro e w18 ⟨v330,rfl,ho0,hb⟩;refine ⟨_,rfl,?_⟩;have n0_:=Aside0.mk (Kd.S_elder' (by (with_reducible repeat (first|apply Kd.S_alloc|apply Kd.S_drewN|apply Kd.S_drew));exact HO_4.out) (Kd.R_base ho0) hb);have n1_:=Aside0.mk (Kd.R_below (by (with_reducible repeat (first|apply Kd.R_alloc|apply Kd.R_drewN|apply Kd.R_drew));exact HO_5.out) hb);have n2_:=Aside0.mk (Kd.R_lower ho0 (below_size zhb));have n3_:=Aside0.mk (below_step zhb hb);clear HO_4;clear HO_5;clear HB;have HO_4:=n0_;have HO_5:=n1_;have HO331:=n2_;have HB:=n3_;clear n0_ n1_ n2_ n3_;(try clear hb);(try clear hb2);(try clear hk);(try clear hi);(try clear ho0))|((with_reducible refine gate_dst (N:=7) rfl ?_);refine box_event ?hg (N:=7) ?hd (cs:=#[.slice none 0 0,.int .i64 0]) (t:=33) ?hr ?_;(case hd=>rfl);(case hg=>rfl);(case hr=>first|(go_simp;done)|(go_simp;rfl));intro gb334 hg w19 hbox hb;have n0_:=Aside0.mk (Kd.S_below (Kd.S_elderB (by (with_reducible repeat (first|apply Kd.S_alloc|apply Kd.S_drewN|apply Kd.S_drew));exact HO_4.out) gb334 (Nat.le_of_eq hg.symm)) hb);have n1_:=Aside0.mk (Kd.R_below (by (with_reducible repeat (first|apply Kd.R_alloc|apply Kd.R_drewN|apply Kd.R_drew));exact HO_5.out) hb);have n2_:=Aside0.mk (Kd.R_below (by (with_reducible repeat (first|apply Kd.R_alloc|apply Kd.R_drewN|apply Kd.R_drew));exact HO331.out) hb);have n3_:=Aside0.mk (below_step zhb hb);have n4_:=Aside0.mk (hbox);have n5_:=Aside0.mk ((by rw [hg];exact (below_size zhb):w.heap.size≤gb334));have n6_:=Aside0.mk ((by rw [hg];exact (below_size zhb):w.heap.size≤gb334));clear HO_4;clear HO_5;clear HO331;clear HB;have HO_4:=n0_;have HO_5:=n1_;have HO331:=n2_;have HB:=n3_;have BK334:=n4_;have GW334:=n5_;have GE334:=n6_;clear n0_ n1_ n2_ n3_ n4_ n5_ n6_;clear hb hbox hg;obtain ⟨Ao20,co20,eo20⟩:=Kd.R_slice HO331.out;subst eo20;have hcz21_0:w19.cell? ⟨gb334,0,none⟩=some (.slice none 0 0):=(blk_cell BK334.out 0).trans rfl;have hcz21_1:w19.cell? ⟨gb334,1,none⟩=some (.int .i64 0):=(blk_cell BK334.out 1).trans rfl;have hfz21_0:=blk_frozen BK334.out 0;have hfz21_1:=blk_frozen BK334.out 1)|((with_reducible refine gate_store (t:=33) (p:=7) rfl ?_);refine store_event (t:=33) (p:=7) (v:=?vo_w22) (w1:=((w19.setCell ⟨gb334,0,none⟩ (.slice Ao20 t329.length co20)).setCell ⟨gb334,1,none⟩ (.int .i64 t332))) ?hg ?ho ?hn ?hr ?_;(case ho=>rfl);(case hg=>rfl);(case hn=>rfl);(case hr=>first|(go_simp;done)|(go_simp;rfl));intro w22 hw;have n0_:Aside0 (Kd.S k33 33 w22 w.heap.size (fun k_=>some k_≠(.slice Ao20 t329.length co20:Value).ownBlock∧k_≠gb334) u4 x4_1):=⟨(by rw [hw];exact (by (with_reducible repeat (first|apply Kd.S_alloc|apply Kd.S_drewN|apply Kd.S_drew));exact Kd.S_mono (Kd.S_far (p:=⟨gb334,1,none⟩) (Kd.S_far (p:=⟨gb334,0,none⟩) (Kd.S_mono HO_4.out (fun k_ hk=>(⟨hk,hk.2⟩:_∧k_≠gb334))) (fun _ hk=>hk.2) (.slice Ao20 t329.length co20)) (fun _ hk=>hk.2) (.int .i64 t332)) (fun _ hk=>⟨hk.1.1.2,hk.1.2⟩)))⟩;have n1_:Aside0 (Kd.R Kd.string 9 w22 w.heap.size (fun _=>True) (.slice (some ad328) t325.length co17) t325):=⟨(by rw [hw];exact (by (with_reducible repeat (first|apply Kd.R_alloc|apply Kd.R_drewN|apply Kd.R_drew));exact Kd.R_mono (Kd.R_far (p:=⟨gb334,1,none⟩) (Kd.R_far (p:=⟨gb334,0,none⟩) (Kd.R_types HO_5.out BK334.out (by decide)) (fun _ hk=>hk.2) (.slice Ao20 t329.length co20)) (fun _ hk=>hk.2) (.int .i64 t332)) (fun _ hk=>trivial)))⟩;have n2_:Aside0 (Kd.R (Kd.int .i64) 3 w22 w.heap.size (fun _=>True) (.slice Ao20 t329.length co20) t329):=⟨(by rw [hw];exact (by (with_reducible repeat (first|apply Kd.R_alloc|apply Kd.R_drewN|apply Kd.R_drew));exact Kd.R_mono (Kd.R_far (p:=⟨gb334,1,none⟩) (Kd.R_far (p:=⟨gb334,0,none⟩) (Kd.R_types HO331.out BK334.out (by decide)) (fun _ hk=>hk.2) (.slice Ao20 t329.length co20)) (fun _ hk=>hk.2) (.int .i64 t332)) (fun _ hk=>trivial)))⟩;have n3_:Aside0 (w22.heap[gb334]?=some (.cells #[.slice Ao20 t329.length co20,.int .i64 t332] 33 (0,0))):=⟨(by rw [hw];exact (by (with_reducible repeat (first|refine blk_drewN ?_ _|refine blk_drew ?_|refine blk_alloc ?_ _));refine blk_put (cs:=#[.slice Ao20 t329.length co20,.int .i64 0]) ?_ 1 _ rfl;(with_reducible repeat (first|refine blk_drewN ?_ _|refine blk_drew ?_|refine blk_alloc ?_ _));refine blk_put (cs:=#[.slice none 0 0,.int .i64 0]) ?_ 0 _ rfl;(with_reducible repeat (first|refine blk_drewN ?_ _|refine blk_drew ?_|refine blk_alloc ?_ _));exact BK334.out))⟩;have n4_:Aside0 (Below w.heap.size w w22):=⟨(by rw [hw];exact (by repeat (first|(with_reducible first|exact HB.out|apply below_alloc|apply pw_below_drewN|apply below_drew1|refine below_set ?_ GE334.out)|exact HB.out)))⟩;clear hw;clear HO_4;clear HO_5;clear HO331;clear BK334;clear HB;have HO_4:=n0_;have HO_5:=n1_;have HO331:=n2_;have BK334:=n3_;have HB:=n4_;clear n0_ n1_ n2_ n3_ n4_;have hcz23_0:w22.cell? ⟨gb334,0,none⟩=some (.slice Ao20 t329.length co20):=(blk_cell BK334.out 0).trans rfl;have hcz23_1:w22.cell? ⟨gb334,1,none⟩=some (.int .i64 t332):=(blk_cell BK334.out 1).trans rfl;have hfz23_0:=blk_frozen BK334.out 0;have hfz23_1:=blk_frozen BK334.out 1)|((with_reducible refine gate_builtin (b:=.append) (xs:=#[.tmp 34,.tmp 36]) rfl ?_);at_builtin;refine Kd.S_append k33 (w0:=w) w.heap.size rfl (.tmp 34) (.tmp 36) 23 33 (.agg #[(.slice none 0 0),(.int .i64 0)]) 32 rfl Tryz.underlying23 info33 rfl (by decide) (by omega) u4 x4_1 (⟨t329,t332⟩:S33) [.slice Ao20 t329.length co20,.int .i64 t332] (fun k_=>k_≠gb334) (fun k_=>some k_=(.slice Ao20 t329.length co20:Value).ownBlock) rfl rfl ?aP (fun k_ hk_=>((Kd.R_mono (ok':=fun k_=>((fun k_=>k_≠gb334)) k_∧some k_≠(u4:Value).ownBlock) (Kd.R_types (Kd.R_apart' (HO331.out) (Kd.S_typed HO_4.out) (by decide)) BK334.out (by decide)) (fun k_ hk=>⟨hk.2,hk.1.2⟩))).1 k_ hk_.symm) ?aF ?aO ?aB ?aS ?aL ?_;(case aP=>exact k33_mkM _ _ _ (⟨t329,t332⟩:S33) (Kd.R_mono (Kd.R_tight rfl (Kd.R_mono (ok':=fun k_=>((fun k_=>k_≠gb334)) k_∧some k_≠(u4:Value).ownBlock) (Kd.R_types (Kd.R_apart' (HO331.out) (Kd.S_typed HO_4.out) (by decide)) BK334.out (by decide)) (fun k_ hk=>⟨hk.2,hk.1.2⟩))) (fun _ h_=>h_)));(case aB=>exact (by repeat (first|(with_reducible first|exact HB.out|apply below_alloc|apply pw_below_drewN|apply below_drew1|refine below_set ?_ GE334.out)|exact HB.out)));(case aF=>exact (fun k_ hk=>Kd.freshB (g:=gb334) (o:=.cells #[.slice Ao20 t329.length co20,.int .i64 t332] 33 (0,0)) (by (with_reducible repeat (first|refine blk_drewN ?_ _|refine blk_drew ?_|refine blk_alloc ?_ _));exact BK334.out) k_ hk));(case aO=>exact (by (with_reducible repeat (first|apply Kd.S_alloc|apply Kd.S_drewN|apply Kd.S_drew));exact Kd.S_mono HO_4.out (fun k_ hk=>⟨hk.2,fun e_=>hk.1 e_⟩)));(case aS=>exact (below_size (by repeat (first|(with_reducible first|exact HB.out|apply below_alloc|apply pw_below_drewN|apply below_drew1|refine below_set ?_ GE334.out)|exact HB.out))));(case aL=>have:=LMc16.out;omega);intro v336 w24 ho hb hg hat;rw [← Ny335.out] at ho;have n0_:=Aside0.mk (Kd.R_over' (by (with_reducible repeat (first|apply Kd.R_alloc|apply Kd.R_drewN|apply Kd.R_drew));exact HO_5.out) (Kd.S_typed (by (with_reducible repeat (first|apply Kd.S_alloc|apply Kd.S_drewN|apply Kd.S_drew));exact HO_4.out)) (by decide) hg);have n1_:=Aside0.mk (blk_grown (g:=gb334) (o:=.cells #[.slice Ao20 t329.length co20,.int .i64 t332] 33 (0,0)) (by (with_reducible repeat (first|refine blk_drewN ?_ _|refine blk_drew ?_|refine blk_alloc ?_ _));exact BK334.out) hg (Kd.S_away HO_4.out (fun _ hk=>hk.2)));have n2_:=Aside0.mk (hb);have n3_:=Aside0.mk (ho);clear HO_5;clear BK334;clear HB;clear HO_4;clear HO331;have HO_5:=n0_;have BK334:=n1_;have HB:=n2_;have HO337:=n3_;clear n0_ n1_ n2_ n3_;clear ho hb hg hat))
         go_roundg k1
         case measure=>have:=HK1.out;omega
         case rel=>exact ⟨(y335),(wrap64 (x6_1 + 1)),(by first|rfl|(simp;done)|(simp [*];done)),H',⟨by have:=HK1.out;omega⟩,⟨by (with_reducible repeat (first|apply Kd.S_alloc|apply Kd.S_drewN|apply Kd.S_drew));exact Kd.S_mono HO337.out (fun _ hk=>trivial)⟩,⟨by (with_reducible repeat (first|apply Kd.R_alloc|apply Kd.R_drewN|apply Kd.R_drew));exact HO_5.out⟩,⟨by repeat (first|(with_reducible first|exact HB.out|apply below_alloc|apply pw_below_drewN|apply below_drew1|refine below_set ?_ GE334.out)|exact HB.out)⟩⟩
        ·rw [if_neg c16] at H
         exact absurd H (by simp)
       ·replace c15:=Bool.eq_false_iff.mpr c15
        subst c15
        have H1:(some (([]:List (S33)),false))=some (r1,r2):=by rw [if_neg (show ¬ (false=true) by decide)] at H;exact H
        clear H
        have H:=H1
        clear H1
        simp only [Option.some.injEq,Prod.mk.injEq] at H
        obtain ⟨rfl,rfl⟩:=H
        obtain ⟨Ao25,co25,eo25⟩:=Kd.R_slice HO_5.out
        subst eo25
        have p328:0≤(x6_1:Int):=zod
        have q328:x6_1 < (t325.length:Int):=zod
        obtain ⟨ad328,e328,hx328_0⟩:=Kd.at_string (Kd.R_reads' HO_5.out).2.2 x6_1 p328 q328
        cases e328
        replace p328:=eq_true p328
        replace q328:=eq_true q328
        go_wp2_with (first|((with_reducible refine gate_callee (f:=42) rfl ?_);refine goesL_ (some 29) rfl rfl Tryz.func42 (by kernel_rfl) rfl #[.string (rdOf ByteArray.empty t325 x6_1)] rfl zar ?_;(with_reducible refine (spec_l2One.calls k1 (rdOf ByteArray.empty t325 x6_1) t329 t332 false _ A14.out).mono ?_);rintro e w26 ⟨v330,rfl,ho0,hb⟩;refine ⟨_,rfl,?_⟩;have n0_:=Aside0.mk (Kd.S_elder' (by (with_reducible repeat (first|apply Kd.S_alloc|apply Kd.S_drewN|apply Kd.S_drew));exact HO_4.out) (Kd.R_base ho0) hb);have n1_:=Aside0.mk (Kd.R_below (by (with_reducible repeat (first|apply Kd.R_alloc|apply Kd.R_drewN|apply Kd.R_drew));exact HO_5.out) hb);have n2_:=Aside0.mk (Kd.R_lower ho0 (below_size zhb));have n3_:=Aside0.mk (below_step zhb hb);clear HO_4;clear HO_5;clear HB;have HO_4:=n0_;have HO_5:=n1_;have HO331:=n2_;have HB:=n3_;clear n0_ n1_ n2_ n3_;(try clear hb);(try clear hb2);(try clear hk);(try clear hi);(try clear ho0))|((with_reducible refine gate_dst (N:=7) rfl ?_);refine box_event ?hg (N:=7) ?hd (cs:=#[.slice none 0 0,.int .i64 0]) (t:=33) ?hr ?_;(case hd=>rfl);(case hg=>rfl);(case hr=>first|(go_simp;done)|(go_simp;rfl));intro gb334 hg w27 hbox hb;have n0_:=Aside0.mk (Kd.S_below (Kd.S_elderB (by (with_reducible repeat (first|apply Kd.S_alloc|apply Kd.S_drewN|apply Kd.S_drew));exact HO_4.out) gb334 (Nat.le_of_eq hg.symm)) hb);have n1_:=Aside0.mk (Kd.R_below (by (with_reducible repeat (first|apply Kd.R_alloc|apply Kd.R_drewN|apply Kd.R_drew));exact HO_5.out) hb);have n2_:=Aside0.mk (Kd.R_below (by (with_reducible repeat (first|apply Kd.R_alloc|apply Kd.R_drewN|apply Kd.R_drew));exact HO331.out) hb);have n3_:=Aside0.mk (below_step zhb hb);have n4_:=Aside0.mk (hbox);have n5_:=Aside0.mk ((by rw [hg];exact (below_size zhb):w.heap.size≤gb334));have n6_:=Aside0.mk ((by rw [hg];exact (below_size zhb):w.heap.size≤gb334));clear HO_4;clear HO_5;clear HO331;clear HB;have HO_4:=n0_;have HO_5:=n1_;have HO331:=n2_;have HB:=n3_;have BK334:=n4_;have GW334:=n5_;have GE334:=n6_;clear n0_ n1_ n2_ n3_ n4_ n5_ n6_;clear hb hbox hg;obtain ⟨Ao28,co28,eo28⟩:=Kd.R_slice HO331.out;subst eo28;have hcz29_0:w27.cell? ⟨gb334,0,none⟩=some (.slice none 0 0):=(blk_cell BK334.out 0).trans rfl;have hcz29_1:w27.cell? ⟨gb334,1,none⟩=some (.int .i64 0):=(blk_cell BK334.out 1).trans rfl;have hfz29_0:=blk_frozen BK334.out 0;have hfz29_1:=blk_frozen BK334.out 1))
        go_ret2
        exact ⟨_,by first|rfl|(simp [errW_none,errW_some] <;> rfl)|(simp [*,errW_none,errW_some] <;> rfl),by first|exact Kd.S_nil _ _ _ _ _|exact Kd.N_nil _ _ _ _ _|exact Kd.V_nil _ _ _ _ _|exact Kd.Q_nil _ _ _ _ _|exact Kd.R_nil _ _ _ _ _,by repeat (first|(with_reducible first|exact HB.out|apply below_alloc|apply pw_below_drewN|apply below_drew1|refine below_set ?_ GE334.out)|exact HB.out)⟩
      ·rw [if_neg c13] at H
       exact absurd H (by simp)
     ·rw [if_neg c12] at H
      have c12b0:decide (x6_1 < (t325.length:Int))=false:=decide_eq_false c12
      clear c12
      replace H:=Option.bind_eq_some_iff.mp H
      obtain ⟨t338,A300,H⟩:=H
      (try dsimp only at H)
      have A30:=Aside0.mk A300
      clear A300
      by_cases c31:t338=true
      ·subst c31
       have H1:(some (x4_1,true))=some (r1,r2):=by rw [if_pos rfl] at H;exact H
       clear H
       have H:=H1
       clear H1
       simp only [Option.some.injEq,Prod.mk.injEq] at H
       obtain ⟨rfl,rfl⟩:=H
       obtain ⟨Ao32,co32,eo32⟩:=Kd.R_slice HO_5.out
       subst eo32
       obtain ⟨Ao33,co33,eo33⟩:=Kd.S_slice HO_4.out
       subst eo33
       go_wp2_with (first|((with_reducible refine gate_callee (f:=7) rfl ?_);refine goesL_ (some 39) rfl rfl Tryz.func7 (by kernel_rfl) rfl #[.slice Ao33 x4_1.length co33] rfl zar ?_;(with_reducible refine (spec_ZOk.calls k1 _ _ x4_1 true _ ?side1 ?side2 A30.out).mono ?_);(case side1=>repeat (first|exact (Kd.S_reads' HO_4.out).2.2|(with_reducible refine Kd.C_alloc ?_ _)|(with_reducible refine Kd.C_drewN ?_ _)|(with_reducible refine Kd.C_drew ?_)));(case side2=>exact (Kd.S_reads' HO_4.out).2.1);rintro e w34 ⟨rfl,hb⟩;refine ⟨_,rfl,?_⟩;have n0_:=Aside0.mk (Kd.S_below (by (with_reducible repeat (first|apply Kd.S_alloc|apply Kd.S_drewN|apply Kd.S_drew));exact HO_4.out) hb);have n1_:=Aside0.mk (Kd.R_below (by (with_reducible repeat (first|apply Kd.R_alloc|apply Kd.R_drewN|apply Kd.R_drew));exact HO_5.out) hb);have n2_:=Aside0.mk (below_step zhb hb);clear HO_4;clear HO_5;clear HB;have HO_4:=n0_;have HO_5:=n1_;have HB:=n2_;clear n0_ n1_ n2_;(try clear hb);(try clear hb2);(try clear hk);(try clear hi)))
       go_ret2
       exact ⟨_,by first|rfl|(simp [errW_none,errW_some] <;> rfl)|(simp [*,errW_none,errW_some] <;> rfl),by (with_reducible repeat (first|apply Kd.S_alloc|apply Kd.S_drewN|apply Kd.S_drew));exact HO_4.out,zhb⟩
      ·replace c31:=Bool.eq_false_iff.mpr c31
       subst c31
       have H1:(some (([]:List (S33)),false))=some (r1,r2):=by rw [if_neg (show ¬ (false=true) by decide)] at H;exact H
       clear H
       have H:=H1
       clear H1
       simp only [Option.some.injEq,Prod.mk.injEq] at H
       obtain ⟨rfl,rfl⟩:=H
       obtain ⟨Ao35,co35,eo35⟩:=Kd.R_slice HO_5.out
       subst eo35
       obtain ⟨Ao36,co36,eo36⟩:=Kd.S_slice HO_4.out
       subst eo36
       go_wp2_with (first|((with_reducible refine gate_callee (f:=7) rfl ?_);refine goesL_ (some 39) rfl rfl Tryz.func7 (by kernel_rfl) rfl #[.slice Ao36 x4_1.length co36] rfl zar ?_;(with_reducible refine (spec_ZOk.calls k1 _ _ x4_1 false _ ?side1 ?side2 A30.out).mono ?_);(case side1=>repeat (first|exact (Kd.S_reads' HO_4.out).2.2|(with_reducible refine Kd.C_alloc ?_ _)|(with_reducible refine Kd.C_drewN ?_ _)|(with_reducible refine Kd.C_drew ?_)));(case side2=>exact (Kd.S_reads' HO_4.out).2.1);rintro e w37 ⟨rfl,hb⟩;refine ⟨_,rfl,?_⟩;have n0_:=Aside0.mk (Kd.S_below (by (with_reducible repeat (first|apply Kd.S_alloc|apply Kd.S_drewN|apply Kd.S_drew));exact HO_4.out) hb);have n1_:=Aside0.mk (Kd.R_below (by (with_reducible repeat (first|apply Kd.R_alloc|apply Kd.R_drewN|apply Kd.R_drew));exact HO_5.out) hb);have n2_:=Aside0.mk (below_step zhb hb);clear HO_4;clear HO_5;clear HB;have HO_4:=n0_;have HO_5:=n1_;have HB:=n2_;clear n0_ n1_ n2_;(try clear hb);(try clear hb2);(try clear hk);(try clear hi)))
       go_ret2
       exact ⟨_,by first|rfl|(simp [errW_none,errW_some] <;> rfl)|(simp [*,errW_none,errW_some] <;> rfl),by first|exact Kd.S_nil _ _ _ _ _|exact Kd.N_nil _ _ _ _ _|exact Kd.V_nil _ _ _ _ _|exact Kd.Q_nil _ _ _ _ _|exact Kd.R_nil _ _ _ _ _,zhb⟩

/-! ### spec_l2Copy: function 71 -/
def spec_l2Copy.l0:Nat→List (S33)→List (S33)→Int→Option ((List (S33)))
 | 0,_,_,_=>none
 | k + 1,x0,x3,x4=>if x4 < (x0.length:Int) then (if 0≤x4 then ((spec_l1Copy.f ((rd_T33 x0 x4).f0)).bind fun t343=>(if x3.length < 4398046511104 then (spec_l2Copy.l0 k x0 (x3 ++ [(⟨t343,(rd_T33 x0 x4).f1⟩:S33)]) (wrap64 (x4 + 1))) else (none))) else (none)) else (some x3)
def spec_l2Copy.f (k:Nat) (l0:List (S33)):Option ((List (S33))):=spec_l2Copy.l0 k l0 (([]:List (S33))) 0
theorem spec_l2Copy.mono_l : ∀ k,(∀ y0 y1 y2,LeO (spec_l2Copy.l0 k y0 y1 y2) (spec_l2Copy.l0 (k + 1) y0 y1 y2))
 | 0=>fun _ _ _ r h=>by simp [spec_l2Copy.l0] at h
 | k + 1=>by
  have ih0:=spec_l2Copy.mono_l k
  ·intro y0 y1 y2
   unfold spec_l2Copy.l0
   repeat' first
   | (with_reducible exact ih0 _ _ _)
   | (with_reducible exact LeO.refl _)
   | (with_reducible exact LeO.none _)
   | (with_reducible refine LeO.ite ?_ ?_)
   | (with_reducible refine LeO.bind ?_ (fun _=>?_))
   | exact LeO.none _
   | refine LeO.ite ?_ ?_
   | refine LeO.bind ?_ (fun _=>?_)
theorem spec_l2Copy.mono : ∀ a0 k,LeO (spec_l2Copy.f k a0) (spec_l2Copy.f (k + 1) a0):=by
 intro a0 k
 have ih0:=spec_l2Copy.mono_l k
 unfold spec_l2Copy.f
 repeat' first
   | (with_reducible exact ih0 _ _ _)
   | (with_reducible exact LeO.refl _)
   | (with_reducible exact LeO.none _)
   | (with_reducible refine LeO.ite ?_ ?_)
   | (with_reducible refine LeO.bind ?_ (fun _=>?_))
   | exact LeO.none _
   | refine LeO.ite ?_ ?_
   | refine LeO.bind ?_ (fun _=>?_)
def spec_l2Copy.T5:Bool × List (List Nat × List Nat):=(true,[([],[]),([],[]),([],[]),([1,2],[1,2]),([3],[3]),([4],[4]),([5],[5]),([],[]),([],[]),([7,8],[7,8]),([9],[9]),([10],[10]),([6,11],[6,11]),([12],[12]),([0,13,6],[0,13]),([14,14,0,1,2,3,4,5,6,7,8,9,10,11,12,13,14],[0,14])])
def spec_l2Copy.B5:List Nat:=[0,0,0,6,14,30,62,0,0,384,896,1920,4094,8190,16383,32767]
theorem spec_l2Copy.tab5:rtab .any (opsOf Tryz.f71 5)=spec_l2Copy.T5:=by kernel_rfl
theorem spec_l2Copy.bits5:waitsOk spec_l2Copy.T5.2 spec_l2Copy.B5=true:=by kernel_rfl
set_option maxHeartbeats 8000000 in
set_option maxRecDepth 100000 in
theorem spec_l2Copy.calls (k:Nat) (A0:Option Addr) (c0:Nat) (l0:List (S33)) (r:List (S33)) (w:World) (hr0:Kd.C k33 w A0 l0.length l0) (hc0:l0.length≤c0) (h:spec_l2Copy.f k l0=some r) :
  Calls Tryz.prog 71 #[.slice A0 l0.length c0] w fun e w'=>∃ v0_:Value,e=.returned (v0_)∧Kd.S k33 33 w' w.heap.size (fun _=>True) v0_ r∧Below w.heap.size w w':=by
 have hu33:=Tryz.underlying33
 have HR0:=Aside0.mk hr0
 have HC0:=Aside0.mk hc0
 clear hr0 hc0
 have HB:=Aside0.mk (Below.refl w.heap.size w)
 have H:(spec_l2Copy.l0 k l0 (([]:List (S33))) 0)=some r:=h
 clear h
 obtain ⟨y339,hy339⟩ : ∃ y_:List (S33),y_=(([]:List (S33))):=⟨_,rfl⟩
 replace H:(spec_l2Copy.l0 k l0 y339 0)=some r:=by first|(rw [hy339];with_reducible exact H)|(have H2_:=(Option.bind_some _ _).symm.trans H;rw [hy339];with_reducible exact H2_)|(have H2_:=(Option.bind_some _ _).symm.trans H;with_reducible exact H2_)|with_reducible exact H|(rw [hy339];exact H)|exact H
 have Ny339:=Aside0.mk hy339
 clear hy339
 have H':=Aside0.mk H
 clear H
 go_enter Tryz.func71,Tryz.ntmps71
 go_wp2_with (first|((with_reducible refine gate_dst (N:=5) rfl ?_);refine Kd.S_lit k33 _ 33 ?hg (N:=5) ?hd (xs:=([]:List (S33))) (inner:=[]) (ok:=fun _=>True) (okp:=fun _=>True) ?hr ?hp (fun _ hk=>hk) trivial (Below.refl _ _) (Nat.le_refl _) (by simp) ?_;(case hd=>rfl);(case hg=>rfl);(case hr=>first|(go_simp;done)|(go_simp;rfl));(case hp=>exact (Reps.none _ _));intro v340 w2 ho3 hb hg_ hnew_;clear hg_ hnew_;(first|rw [← Ny339.out] at ho3|(simp only [Int.reduceToNat] at ho3;rw [← Ny339.out] at ho3));have n0_:=Aside0.mk (Kd.S_lower ho3 (below_size zhb));have n1_:=Aside0.mk (below_step zhb hb);clear HB;have HO341:=n0_;have HB:=n1_;clear n0_ n1_;clear hb ho3))
 go_loopg [3,4] k (fun kq v3 v4 w'=>∃ (x3_1:List (S33)) (x4_1:Int),v4=.int .i64 x4_1∧Aside0 (spec_l2Copy.l0 kq l0 x3_1 x4_1=some r)∧Aside0 (kq≤k)∧Aside0 (Kd.S k33 33 w' w.heap.size (fun _=>True) v3 x3_1)∧Aside0 (Below w.heap.size w w'))
 case atStart=>exact ⟨(y339),(0),(by first|rfl|(simp;done)|(simp [*];done)),H',⟨Nat.le_refl _⟩,⟨by (with_reducible repeat (first|apply Kd.S_alloc|apply Kd.S_drewN|apply Kd.S_drew));exact HO341.out⟩,⟨zhb⟩⟩
 case round =>
  clear H'
  try clear p2
  obtain ⟨x3_1,x4_1,rfl,HA,HK1,HO_3,HB⟩:=hrel
  cases gk with
  | zero=>exact absurd HA.out (by simp [spec_l2Copy.l0])
  | succ k1 =>
   have H:=HA.out
   clear HA
   simp only [spec_l2Copy.l0] at H
   by_cases c4:x4_1 < (l0.length:Int)
   ·rw [if_pos c4] at H
    have c4b0:decide (x4_1 < (l0.length:Int))=true:=decide_eq_true c4
    clear c4
    by_cases c5:0≤x4_1
    ·rw [if_pos c5] at H
     have c5b0:decide (0≤x4_1)=true:=decide_eq_true c5
     clear c5
     replace H:=Option.bind_eq_some_iff.mp H
     obtain ⟨t343,A60,H⟩:=H
     (try dsimp only at H)
     have A6:=Aside0.mk A60
     clear A60
     by_cases c7:x3_1.length < 4398046511104
     ·rw [if_pos c7] at H
      have LMc7:=Aside0.mk c7
      clear c7
      obtain ⟨y347,hy347⟩ : ∃ y_:List (S33),y_=(x3_1 ++ [(⟨t343,(rd_T33 l0 x4_1).f1⟩:S33)]):=⟨_,rfl⟩
      replace H:(spec_l2Copy.l0 k1 l0 y347 (wrap64 (x4_1 + 1)))=some r:=by first|(rw [hy347];with_reducible exact H)|(have H2_:=(Option.bind_some _ _).symm.trans H;rw [hy347];with_reducible exact H2_)|(have H2_:=(Option.bind_some _ _).symm.trans H;with_reducible exact H2_)|with_reducible exact H|(rw [hy347];exact H)|exact H
      have Ny347:=Aside0.mk hy347
      clear hy347
      have H':=Aside0.mk H
      clear H
      try go_wp2
      have n0_:=Aside0.mk (Kd.S_drew HO_3.out)
      have n1_:=Aside0.mk (below_drew1 HB.out)
      clear HO_3
      clear HB
      have HO_3:=n0_
      have HB:=n1_
      clear n0_ n1_
      have p342:0≤(x4_1:Int):=zod
      have q342:x4_1 < (l0.length:Int):=zod
      obtain ⟨ad342,A342_0,c342_0,e342,hx342_0,hx342_1,hl342_0,hi342_0⟩:=at_T33 HR0.out x4_1 p342 q342
      have hw342_1:=hx342_1
      have hw342_0:=hx342_0
      cases e342
      replace hx342_0:=(HB.out.cell (World.block_lt_of_cell? w _ hx342_0)).trans hx342_0
      replace hx342_1:=(HB.out.cell (World.block_lt_of_cell? w _ hx342_1)).trans hx342_1
      have HR342_0:=Aside0.mk hi342_0
      have HC342_0:=Aside0.mk hl342_0
      clear hi342_0 hl342_0
      replace p342:=eq_true p342
      replace q342:=eq_true q342
      have p346:0≤(x4_1:Int):=zod
      have q346:x4_1 < (l0.length:Int):=zod
      obtain ⟨ad346,A346_0,c346_0,e346,hx346_0,hx346_1,hl346_0,hi346_0⟩:=at_T33 HR0.out x4_1 p346 q346
      have hw346_1:=hx346_1
      have hw346_0:=hx346_0
      obtain rfl:ad342=ad346:=(by injection e346)
      replace hx346_0:=(HB.out.cell (World.block_lt_of_cell? w _ hx346_0)).trans hx346_0
      replace hx346_1:=(HB.out.cell (World.block_lt_of_cell? w _ hx346_1)).trans hx346_1
      have HR346_0:=Aside0.mk hi346_0
      have HC346_0:=Aside0.mk hl346_0
      clear hi346_0 hl346_0
      replace p346:=eq_true p346
      replace q346:=eq_true q346
      have ea_:=Option.some.inj (hx342_0.symm.trans hx346_0)
      injection ea_ with ea_ en_ ec_
      subst ea_
      subst ec_
      clear en_
      refine start_ (n:=16) (S:=fun w'=>w'.cell? (ad342.add ((x4_1).toNat * 2))=some (.slice A342_0 ((rd_T33 l0 x4_1).f0).length c342_0)∧w'.cell? ⟨(ad342.add ((x4_1).toNat * 2)).block,(ad342.add ((x4_1).toNat * 2)).off + 1,none⟩=some (.int .i64 ((rd_T33 l0 x4_1).f1))∧w'.cell? (ad342.add ((x4_1).toNat * 2))=some (.slice A342_0 ((rd_T33 l0 x4_1).f0).length c342_0)∧w'.cell? ⟨(ad342.add ((x4_1).toNat * 2)).block,(ad342.add ((x4_1).toNat * 2)).off + 1,none⟩=some (.int .i64 ((rd_T33 l0 x4_1).f1))) (ds:=[]) #[X,X,X,X,X,X,X,X,X,X,X,X,X,X,X,X] (by kernel_rfl) rfl rfl ⟨((HB.out.cell (World.block_lt_of_cell? w _ hw342_0)).trans hw342_0),((HB.out.cell (World.block_lt_of_cell? w _ hw342_1)).trans hw342_1),((HB.out.cell (World.block_lt_of_cell? w _ hw346_0)).trans hw346_0),((HB.out.cell (World.block_lt_of_cell? w _ hw346_1)).trans hw346_1)⟩ (fun hHeld=>?_);refine with_tabW spec_l2Copy.tab5 spec_l2Copy.bits5 (fun HT_ HW_=>?_)
      generalize wr.drew=w8 at HO_3 HB HR342_0 HR346_0 hx342_0 hx342_1 hx346_0 hx346_1 hHeld ⊢
      refine pure_ (i:=0) (N:=some 12) (v:=?_) (a':=?_) #[Y,X,X,X,X,X,X,X,X,X,X,X,X,X,X,X] rfl rfl zan (fun _ _ _ h=>h) (Or.inl ⟨by rfl,?_⟩) ?_ ?_
      rotate_left
      ·intro w'
       go_simp
       with_reducible rfl
      rotate_left
      ·simp only [Act.put,zp1,zp2,zp3,i64_w,i32_w]
       rfl
      refine pure_ (i:=1) (N:=some 13) (v:=?_) (a':=?_) #[Y,Y,X,X,X,X,X,X,X,X,X,X,X,X,X,X] rfl rfl zan (fun _ _ _ h=>h) (Or.inl ⟨by rfl,?_⟩) ?_ ?_
      rotate_left
      ·intro w'
       go_simp
       with_reducible rfl
      rotate_left
      ·simp only [Act.put,zp1,zp2,zp3,i64_w,i32_w]
       rfl
      refine pure_ (i:=2) (N:=some 14) (v:=?_) (a':=?_) #[Y,Y,Y,X,X,X,X,X,X,X,X,X,X,X,X,X] rfl rfl zan (fun _ _ _ h=>h) (Or.inl ⟨by rfl,?_⟩) ?_ ?_
      rotate_left
      ·intro w'
       go_simp
       with_reducible rfl
      rotate_left
      ·simp only [Act.put,zp1,zp2,zp3,i64_w,i32_w]
       rfl
      refine pure_ (i:=3) (N:=some 15) (v:=?_) (a':=?_) #[Y,Y,Y,Y,X,X,X,X,X,X,X,X,X,X,X,X] rfl rfl zan (fun _ _ _ h=>h) (Or.inl ⟨by rfl,?_⟩) ?_ ?_
      rotate_left
      ·intro w'
       go_simp
       with_reducible rfl
      rotate_left
      ·simp only [Act.put,zp1,zp2,zp3,i64_w,i32_w]
       rfl
      refine pure_ (i:=4) (N:=some 16) (v:=?_) (a':=?_) #[Y,Y,Y,Y,Y,X,X,X,X,X,X,X,X,X,X,X] rfl rfl zan (fun _ _ _ h=>h) (Or.inl ⟨by rfl,?_⟩) ?_ ?_
      rotate_left
      ·intro w'
       go_simp
       with_reducible rfl
      rotate_left
      ·simp only [Act.put,zp1,zp2,zp3,i64_w,i32_w]
       rfl
      refine pure_ (i:=7) (N:=some 19) (v:=?_) (a':=?_) #[Y,Y,Y,Y,Y,X,X,Y,X,X,X,X,X,X,X,X] rfl rfl zan (fun _ _ _ h=>h) (Or.inl ⟨by rfl,?_⟩) ?_ ?_
      rotate_left
      ·intro w'
       go_simp
       with_reducible rfl
      rotate_left
      ·simp only [Act.put,zp1,zp2,zp3,i64_w,i32_w]
       rfl
      refine pure_ (i:=8) (N:=some 20) (v:=?_) (a':=?_) #[Y,Y,Y,Y,Y,X,X,Y,Y,X,X,X,X,X,X,X] rfl rfl zan (fun _ _ _ h=>h) (Or.inl ⟨by rfl,?_⟩) ?_ ?_
      rotate_left
      ·intro w'
       go_simp
       with_reducible rfl
      rotate_left
      ·simp only [Act.put,zp1,zp2,zp3,i64_w,i32_w]
       rfl
      refine pure_ (i:=9) (N:=some 21) (v:=?_) (a':=?_) #[Y,Y,Y,Y,Y,X,X,Y,Y,Y,X,X,X,X,X,X] rfl rfl zan (fun _ _ _ h=>h) (Or.inl ⟨by rfl,?_⟩) ?_ ?_
      rotate_left
      ·intro w'
       go_simp
       with_reducible rfl
      rotate_left
      ·simp only [Act.put,zp1,zp2,zp3,i64_w,i32_w]
       rfl
      refine pure_ (i:=10) (N:=some 22) (v:=?_) (a':=?_) #[Y,Y,Y,Y,Y,X,X,Y,Y,Y,Y,X,X,X,X,X] rfl rfl zan (fun _ _ _ h=>h) (Or.inl ⟨by rfl,?_⟩) ?_ ?_
      rotate_left
      ·intro w'
       go_simp
       with_reducible rfl
      rotate_left
      ·simp only [Act.put,zp1,zp2,zp3,i64_w,i32_w]
       rfl
      refine take_ (i:=5) (N:=some 17) (v:=?_) (a':=?_) #[Y,Y,Y,Y,Y,Y,X,Y,Y,Y,Y,X,X,X,X,X] rfl rfl ztw (fun _ _ _ h=>h) (Or.inl ⟨by rfl,?_⟩) hHeld ?_ ?_
      rotate_left
      ·rintro w' ⟨s0,s1,s2,s3⟩
       go_simp
       with_reducible rfl
      rotate_left
      ·simp only [Act.put,zp1,zp2,zp3,i64_w,i32_w]
       rfl
      refine take_ (i:=11) (N:=some 23) (v:=?_) (a':=?_) #[Y,Y,Y,Y,Y,Y,X,Y,Y,Y,Y,Y,X,X,X,X] rfl rfl ztw (fun _ _ _ h=>h) (Or.inl ⟨by rfl,?_⟩) hHeld ?_ ?_
      rotate_left
      ·rintro w' ⟨s0,s1,s2,s3⟩
       go_simp
       with_reducible rfl
      rotate_left
      ·simp only [Act.put,zp1,zp2,zp3,i64_w,i32_w]
       rfl
      refine one_ (i:=6) (N:=some 18) #[Y,Y,Y,Y,Y,Y,Y,Y,Y,Y,Y,Y,X,X,X,X] rfl rfl (one_of HT_.out (by kernel_rfl)) (by decide) (fun K hK=>?_)
      refine goes_ Tryz.func73 (by kernel_rfl) rfl #[.slice A342_0 ((rd_T33 l0 x4_1).f0).length c342_0] (by rfl) rfl rfl zar ?_
      with_reducible refine (spec_l1Copy.calls _ _ ((rd_T33 l0 x4_1).f0) t343 _ ?side1 ?side2 A6.out).mono ?_
      (case side1=>exact zC (Kd.C_below HR342_0.out HB.out))
      (case side2=>exact HC342_0.out)
      rintro e w9 ⟨v344,rfl,ho0,hb⟩
      refine ⟨_,rfl,?_⟩
      have n0_:=Aside0.mk (Kd.S_elder' (by (with_reducible repeat (first|apply Kd.S_alloc|apply Kd.S_drewN|apply Kd.S_drew));exact HO_3.out) (Kd.R_base ho0) hb)
      have n1_:=Aside0.mk (Kd.R_lower ho0 (below_size zhb))
      have n2_:=Aside0.mk (below_step zhb hb)
      clear HO_3
      clear HB
      have HO_3:=n0_
      have HO345:=n1_
      have HB:=n2_
      clear n0_ n1_ n2_
      (try clear hb)
      (try clear hb2)
      (try clear hk)
      (try clear hi)
      (try clear ho0)
      obtain ⟨Ao10,co10,eo10⟩:=Kd.R_slice HO345.out
      (first|subst eo10|(injection eo10 with f1_ f2_ f3_;have f4_:=f1_.symm;have f5_:=f3_.symm;clear f1_ f2_ f3_;subst f4_;subst f5_))
      refine hK.out _ _ ⟨((HB.out.cell (World.block_lt_of_cell? w _ hw342_0)).trans hw342_0),((HB.out.cell (World.block_lt_of_cell? w _ hw342_1)).trans hw342_1),((HB.out.cell (World.block_lt_of_cell? w _ hw346_0)).trans hw346_0),((HB.out.cell (World.block_lt_of_cell? w _ hw346_1)).trans hw346_1)⟩ (fun hHeld=>?_)
      clear hK K
      refine norm_ (a':=?_) ?_ ?_
      rotate_left
      ·show Act.put _ (some 18) _=_
       simp only [Act.put,zp1,zp2,zp3,i64_w,i32_w]
       rfl
      refine pure_ (i:=12) (N:=some 24) (v:=?_) (a':=?_) #[Y,Y,Y,Y,Y,Y,Y,Y,Y,Y,Y,Y,Y,X,X,X] rfl rfl zan (fun _ _ _ h=>h) (Or.inl ⟨by rfl,?_⟩) ?_ ?_
      rotate_left
      ·intro w'
       go_simp
       with_reducible rfl
      rotate_left
      ·simp only [Act.put,zp1,zp2,zp3,i64_w,i32_w]
       rfl
      refine one_ (i:=13) (N:=some 25) #[Y,Y,Y,Y,Y,Y,Y,Y,Y,Y,Y,Y,Y,Y,X,X] rfl rfl (one_of HT_.out (by kernel_rfl)) (by decide) (fun K hK=>?_)
      refine value_ (w1:=?_) (v:=?_) (by rfl) rfl ?_ ?_
      rotate_left 2
      ·go_simp
       constructor
       ·rfl
       ·rfl
      refine hK.out _ _ ⟨(World.cell?_alloc_lt _ _ _ (World.block_lt_of_cell? _ _ (((HB.out.cell (World.block_lt_of_cell? w _ hw342_0)).trans hw342_0)))).trans (((HB.out.cell (World.block_lt_of_cell? w _ hw342_0)).trans hw342_0)),(World.cell?_alloc_lt _ _ _ (World.block_lt_of_cell? _ _ (((HB.out.cell (World.block_lt_of_cell? w _ hw342_1)).trans hw342_1)))).trans (((HB.out.cell (World.block_lt_of_cell? w _ hw342_1)).trans hw342_1)),(World.cell?_alloc_lt _ _ _ (World.block_lt_of_cell? _ _ (((HB.out.cell (World.block_lt_of_cell? w _ hw346_0)).trans hw346_0)))).trans (((HB.out.cell (World.block_lt_of_cell? w _ hw346_0)).trans hw346_0)),(World.cell?_alloc_lt _ _ _ (World.block_lt_of_cell? _ _ (((HB.out.cell (World.block_lt_of_cell? w _ hw346_1)).trans hw346_1)))).trans (((HB.out.cell (World.block_lt_of_cell? w _ hw346_1)).trans hw346_1))⟩ (fun hHeld=>?_)
      clear hK K
      refine norm_ (a':=?_) ?_ ?_
      rotate_left
      ·show Act.put _ (some 25) _=_
       simp only [Act.put,zp1,zp2,zp3,i64_w,i32_w]
       rfl
      refine one_ (i:=14) (N:=some 26) #[Y,Y,Y,Y,Y,Y,Y,Y,Y,Y,Y,Y,Y,Y,Y,X] rfl rfl (one_of HT_.out (by kernel_rfl)) (by decide) (fun K hK=>?_)
      refine Kd.S_append_step k33 (w0:=w) w.heap.size (by rfl) (.tmp 12) (.tmp 25) 23 33 (.agg #[(.slice none 0 0),(.int .i64 0)]) 32 rfl Tryz.underlying23 info33 rfl (by decide) (by omega) u3 x3_1 (⟨t343,(rd_T33 l0 x4_1).f1⟩:S33) [.slice Ao10 t343.length co10,.int .i64 ((rd_T33 l0 x4_1).f1)] (fun _=>True) (fun k_=>some k_=(.slice Ao10 t343.length co10:Value).ownBlock) rfl rfl ?aP (fun k_ hk_=>((Kd.R_mono (ok':=fun k_=>((fun _=>True)) k_∧some k_≠(u3:Value).ownBlock) (Kd.R_apart' (HO345.out) (Kd.S_typed HO_3.out) (by decide)) (fun k_ hk=>⟨trivial,hk.2⟩))).1 k_ hk_.symm) ?aF ?aO ?aB ?aS ?aL ?_
      (case aP=>exact k33_mkM _ _ _ (⟨t343,(rd_T33 l0 x4_1).f1⟩:S33) (Kd.R_mono (Kd.R_tight rfl (Kd.R_mono (ok':=fun k_=>((fun _=>True)) k_∧some k_≠(u3:Value).ownBlock) (Kd.R_apart' (HO345.out) (Kd.S_typed HO_3.out) (by decide)) (fun k_ hk=>⟨trivial,hk.2⟩))) (fun _ h_=>h_)))
      (case aB=>exact zhb)
      (case aF=>exact (fun _ _=>trivial))
      (case aO=>exact (by (with_reducible repeat (first|apply Kd.S_alloc|apply Kd.S_drewN|apply Kd.S_drew));exact Kd.S_mono HO_3.out (fun k_ hk=>⟨trivial,fun e_=>hk.2 e_⟩)))
      (case aS=>exact (below_size zhb))
      (case aL=>have:=LMc7.out;omega)
      intro v348 w11 ho hb hg hat
      rw [← Ny347.out] at ho
      have n0_:=Aside0.mk (hb)
      have n1_:=Aside0.mk (ho)
      clear HB
      clear HO_3
      clear HO345
      have HB:=n0_
      have HO349:=n1_
      clear n0_ n1_
      clear ho hb hg hat
      refine hK.out _ _ ⟨((HB.out.cell (World.block_lt_of_cell? w _ hw342_0)).trans hw342_0),((HB.out.cell (World.block_lt_of_cell? w _ hw342_1)).trans hw342_1),((HB.out.cell (World.block_lt_of_cell? w _ hw346_0)).trans hw346_0),((HB.out.cell (World.block_lt_of_cell? w _ hw346_1)).trans hw346_1)⟩ (fun hHeld=>?_)
      clear hK K
      refine norm_ (a':=?_) ?_ ?_
      rotate_left
      ·show Act.put _ (some 26) _=_
       simp only [Act.put,zp1,zp2,zp3,i64_w,i32_w]
       rfl
      refine pure_ (i:=15) (N:=some 3) (v:=?_) (a':=?_) #[Y,Y,Y,Y,Y,Y,Y,Y,Y,Y,Y,Y,Y,Y,Y,Y] rfl rfl zan (fun _ _ _ h=>h) (Or.inl ⟨by rfl,?_⟩) ?_ ?_
      rotate_left
      ·intro w'
       go_simp
       with_reducible rfl
      rotate_left
      ·simp only [Act.put,zp1,zp2,zp3,i64_w,i32_w]
       rfl
      refine done_ (done_of HT_.out (by kernel_rfl)) ?_
      try go_wp2
      go_roundg k1
      case measure=>have:=HK1.out;omega
      case rel=>exact ⟨(y347),(wrap64 (x4_1 + 1)),(by first|rfl|(simp;done)|(simp [*];done)),H',⟨by have:=HK1.out;omega⟩,⟨by (with_reducible repeat (first|apply Kd.S_alloc|apply Kd.S_drewN|apply Kd.S_drew));exact HO349.out⟩,⟨zhb⟩⟩
     ·rw [if_neg c7] at H
      exact absurd H (by simp)
    ·rw [if_neg c5] at H
     exact absurd H (by simp)
   ·rw [if_neg c4] at H
    have c4b0:decide (x4_1 < (l0.length:Int))=false:=decide_eq_false c4
    clear c4
    obtain rfl:=Option.some.inj H
    go_wp2
    go_ret
    exact ⟨_,by first|rfl|(simp [errW_none,errW_some] <;> rfl)|(simp [*,errW_none,errW_some] <;> rfl),by (with_reducible repeat (first|apply Kd.S_alloc|apply Kd.S_drewN|apply Kd.S_drew));exact HO_3.out,zhb⟩

end Go.Proofs.YtgcplipimcbhlaaGreatDoor.PFnZText
