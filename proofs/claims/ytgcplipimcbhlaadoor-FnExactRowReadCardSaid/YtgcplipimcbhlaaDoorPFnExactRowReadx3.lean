-- Written by wip/tools/pp.py, a program of this session over the kit's printer: not the kit's own print
import Derived.Test.YtgcplipimcbhlaaDoorPFnExactRowReadx0
import Derived.Test.YtgcplipimcbhlaaDoorPFnExactRowReadx1
import Derived.Test.YtgcplipimcbhlaaDoorPFnExactRowReadx2
namespace Go.Proofs.YtgcplipimcbhlaaDoor.PFnExactRowRead
open Go.RowKit Go.Proofs.YtgcplipimcbhlaaDoorW.PrintWords Go.Proofs.YtgcplipimcbhlaaDoorW.PrintLast Go.Proofs.YtgcplipimcbhlaaDoorW.PrintMore
attribute [local go_sem] max2_int min2_int max_two min_two max_three min_three max_four min_four   -- for this text's walks alone
set_option linter.unusedVariables false
set_option linter.unusedSimpArgs false

/-! ### spec_RowRead: function 27 -/
def spec_RowRead.l0:Nat→List ByteArray→List Int→Int→Option (List Int × Bool)
 | 0,_,_,_=>none
 | k + 1,x4,x5,x6=>if x6 < (x4.length:Int) then (if 0≤x6 then ((spec_l12Num.f k (rdOf ByteArray.empty x4 x6)).bind fun bt121=>(if bt121.2=true then (if x5.length < 17592186044416 then (spec_RowRead.l0 k x4 (x5 ++ [bt121.1]) (wrap64 (x6 + 1))) else (none)) else (some (([]:List Int),false)))) else (none)) else ((spec_RowOk.f k x5).bind fun t126=>(if t126=true then (some (x5,true)) else (some (([]:List Int),false))))
def spec_RowRead.f (k:Nat) (a0:ByteArray):Option (List Int × Bool):=if (a0.size:Int) > 100 then (some (([]:List Int),false)) else ((spec_l12Cut.f k a0 44).bind fun t114=>(spec_RowRead.l0 k t114 (([]:List Int)) 0))
theorem spec_RowRead.mono_l : ∀ k,(∀ y0 y1 y2,LeO (spec_RowRead.l0 k y0 y1 y2) (spec_RowRead.l0 (k + 1) y0 y1 y2))
 | 0=>fun _ _ _ r h=>by simp [spec_RowRead.l0] at h
 | k + 1=>by
  have ih0:=spec_RowRead.mono_l k
  ·intro y0 y1 y2
   unfold spec_RowRead.l0
   repeat' first
   | (with_reducible exact ih0 _ _ _)
   | (with_reducible exact spec_RowOk.mono _ _)
   | (with_reducible exact spec_l12Cut.mono _ _ _)
   | (with_reducible exact spec_l12Num.mono _ _)
   | (with_reducible exact LeO.refl _)
   | (with_reducible exact LeO.none _)
   | (with_reducible refine LeO.ite ?_ ?_)
   | (with_reducible refine LeO.bind ?_ (fun _=>?_))
   | exact LeO.none _
   | refine LeO.ite ?_ ?_
   | refine LeO.bind ?_ (fun _=>?_)
theorem spec_RowRead.mono : ∀ a0 k,LeO (spec_RowRead.f k a0) (spec_RowRead.f (k + 1) a0):=by
 intro a0 k
 have ih0:=spec_RowRead.mono_l k
 unfold spec_RowRead.f
 repeat' first
   | (with_reducible exact ih0 _ _ _)
   | (with_reducible exact spec_RowOk.mono _ _)
   | (with_reducible exact spec_l12Cut.mono _ _ _)
   | (with_reducible exact spec_l12Num.mono _ _)
   | (with_reducible exact LeO.refl _)
   | (with_reducible exact LeO.none _)
   | (with_reducible refine LeO.ite ?_ ?_)
   | (with_reducible refine LeO.bind ?_ (fun _=>?_))
   | exact LeO.none _
   | refine LeO.ite ?_ ?_
   | refine LeO.bind ?_ (fun _=>?_)
set_option maxHeartbeats 8000000 in
set_option maxRecDepth 100000 in
theorem spec_RowRead.calls (k:Nat) (a0:ByteArray) (r1:List Int) (r2:Bool) (w:World) (h:spec_RowRead.f k a0=some (r1,r2)) :
  Calls Tryd.prog 27 #[.string a0] w fun e w'=>∃ v0_:Value,e=.returned (.tuple #[v0_,.bool r2])∧Kd.R (Kd.int .i64) 3 w' w.heap.size (fun _=>True) v0_ r1∧Below w.heap.size w w':=by
 have HB:=Aside0.mk (Below.refl w.heap.size w)
 have H:(if (a0.size:Int) > 100 then (some (([]:List Int),false)) else ((spec_l12Cut.f k a0 44).bind fun t114=>(spec_RowRead.l0 k t114 (([]:List Int)) 0)))=some (r1,r2):=h
 clear h
 by_cases c2:(a0.size:Int) > 100
 ·rw [if_pos c2] at H
  have c2b0:decide (100 < (a0.size:Int))=true:=decide_eq_true c2
  have c2b1:decide (100 < a0.size)=true:=decide_eq_true (by omega)
  clear c2
  simp only [Option.some.injEq,Prod.mk.injEq] at H
  obtain ⟨rfl,rfl⟩:=H
  go_enter Tryd.func27,Tryd.ntmps27
  go_wp2
  go_ret2
  exact ⟨_,by first|rfl|(simp [errW_none,errW_some] <;> rfl)|(simp [*,errW_none,errW_some] <;> rfl),by first|exact Kd.R_nil _ _ _ _ _|exact Kd.N_nil _ _ _ _ _|exact Kd.V_nil _ _ _ _ _|exact Kd.Q_nil _ _ _ _ _|exact Kd.S_nil _ _ _ _ _,zhb⟩
 ·rw [if_neg c2] at H
  have c2b0:decide (100 < (a0.size:Int))=false:=decide_eq_false c2
  have c2b1:decide (100 < a0.size)=false:=decide_eq_false (by omega)
  clear c2
  replace H:=Option.bind_eq_some_iff.mp H
  obtain ⟨t114,A30,H⟩:=H
  (try dsimp only at H)
  have A3:=Aside0.mk A30
  clear A30
  obtain ⟨y117,hy117⟩ : ∃ y_:List Int,y_=(([]:List Int)):=⟨_,rfl⟩
  replace H:(spec_RowRead.l0 k t114 y117 0)=some (r1,r2):=by first|(rw [hy117];with_reducible exact H)|(have H2_:=(Option.bind_some _ _).symm.trans H;rw [hy117];with_reducible exact H2_)|(have H2_:=(Option.bind_some _ _).symm.trans H;with_reducible exact H2_)|with_reducible exact H|(rw [hy117];exact H)|exact H
  have Ny117:=Aside0.mk hy117
  clear hy117
  have H':=Aside0.mk H
  clear H
  go_enter Tryd.func27,Tryd.ntmps27
  go_wp2_with (first|((with_reducible refine gate_callee (f:=36) rfl ?_);refine goesL_ (some 13) rfl rfl Tryd.func36 (by kernel_rfl) rfl #[.string a0,.int .u8 44] rfl zar ?_;(with_reducible refine (spec_l12Cut.calls k a0 44 t114 _ A3.out).mono ?_);rintro e w4 ⟨v115,rfl,ho0,hb⟩;refine ⟨_,rfl,?_⟩;have n0_:=Aside0.mk (Kd.R_lower ho0 (below_size zhb));have n1_:=Aside0.mk (below_step zhb hb);clear HB;have HO116:=n0_;have HB:=n1_;clear n0_ n1_;(try clear hb);(try clear hb2);(try clear hk);(try clear hi);(try clear ho0))|((with_reducible refine gate_dst (N:=14) rfl ?_);refine Kd.R_lit (Kd.int .i64) _ 3 ?hg (N:=14) ?hd (xs:=([]:List Int)) (inner:=[]) (ok:=fun _=>True) (okp:=fun _=>True) ?hr ?hp (fun _ hk=>hk) trivial (Below.refl _ _) (Nat.le_refl _) (by simp) ?_;(case hd=>rfl);(case hg=>rfl);(case hr=>first|(go_simp;done)|(go_simp;rfl));(case hp=>exact (Reps.none _ _));intro v118 w5 ho6 hb hg_ hnew_;clear hg_ hnew_;(first|rw [← Ny117.out] at ho6|(simp only [Int.reduceToNat] at ho6;rw [← Ny117.out] at ho6));have n0_:=Aside0.mk (Kd.R_below (by (with_reducible repeat (first|apply Kd.R_alloc|apply Kd.R_drewN|apply Kd.R_drew));exact HO116.out) hb);have n1_:=Aside0.mk (Kd.R_lower ho6 (below_size zhb));have n2_:=Aside0.mk (below_step zhb hb);clear HO116;clear HB;have HO116:=n0_;have HO119:=n1_;have HB:=n2_;clear n0_ n1_ n2_;clear hb ho6))
  go_loopg [5,6] k (fun kq v5 v6 w'=>∃ (x5_1:List Int) (x6_1:Int),v6=.int .i64 x6_1∧Aside0 (spec_RowRead.l0 kq t114 x5_1 x6_1=some (r1,r2))∧Aside0 (kq≤k)∧Aside0 (Kd.R Kd.string 9 w' w.heap.size (fun _=>True) v115 t114)∧Aside0 (Kd.R (Kd.int .i64) 3 w' w.heap.size (fun _=>True) v5 x5_1)∧Aside0 (Below w.heap.size w w'))
  case atStart=>exact ⟨(y117),(0),(by first|rfl|(simp;done)|(simp [*];done)),H',⟨Nat.le_refl _⟩,⟨by (with_reducible repeat (first|apply Kd.R_alloc|apply Kd.R_drewN|apply Kd.R_drew));exact HO116.out⟩,⟨by (with_reducible repeat (first|apply Kd.R_alloc|apply Kd.R_drewN|apply Kd.R_drew));exact HO119.out⟩,⟨zhb⟩⟩
  case round =>
   clear H'
   try clear c2
   try clear c2b0
   try clear c2b1
   try clear p2
   try clear c3
   obtain ⟨x5_1,x6_1,rfl,HA,HK1,HO_4,HO_5,HB⟩:=hrel
   cases gk with
   | zero=>exact absurd HA.out (by simp [spec_RowRead.l0])
   | succ k1 =>
    have H:=HA.out
    clear HA
    simp only [spec_RowRead.l0] at H
    by_cases c7:x6_1 < (t114.length:Int)
    ·rw [if_pos c7] at H
     have c7b0:decide (x6_1 < (t114.length:Int))=true:=decide_eq_true c7
     clear c7
     by_cases c8:0≤x6_1
     ·rw [if_pos c8] at H
      have c8b0:decide (0≤x6_1)=true:=decide_eq_true c8
      clear c8
      replace H:=Option.bind_eq_some_iff.mp H
      obtain ⟨⟨t121,t122⟩,A90,H⟩:=H
      (try dsimp only at H)
      have A9:=Aside0.mk A90
      clear A90
      by_cases c10:t122=true
      ·subst c10
       have H1:(if x5_1.length < 17592186044416 then (spec_RowRead.l0 k1 t114 (x5_1 ++ [t121]) (wrap64 (x6_1 + 1))) else (none))=some (r1,r2):=by rw [if_pos rfl] at H;exact H
       clear H
       have H:=H1
       clear H1
       by_cases c11:x5_1.length < 17592186044416
       ·rw [if_pos c11] at H
        have LMc11:=Aside0.mk c11
        clear c11
        obtain ⟨y123,hy123⟩ : ∃ y_:List Int,y_=(x5_1 ++ [t121]):=⟨_,rfl⟩
        replace H:(spec_RowRead.l0 k1 t114 y123 (wrap64 (x6_1 + 1)))=some (r1,r2):=by first|(rw [hy123];with_reducible exact H)|(have H2_:=(Option.bind_some _ _).symm.trans H;rw [hy123];with_reducible exact H2_)|(have H2_:=(Option.bind_some _ _).symm.trans H;with_reducible exact H2_)|with_reducible exact H|(rw [hy123];exact H)|exact H
        have Ny123:=Aside0.mk hy123
        clear hy123
        have H':=Aside0.mk H
        clear H
        obtain ⟨Ao12,co12,eo12⟩:=Kd.R_slice HO_4.out
        subst eo12
        have p120:0≤(x6_1:Int):=zod
        have q120:x6_1 < (t114.length:Int):=zod
        obtain ⟨ad120,e120,hx120_0⟩:=Kd.at_string (Kd.R_reads' HO_4.out).2.2 x6_1 p120 q120
        cases e120
        replace p120:=eq_true p120
        replace q120:=eq_true q120
        go_wp2_with (first|((with_reducible refine gate_callee (f:=57) rfl ?_);refine goesL_ (some 26) rfl rfl Tryd.func57 (by kernel_rfl) rfl #[.string (rdOf ByteArray.empty t114 x6_1)] rfl zar ?_;(with_reducible refine (spec_l12Num.calls k1 (rdOf ByteArray.empty t114 x6_1) t121 true _ A9.out).mono ?_);rintro e w' ⟨rfl,⟨nd,rfl⟩⟩;refine ⟨_,rfl,?_⟩)|((with_reducible refine gate_builtin (b:=.append) (xs:=#[.tmp 31,.tmp 33]) rfl ?_);at_builtin;refine Kd.R_append (Kd.int .i64) (w0:=w) w.heap.size rfl (.tmp 31) (.tmp 33) 28 3 (.int .i64 0) 8 rfl Tryd.underlying28 info3 rfl (by decide) (by omega) u5 x5_1 t121 [.int .i64 t121] (fun _=>True) (fun _=>False) rfl rfl ?aP (fun _ hk=>hk.elim) ?aF ?aO ?aB ?aS ?aL ?_;(case aP=>exact rfl);(case aB=>exact zhb);(case aF=>exact (fun _ _=>trivial));(case aO=>exact (by (with_reducible repeat (first|apply Kd.R_alloc|apply Kd.R_drewN|apply Kd.R_drew));exact HO_5.out));(case aS=>exact (below_size zhb));(case aL=>have:=LMc11.out;omega);intro v124 w13 ho hb hg hat;rw [← Ny123.out] at ho;have n0_:=Aside0.mk (Kd.R_over' (by (with_reducible repeat (first|apply Kd.R_alloc|apply Kd.R_drewN|apply Kd.R_drew));exact HO_4.out) (Kd.R_typed (by (with_reducible repeat (first|apply Kd.R_alloc|apply Kd.R_drewN|apply Kd.R_drew));exact HO_5.out)) (by decide) hg);have n1_:=Aside0.mk (hb);have n2_:=Aside0.mk (ho);clear HO_4;clear HB;clear HO_5;have HO_4:=n0_;have HB:=n1_;have HO125:=n2_;clear n0_ n1_ n2_;clear ho hb hg hat))
        go_roundg k1
        case measure=>have:=HK1.out;omega
        case rel=>exact ⟨(y123),(wrap64 (x6_1 + 1)),(by first|rfl|(simp;done)|(simp [*];done)),H',⟨by have:=HK1.out;omega⟩,⟨by (with_reducible repeat (first|apply Kd.R_alloc|apply Kd.R_drewN|apply Kd.R_drew));exact HO_4.out⟩,⟨by (with_reducible repeat (first|apply Kd.R_alloc|apply Kd.R_drewN|apply Kd.R_drew));exact HO125.out⟩,⟨zhb⟩⟩
       ·rw [if_neg c11] at H
        exact absurd H (by simp)
      ·replace c10:=Bool.eq_false_iff.mpr c10
       subst c10
       have H1:(some (([]:List Int),false))=some (r1,r2):=by rw [if_neg (show ¬ (false=true) by decide)] at H;exact H
       clear H
       have H:=H1
       clear H1
       simp only [Option.some.injEq,Prod.mk.injEq] at H
       obtain ⟨rfl,rfl⟩:=H
       obtain ⟨Ao14,co14,eo14⟩:=Kd.R_slice HO_4.out
       subst eo14
       have p120:0≤(x6_1:Int):=zod
       have q120:x6_1 < (t114.length:Int):=zod
       obtain ⟨ad120,e120,hx120_0⟩:=Kd.at_string (Kd.R_reads' HO_4.out).2.2 x6_1 p120 q120
       cases e120
       replace p120:=eq_true p120
       replace q120:=eq_true q120
       go_wp2_with (first|((with_reducible refine gate_callee (f:=57) rfl ?_);refine goesL_ (some 26) rfl rfl Tryd.func57 (by kernel_rfl) rfl #[.string (rdOf ByteArray.empty t114 x6_1)] rfl zar ?_;(with_reducible refine (spec_l12Num.calls k1 (rdOf ByteArray.empty t114 x6_1) t121 false _ A9.out).mono ?_);rintro e w' ⟨rfl,⟨nd,rfl⟩⟩;refine ⟨_,rfl,?_⟩))
       go_ret2
       exact ⟨_,by first|rfl|(simp [errW_none,errW_some] <;> rfl)|(simp [*,errW_none,errW_some] <;> rfl),by first|exact Kd.R_nil _ _ _ _ _|exact Kd.N_nil _ _ _ _ _|exact Kd.V_nil _ _ _ _ _|exact Kd.Q_nil _ _ _ _ _|exact Kd.S_nil _ _ _ _ _,zhb⟩
     ·rw [if_neg c8] at H
      exact absurd H (by simp)
    ·rw [if_neg c7] at H
     have c7b0:decide (x6_1 < (t114.length:Int))=false:=decide_eq_false c7
     clear c7
     replace H:=Option.bind_eq_some_iff.mp H
     obtain ⟨t126,A150,H⟩:=H
     (try dsimp only at H)
     have A15:=Aside0.mk A150
     clear A150
     by_cases c16:t126=true
     ·subst c16
      have H1:(some (x5_1,true))=some (r1,r2):=by rw [if_pos rfl] at H;exact H
      clear H
      have H:=H1
      clear H1
      simp only [Option.some.injEq,Prod.mk.injEq] at H
      obtain ⟨rfl,rfl⟩:=H
      obtain ⟨Ao17,co17,eo17⟩:=Kd.R_slice HO_4.out
      subst eo17
      obtain ⟨Ao18,co18,eo18⟩:=Kd.R_slice HO_5.out
      subst eo18
      go_wp2_with (first|((with_reducible refine gate_callee (f:=33) rfl ?_);refine goesL_ (some 36) rfl rfl Tryd.func33 (by kernel_rfl) rfl #[.slice Ao18 x5_1.length co18] rfl zar ?_;(with_reducible refine (spec_RowOk.calls k1 _ _ x5_1 true _ ?side1 ?side2 A15.out).mono ?_);(case side1=>repeat (first|exact (Kd.R_reads' HO_5.out).2.2|(with_reducible refine Kd.C_alloc ?_ _)|(with_reducible refine Kd.C_drewN ?_ _)|(with_reducible refine Kd.C_drew ?_)));(case side2=>exact (Kd.R_reads' HO_5.out).2.1);rintro e w' ⟨rfl,⟨nd,rfl⟩⟩;refine ⟨_,rfl,?_⟩))
      go_ret2
      exact ⟨_,by first|rfl|(simp [errW_none,errW_some] <;> rfl)|(simp [*,errW_none,errW_some] <;> rfl),by (with_reducible repeat (first|apply Kd.R_alloc|apply Kd.R_drewN|apply Kd.R_drew));exact HO_5.out,zhb⟩
     ·replace c16:=Bool.eq_false_iff.mpr c16
      subst c16
      have H1:(some (([]:List Int),false))=some (r1,r2):=by rw [if_neg (show ¬ (false=true) by decide)] at H;exact H
      clear H
      have H:=H1
      clear H1
      simp only [Option.some.injEq,Prod.mk.injEq] at H
      obtain ⟨rfl,rfl⟩:=H
      obtain ⟨Ao19,co19,eo19⟩:=Kd.R_slice HO_4.out
      subst eo19
      obtain ⟨Ao20,co20,eo20⟩:=Kd.R_slice HO_5.out
      subst eo20
      go_wp2_with (first|((with_reducible refine gate_callee (f:=33) rfl ?_);refine goesL_ (some 36) rfl rfl Tryd.func33 (by kernel_rfl) rfl #[.slice Ao20 x5_1.length co20] rfl zar ?_;(with_reducible refine (spec_RowOk.calls k1 _ _ x5_1 false _ ?side1 ?side2 A15.out).mono ?_);(case side1=>repeat (first|exact (Kd.R_reads' HO_5.out).2.2|(with_reducible refine Kd.C_alloc ?_ _)|(with_reducible refine Kd.C_drewN ?_ _)|(with_reducible refine Kd.C_drew ?_)));(case side2=>exact (Kd.R_reads' HO_5.out).2.1);rintro e w' ⟨rfl,⟨nd,rfl⟩⟩;refine ⟨_,rfl,?_⟩))
      go_ret2
      exact ⟨_,by first|rfl|(simp [errW_none,errW_some] <;> rfl)|(simp [*,errW_none,errW_some] <;> rfl),by first|exact Kd.R_nil _ _ _ _ _|exact Kd.N_nil _ _ _ _ _|exact Kd.V_nil _ _ _ _ _|exact Kd.Q_nil _ _ _ _ _|exact Kd.S_nil _ _ _ _ _,zhb⟩

/-! ### impl_RowText: function 16 (by hand) -/
theorem tab_on {P:Program} {w w':World} {nm:String} {k:IntKind} {zs:List Int} (h:Lib.TabIs P w nm k zs) (hb:Below w.heap.size w w'):Lib.TabIs P w' nm k zs:=Lib.tabBelow_of_tabIs h w' hb
theorem var_on {P:Program} {w w':World} {nm:String} {cs:Array Value} (h:w.var? P nm=some cs) (hb:Below w.heap.size w w'):w'.var? P nm=some cs:=by
 unfold World.var? at *
 cases hg:P.globalNamed nm with
 | none=>simp [hg] at h
 | some g =>
  simp only [hg,Option.bind_some] at h ⊢
  have hlt:g < w.heap.size:=by
   rcases Nat.lt_or_ge g w.heap.size with h'|h'
   ·exact h'
   ·rw [Array.getElem?_eq_none h'] at h;simp at h
  rw [hb.block g hlt]
  exact h
/-- what the texts' functions find in the library's variables -/
def TxtW (w : World) : Prop := Lib.TabIs Tryd.prog w "internal/strconv.uint64pow10" .u64 Lib.pow10Tab ∧ (∃ tp p, w.var? Tryd.prog "strconv.ErrSyntax" = some #[.iface tp p]) ∧ (∃ tp p, w.var? Tryd.prog "strconv.ErrRange" = some #[.iface tp p])
theorem TxtW.on {w w':World} (h:TxtW w) (hb:Below w.heap.size w w'):TxtW w':=by
 obtain ⟨h1,⟨t1,p1,h2⟩,⟨t2,p2,h3⟩⟩:=h
 exact ⟨Lib.tabBelow_of_tabIs h1 w' hb,⟨t1,p1,var_on h2 hb⟩,⟨t2,p2,var_on h3 hb⟩⟩
/-- a row's text: the numerals, with a comma between -/
def tailB (l:List Int):List UInt8:=(l.map (fun x=>44 :: Lib.itoa x)).flatten
def rowB:List Int→List UInt8
 | []=>[]
 | x :: l=>Lib.itoa x ++ tailB l
theorem rowB_snoc (l:List Int) (x:Int):rowB (l ++ [x])=rowB l ++ ((if l = [] then [] else [44]) ++ Lib.itoa x):=by
 cases l with
 | nil=>simp [rowB,tailB]
 | cons y l=>simp [rowB,tailB,List.append_assoc]
def okI (x:Int):Bool:=decide (-9223372036854775808≤x) && decide (x≤9223372036854775807)
theorem okI_iff {x:Int}:okI x=true ↔ (-9223372036854775808≤x∧x≤9223372036854775807):=by unfold okI;simp
theorem tailB_len (l:List Int) (h : ∀ x ∈ l,okI x=true):(tailB l).length≤22 * l.length:=by
 induction l with
 | nil=>simp [tailB]
 | cons x l ih =>
  have h1:=okI_iff.1 (h x List.mem_cons_self)
  have h2:=Lib.itoa_length_le x h1.1 h1.2
  have h3:=ih (fun y hy=>h y (List.mem_cons_of_mem _ hy))
  have e:(tailB (x :: l)).length=1 + (Lib.itoa x).length + (tailB l).length:=by simp [tailB];omega
  rw [e,List.length_cons]
  omega
theorem rowB_len (l:List Int) (h : ∀ x ∈ l,okI x=true):(rowB l).length≤22 * l.length:=by
 cases l with
 | nil=>simp [rowB]
 | cons x l =>
  have h1:=okI_iff.1 (h x List.mem_cons_self)
  have h2:=Lib.itoa_length_le x h1.1 h1.2
  have h3:=tailB_len l (fun y hy=>h y (List.mem_cons_of_mem _ hy))
  rw [rowB,List.length_append,List.length_cons]
  omega
def impl_RowText.f (l0:List Int):Option ByteArray:=if l0.length≤1048576 then (if l0.all okI=true then some ⟨(rowB l0).toArray⟩ else none) else none
theorem intOf_k (k:Nat):(intOf (.int .i64 (k:Int))).toNat=k:=by simp [intOf]
theorem infoByte:(Tryd.prog.info? 5).map (fun i=>(i.zero,i.size,i.bytes))=some (some (.int .u8 0),1,1):=by kernel_rfl
set_option maxHeartbeats 8000000 in
set_option maxRecDepth 100000 in
theorem impl_RowText.calls (A0 : Option Addr) (c0 : Nat) (l0 : List Int) (r : ByteArray) (w : World) (hr0 : Kd.C (Kd.int .i64) w A0 l0.length l0) (hc0 : l0.length ≤ c0) (h : impl_RowText.f l0 = some r) (hT : Lib.TabIs Tryd.prog w "internal/strconv.uint64pow10" .u64 Lib.pow10Tab := by first | exact (TxtW.on HT0.out zhb).1 | exact tab_on HT0.out zhb) :
  Calls Tryd.prog 16 #[.slice A0 l0.length c0] w fun e w'=>e=.returned (.string r)∧Below w.heap.size w w':=by
 unfold impl_RowText.f at h
 by_cases hl:l0.length≤1048576
 case neg=>rw [if_neg hl] at h;cases h
 rw [if_pos hl] at h
 by_cases ha:l0.all okI=true
 case neg=>rw [if_neg ha] at h;cases h
 rw [if_pos ha] at h
 obtain rfl:=Option.some.inj h
 clear h
 have hok : ∀ x ∈ l0,okI x=true:=List.all_eq_true.1 ha
 obtain ⟨i0,hi,hz0,hz1,hz2⟩:=info_parts infoByte
 have HR:=Aside0.mk hr0
 have HL:=Aside0.mk hl
 have HOK:=Aside0.mk hok
 have HTB:=Aside0.mk (Lib.tabBelow_of_tabIs hT)
 clear hr0 hl hok ha hT hc0
 go_enter Tryd.func16,Tryd.ntmps16
 go_wp2
 go_loopw [3,8] (fun v i wr=>∃ k:Nat,k≤l0.length∧i=.int .i64 k∧wr.ownsRow w.heap.size 5 1 v (rowB (l0.take k)).length (Lib.byteCells (rowB (l0.take k)))∧Below w.heap.size w wr)
  (fun _ i _=>l0.length - (intOf i).toNat)
 case atStart=>exact ⟨0,Nat.zero_le _,rfl,World.ownsRow_nil _ _ _ _,Below.refl _ _⟩
 case round =>
  obtain ⟨k,hk,rfl,hown,hnx⟩:=hrel
  have HOW:=Aside0.mk hown
  have HNX:=Aside0.mk hnx
  clear hown hnx
  by_cases hlt:k < l0.length
  case neg =>
   have hkl:k=l0.length:=by omega
   have f0:decide ((k:Int) < (l0.length:Int))=false:=decide_eq_false (by omega)
   have f1:decide (k < l0.length)=false:=decide_eq_false (by omega)
   subst hkl
   have hown:=HOW.out
   rw [List.take_length] at hown
   obtain ⟨l,hl⟩ : ∃ l,l=rowB l0:=⟨_,rfl⟩
   rw [← hl] at hown
   have HLL:=Aside0.mk hl
   clear hl HOW hk hlt
   rcases hown.2 with ⟨hv,h0⟩|⟨g,cap,cur,rfl,-,-,-,-,-,-⟩
   ·subst hv
    have h1:=hown.1
    have e1:l = []:=List.eq_nil_of_length_eq_zero (by omega)
    subst e1
    have hcv:=run_convert_bytes_nil (P:=Tryd.prog) wr 38 5 Tryd.underlying38 Tryd.underlying5 0 0 9 Tryd.underlying9
    clear hown h0 h1
    go_wp2
    go_ret
    refine ⟨?_,HNX.out⟩
    rw [← HLL.out]
    rfl
   ·have hcv:=run_convert_bytes_back (P:=Tryd.prog) wr 38 9 5 ⟨g,0,none⟩ cap l Tryd.underlying38 Tryd.underlying5 Tryd.underlying9 (fun j hj=>hown.cells (g:=g) rfl j _ (by simp [Lib.byteCells,hj]))
    clear hown
    go_wp2
    go_ret
    have hl:=HLL.out
    subst hl
    exact ⟨rfl,HNX.out⟩
  have f0:decide ((k:Int) < (l0.length:Int))=true:=decide_eq_true (by omega)
  have f1:decide (k < l0.length)=true:=decide_eq_true (by omega)
  obtain ⟨ad,rfl,hcell⟩:=Kd.at_int HR.out (k:Int) (by omega) (by omega)
  obtain ⟨x,hx⟩ : ∃ x,x=rd l0 (k:Int):=⟨_,rfl⟩
  rw [← hx] at hcell
  have hxl:x=l0[k]:=by rw [hx];show l0.getD k 0=_;rw [List.getD_eq_getElem?_getD,List.getElem?_eq_getElem hlt];rfl
  have hxo:=okI_iff.1 (HOK.out x (by rw [hxl];exact List.getElem_mem hlt))
  have hcell1:wr.cell? (ad.add k)=some (.int .i64 x):=by
   have h1:=HNX.out.cell (World.block_lt_of_cell? _ _ hcell)
   exact h1.trans hcell
  have HX:=Aside0.mk hxl
  have HXO:=Aside0.mk hxo
  clear hcell hx hxl hxo
  have HLT:=Aside0.mk hlt
  have HK:=Aside0.mk (show (rowB (l0.take k)).length≤22 * k by
   have h1:=rowB_len (l0.take k) (fun y hy=>HOK.out y (List.mem_of_mem_take hy))
   rw [List.length_take] at h1
   omega)
  have HE:=Aside0.mk (show rowB (l0.take (k + 1))=rowB (l0.take k) ++ ((if l0.take k = [] then [] else [44]) ++ Lib.itoa x) by
   rw [List.take_succ_eq_append_getElem hlt,← HX.out,rowB_snoc])
  have HS:=Aside0.mk (HNX.out.size)
  have HW:=Aside0.mk (show wrap64 ((k:Int) + 1)=((k + 1:Nat):Int) by have:=HL.out;unfold wrap64;omega)
  clear HX
  by_cases h0:k=0
  ·have g0:decide (0 < (k:Int))=false:=decide_eq_false (by omega)
   have g1:decide (0 < k)=false:=decide_eq_false (by omega)
   have H0:=Aside0.mk h0
   clear h0 hk
   go_wp2_with (go_at_call 44;refine (Tryd.strconv_AppendInt_10 w.heap.size _ x HXO.out.1 HXO.out.2 u3 _ wr HOW.out HS.out (by have:=HL.out;have:=HLT.out;have:=HK.out;omega) (HTB.out.on HNX.out)).mono ?_;rintro e w1 ⟨v1,rfl,hown1,hnx1,-⟩;refine Hid.out ?_)
   refine Lib.hid ?_
   have HOW1:=Aside0.mk hown1
   have HNX1:=Aside0.mk (HNX.out.trans hnx1)
   clear hown1 hnx1
   go_wp2
   go_roundw
   case rel =>
    refine ⟨k + 1,HLT.out,by rw [HW.out],?_,HNX1.out⟩
    have h1:=HOW1.out
    have e0:l0.take k = []:=by rw [H0.out];rfl
    rw [HE.out,if_pos e0,List.nil_append,e0]
    rw [e0,← Lib.byteCells_append,← List.length_append] at h1
    exact h1
   case measure=>have:=HLT.out;rw [HW.out];simp only [intOf];omega
  ·have g0:decide (0 < (k:Int))=true:=decide_eq_true (by omega)
   have g1:decide (0 < k)=true:=decide_eq_true (by omega)
   have H0:=Aside0.mk h0
   clear h0 hk
   go_wp2_with (at_builtin;refine wpList_append_own _ rfl _ _ 38 rfl w.heap.size 5 i0 (.int .u8 0) 1 1 Tryd.underlying38 hi hz0 hz1 hz2 rfl (by decide) _ _ _ rfl (HOW.out.alloc _) ⟨wr.heap.size,0,none⟩ 1 1 [Value.int .u8 44] rfl rfl (by intro j u' hj;match j,hj with|0,hj=>simp at hj;subst hj;simp [Addr.add]) (by intro u' hu';simp at hu';subst hu';rfl) (by have:=HL.out;have:=HLT.out;have:=HK.out;unfold maxLen;omega) (by have:=HL.out;have:=HLT.out;have:=HK.out;omega) (by have:=HS.out;simp;omega) ?_)
   intro v2 w2 hown2 hgrow _
   have hnx2:Below w.heap.size w w2:=(HNX.out.alloc (by have:=HS.out;omega) _).grown hgrow (by have:=HS.out;simp;omega) (fun k_ hk_=>(HOW.out.lt k_ hk_).1)
   have HOW2:=Aside0.mk hown2
   have HNX2:=Aside0.mk hnx2
   clear hown2 hgrow hnx2
   go_wp2_with (go_at_call 44;refine (Tryd.strconv_AppendInt_10 w.heap.size _ x HXO.out.1 HXO.out.2 v2 _ w2 HOW2.out HNX2.out.size (by have:=HL.out;have:=HLT.out;have:=HK.out;omega) (HTB.out.on HNX2.out)).mono ?_;rintro e w1 ⟨v1,rfl,hown1,hnx1,-⟩;refine Hid.out ?_)
   refine Lib.hid ?_
   have HOW1:=Aside0.mk hown1
   have HNX1:=Aside0.mk (HNX2.out.trans hnx1)
   clear hown1 hnx1
   go_wp2
   go_roundw
   case rel =>
    refine ⟨k + 1,HLT.out,by rw [HW.out],?_,HNX1.out⟩
    have h1:=HOW1.out
    have e0:l0.take k≠[]:=by
     intro e
     have:=congrArg List.length e
     rw [List.length_take] at this
     have h2:=H0.out;have h3:=HLT.out
     rw [List.length_nil] at this
     omega
    rw [HE.out,if_neg e0,← List.append_assoc,Lib.byteCells_append,Lib.byteCells_append,List.length_append,List.length_append]
    exact h1
   case measure=>have:=HLT.out;rw [HW.out];simp only [intOf];omega

-- NOT PRINTED: function 88 (slices_IndexFunc_int_int)

-- NOT PRINTED: function 60 (slices_ContainsFunc_int_int)

/-! ### impl_isCell: function 62 -/
def impl_isCell.f (a0:Int):Option (Bool):=if a0 ≥ (-1000000000) then (some (decide (a0≤1000000000))) else (some false)
set_option maxHeartbeats 8000000 in
set_option maxRecDepth 100000 in
theorem impl_isCell.calls (a0:Int) (r:Bool) (w:World) (h:impl_isCell.f a0=some r) :
  Calls Tryd.prog 62 #[.int .i64 a0] w fun e w'=>e=.returned (.bool r)∧Drawn0 w w':=by
 have H:(if a0 ≥ (-1000000000) then (some (decide (a0≤1000000000))) else (some false))=some r:=h
 clear h
 by_cases c2:a0 ≥ (-1000000000)
 ·rw [if_pos c2] at H
  have c2b0:decide ((-1000000000)≤a0)=true:=decide_eq_true c2
  clear c2
  obtain rfl:=Option.some.inj H
  go_enter Tryd.func62,Tryd.ntmps62
  go_wp2
  go_ret
  exact ⟨by first|rfl|(simp;done)|(simp [*];done),zdw⟩
 ·rw [if_neg c2] at H
  have c2b0:decide ((-1000000000)≤a0)=false:=decide_eq_false c2
  clear c2
  obtain rfl:=Option.some.inj H
  go_enter Tryd.func62,Tryd.ntmps62
  go_wp2
  go_ret
  exact ⟨by first|rfl|(simp;done)|(simp [*];done),zdw⟩

/-! ### impl_RowOk_1: function 61 -/
def impl_RowOk_1.f (a0:Int):Option (Bool):=(impl_isCell.f a0).bind fun t127=>(some (!t127))
set_option maxHeartbeats 8000000 in
set_option maxRecDepth 100000 in
theorem impl_RowOk_1.calls (a0:Int) (r:Bool) (w:World) (h:impl_RowOk_1.f a0=some r) :
  Calls Tryd.prog 61 #[.int .i64 a0] w fun e w'=>e=.returned (.bool r)∧Drawn0 w w':=by
 have H:((impl_isCell.f a0).bind fun t127=>(some (!t127)))=some r:=h
 clear h
 replace H:=Option.bind_eq_some_iff.mp H
 obtain ⟨t127,A20,H⟩:=H
 (try dsimp only at H)
 have A2:=Aside0.mk A20
 clear A20
 obtain rfl:=Option.some.inj H
 go_enter Tryd.func61,Tryd.ntmps61
 go_wp2_with (first|((with_reducible refine gate_callee (f:=62) rfl ?_);refine goesL_ (some 4) rfl rfl Tryd.func62 (by kernel_rfl) rfl #[.int .i64 a0] rfl zar ?_;(with_reducible refine (impl_isCell.calls a0 t127 _ A2.out).mono ?_);rintro e w' ⟨rfl,⟨nd,rfl⟩⟩;refine ⟨_,rfl,?_⟩))
 go_ret
 exact ⟨by first|rfl|(simp;done)|(simp [*];done),zdw⟩

/-! ### slices_IndexFunc_int_int__impl_RowOk_1: function 88 -/
def slices_IndexFunc_int_int__impl_RowOk_1.l0:Nat→List Int→Int→Int→Option (Int)
 | 0,_,_,_=>none
 | k + 1,x0,x7,x8=>if x8 < x7 then (if 0≤x8 then (if x8 < (x0.length:Int) then ((impl_RowOk_1.f (rd x0 x8)).bind fun t129=>(if t129=true then (some x8) else (slices_IndexFunc_int_int__impl_RowOk_1.l0 k x0 x7 (wrap64 (x8 + 1))))) else (none)) else (none)) else (some (-1))
def slices_IndexFunc_int_int__impl_RowOk_1.f (k:Nat) (l0:List Int) :Option (Int):=slices_IndexFunc_int_int__impl_RowOk_1.l0 k l0 (l0.length:Int) 0
theorem slices_IndexFunc_int_int__impl_RowOk_1.mono_l : ∀ k,(∀ y0 y1 y2,LeO (slices_IndexFunc_int_int__impl_RowOk_1.l0 k y0 y1 y2) (slices_IndexFunc_int_int__impl_RowOk_1.l0 (k + 1) y0 y1 y2))
 | 0=>fun _ _ _ r h=>by simp [slices_IndexFunc_int_int__impl_RowOk_1.l0] at h
 | k + 1=>by
  have ih0:=slices_IndexFunc_int_int__impl_RowOk_1.mono_l k
  ·intro y0 y1 y2
   unfold slices_IndexFunc_int_int__impl_RowOk_1.l0
   repeat' first
   | (with_reducible exact ih0 _ _ _)
   | (with_reducible exact LeO.refl _)
   | (with_reducible exact LeO.none _)
   | (with_reducible refine LeO.ite ?_ ?_)
   | (with_reducible refine LeO.bind ?_ (fun _=>?_))
   | exact LeO.none _
   | refine LeO.ite ?_ ?_
   | refine LeO.bind ?_ (fun _=>?_)
theorem slices_IndexFunc_int_int__impl_RowOk_1.mono : ∀ a0 k,LeO (slices_IndexFunc_int_int__impl_RowOk_1.f k a0) (slices_IndexFunc_int_int__impl_RowOk_1.f (k + 1) a0):=by
 intro a0 k
 have ih0:=slices_IndexFunc_int_int__impl_RowOk_1.mono_l k
 unfold slices_IndexFunc_int_int__impl_RowOk_1.f
 repeat' first
   | (with_reducible exact ih0 _ _ _)
   | (with_reducible exact LeO.refl _)
   | (with_reducible exact LeO.none _)
   | (with_reducible refine LeO.ite ?_ ?_)
   | (with_reducible refine LeO.bind ?_ (fun _=>?_))
   | exact LeO.none _
   | refine LeO.ite ?_ ?_
   | refine LeO.bind ?_ (fun _=>?_)
set_option maxHeartbeats 8000000 in
set_option maxRecDepth 100000 in
theorem slices_IndexFunc_int_int__impl_RowOk_1.calls (k:Nat) (A0:Option Addr) (c0:Nat) (l0:List Int)  (r:Int) (w:World) (hr0:Kd.C (Kd.int .i64) w A0 l0.length l0) (hc0:l0.length≤c0) (h:slices_IndexFunc_int_int__impl_RowOk_1.f k l0=some r) :
  Calls Tryd.prog 88 #[.slice A0 l0.length c0,.func (.func 61) #[] #[]] w fun e w'=>e=.returned (.int .i64 r)∧Drawn0 w w':=by
 have HR0:=Aside0.mk hr0
 have HC0:=Aside0.mk hc0
 clear hr0 hc0
 have H:(slices_IndexFunc_int_int__impl_RowOk_1.l0 k l0 (l0.length:Int) 0)=some r:=h
 clear h
 have H':=Aside0.mk H
 clear H
 go_enter Tryd.func88,Tryd.ntmps88
 go_wp2
 go_loopg [8] k (fun kq v8 w'=>∃ (x8_1:Int),v8=.int .i64 x8_1∧Aside0 (slices_IndexFunc_int_int__impl_RowOk_1.l0 kq l0 (l0.length:Int) x8_1=some r)∧Aside0 (kq≤k)∧Drawn0 w w')
 case atStart=>exact ⟨(0),(by first|rfl|(simp;done)|(simp [*];done)),H',⟨Nat.le_refl _⟩,zdw⟩
 case round =>
  clear H'
  try clear p2
  obtain ⟨x8_1,rfl,HA,HK1,⟨m1,rfl⟩⟩:=hrel
  cases gk with
  | zero=>exact absurd HA.out (by simp [slices_IndexFunc_int_int__impl_RowOk_1.l0])
  | succ k1 =>
   have H:=HA.out
   clear HA
   simp only [slices_IndexFunc_int_int__impl_RowOk_1.l0] at H
   by_cases c3:x8_1 < (l0.length:Int)
   ·rw [if_pos c3] at H
    have c3b0:decide (x8_1 < (l0.length:Int))=true:=decide_eq_true c3
    clear c3
    by_cases c4:0≤x8_1
    ·rw [if_pos c4] at H
     have c4b0:decide (0≤x8_1)=true:=decide_eq_true c4
     clear c4
     by_cases c5:x8_1 < (l0.length:Int)
     ·rw [if_pos c5] at H
      have c5b0:decide (x8_1 < (l0.length:Int))=true:=decide_eq_true c5
      clear c5
      replace H:=Option.bind_eq_some_iff.mp H
      obtain ⟨t129,A60,H⟩:=H
      (try dsimp only at H)
      have A6:=Aside0.mk A60
      clear A60
      by_cases c7:t129=true
      ·subst c7
       have H1:(some x8_1)=some r:=by rw [if_pos rfl] at H;exact H
       clear H
       have H:=H1
       clear H1
       obtain rfl:=Option.some.inj H
       have p128:0≤(x8_1:Int):=zod
       have q128:x8_1 < (l0.length:Int):=zod
       obtain ⟨ad128,e128,hx128_0⟩:=Kd.at_int HR0.out x8_1 p128 q128
       cases e128
       replace p128:=eq_true p128
       replace q128:=eq_true q128
       go_wp2_with (first|(go_at_call 61;(with_reducible refine (impl_RowOk_1.calls (rd l0 x8_1) true _ A6.out).mono ?_);rintro e w' ⟨rfl,⟨nd,rfl⟩⟩))
       go_ret
       exact ⟨by first|rfl|(simp;done)|(simp [*];done),zdw⟩
      ·replace c7:=Bool.eq_false_iff.mpr c7
       subst c7
       have H1:(slices_IndexFunc_int_int__impl_RowOk_1.l0 k1 l0 (l0.length:Int) (wrap64 (x8_1 + 1)))=some r:=by rw [if_neg (show ¬ (false=true) by decide)] at H;exact H
       clear H
       have H:=H1
       clear H1
       have H':=Aside0.mk H
       clear H
       have p128:0≤(x8_1:Int):=zod
       have q128:x8_1 < (l0.length:Int):=zod
       obtain ⟨ad128,e128,hx128_0⟩:=Kd.at_int HR0.out x8_1 p128 q128
       cases e128
       replace p128:=eq_true p128
       replace q128:=eq_true q128
       go_wp2_with (first|(go_at_call 61;(with_reducible refine (impl_RowOk_1.calls (rd l0 x8_1) false _ A6.out).mono ?_);rintro e w' ⟨rfl,⟨nd,rfl⟩⟩))
       go_roundg k1
       case measure=>have:=HK1.out;omega
       case rel=>exact ⟨(wrap64 (x8_1 + 1)),(by first|rfl|(simp;done)|(simp [*];done)),H',⟨by have:=HK1.out;omega⟩,zdw⟩
     ·rw [if_neg c5] at H
      exact absurd H (by simp)
    ·rw [if_neg c4] at H
     exact absurd H (by simp)
   ·rw [if_neg c3] at H
    have c3b0:decide (x8_1 < (l0.length:Int))=false:=decide_eq_false c3
    clear c3
    obtain rfl:=Option.some.inj H
    go_wp2
    go_ret
    exact ⟨by first|rfl|(simp;done)|(simp [*];done),zdw⟩

/-! ### slices_ContainsFunc_int_int__impl_RowOk_1: function 60 -/
def slices_ContainsFunc_int_int__impl_RowOk_1.f (k:Nat) (l0:List Int) :Option (Bool):=(slices_IndexFunc_int_int__impl_RowOk_1.f k l0).bind fun t130=>(some (decide (t130 ≥ 0)))
theorem slices_ContainsFunc_int_int__impl_RowOk_1.mono : ∀ a0 k,LeO (slices_ContainsFunc_int_int__impl_RowOk_1.f k a0) (slices_ContainsFunc_int_int__impl_RowOk_1.f (k + 1) a0):=by
 intro a0 k
 unfold slices_ContainsFunc_int_int__impl_RowOk_1.f
 repeat' first
   | (with_reducible exact slices_IndexFunc_int_int__impl_RowOk_1.mono _ _)
   | (with_reducible exact LeO.refl _)
   | (with_reducible exact LeO.none _)
   | (with_reducible refine LeO.ite ?_ ?_)
   | (with_reducible refine LeO.bind ?_ (fun _=>?_))
   | exact LeO.none _
   | refine LeO.ite ?_ ?_
   | refine LeO.bind ?_ (fun _=>?_)
set_option maxHeartbeats 8000000 in
set_option maxRecDepth 100000 in
theorem slices_ContainsFunc_int_int__impl_RowOk_1.calls (k:Nat) (A0:Option Addr) (c0:Nat) (l0:List Int)  (r:Bool) (w:World) (hr0:Kd.C (Kd.int .i64) w A0 l0.length l0) (hc0:l0.length≤c0) (h:slices_ContainsFunc_int_int__impl_RowOk_1.f k l0=some r) :
  Calls Tryd.prog 60 #[.slice A0 l0.length c0,.func (.func 61) #[] #[]] w fun e w'=>e=.returned (.bool r)∧Drawn0 w w':=by
 have HR0:=Aside0.mk hr0
 have HC0:=Aside0.mk hc0
 clear hr0 hc0
 have H:((slices_IndexFunc_int_int__impl_RowOk_1.f k l0).bind fun t130=>(some (decide (t130 ≥ 0))))=some r:=h
 clear h
 replace H:=Option.bind_eq_some_iff.mp H
 obtain ⟨t130,A30,H⟩:=H
 (try dsimp only at H)
 have A3:=Aside0.mk A30
 clear A30
 obtain rfl:=Option.some.inj H
 go_enter Tryd.func60,Tryd.ntmps60
 go_wp2_with (first|(go_at_call 88;(with_reducible refine (slices_IndexFunc_int_int__impl_RowOk_1.calls k _ _ l0  t130 _ ?side1 ?side2 A3.out).mono ?_);(case side1=>exact zC HR0.out);(case side2=>exact HC0.out);rintro e w' ⟨rfl,⟨nd,rfl⟩⟩))
 go_ret
 exact ⟨by first|rfl|(simp;done)|(simp [*];done),zdw⟩

/-! ### impl_RowOk: function 32 -/
def impl_RowOk.f (k:Nat) (l0:List Int):Option (Bool):=if (l0.length:Int) ≥ 1 then (if (l0.length:Int)≤6 then ((slices_ContainsFunc_int_int__impl_RowOk_1.f k l0).bind fun t131=>(some (!t131))) else (some false)) else (some false)
theorem impl_RowOk.mono : ∀ a0 k,LeO (impl_RowOk.f k a0) (impl_RowOk.f (k + 1) a0):=by
 intro a0 k
 unfold impl_RowOk.f
 repeat' first
   | (with_reducible exact slices_ContainsFunc_int_int__impl_RowOk_1.mono _ _)
   | (with_reducible exact LeO.refl _)
   | (with_reducible exact LeO.none _)
   | (with_reducible refine LeO.ite ?_ ?_)
   | (with_reducible refine LeO.bind ?_ (fun _=>?_))
   | exact LeO.none _
   | refine LeO.ite ?_ ?_
   | refine LeO.bind ?_ (fun _=>?_)
set_option maxHeartbeats 8000000 in
set_option maxRecDepth 100000 in
theorem impl_RowOk.calls (k:Nat) (A0:Option Addr) (c0:Nat) (l0:List Int) (r:Bool) (w:World) (hr0:Kd.C (Kd.int .i64) w A0 l0.length l0) (hc0:l0.length≤c0) (h:impl_RowOk.f k l0=some r) :
  Calls Tryd.prog 32 #[.slice A0 l0.length c0] w fun e w'=>e=.returned (.bool r)∧Drawn0 w w':=by
 have HR0:=Aside0.mk hr0
 have HC0:=Aside0.mk hc0
 clear hr0 hc0
 have H:(if (l0.length:Int) ≥ 1 then (if (l0.length:Int)≤6 then ((slices_ContainsFunc_int_int__impl_RowOk_1.f k l0).bind fun t131=>(some (!t131))) else (some false)) else (some false))=some r:=h
 clear h
 by_cases c2:(l0.length:Int) ≥ 1
 ·rw [if_pos c2] at H
  have c2b0:decide (1≤(l0.length:Int))=true:=decide_eq_true c2
  have c2b1:decide (1≤l0.length)=true:=decide_eq_true (by omega)
  clear c2
  by_cases c3:(l0.length:Int)≤6
  ·rw [if_pos c3] at H
   have c3b0:decide ((l0.length:Int)≤6)=true:=decide_eq_true c3
   have c3b1:decide (l0.length≤6)=true:=decide_eq_true (by omega)
   clear c3
   replace H:=Option.bind_eq_some_iff.mp H
   obtain ⟨t131,A40,H⟩:=H
   (try dsimp only at H)
   have A4:=Aside0.mk A40
   clear A40
   obtain rfl:=Option.some.inj H
   go_enter Tryd.func32,Tryd.ntmps32
   go_wp2_with (first|(go_at_call 60;(with_reducible refine (slices_ContainsFunc_int_int__impl_RowOk_1.calls k _ _ l0  t131 _ ?side1 ?side2 A4.out).mono ?_);(case side1=>exact zC HR0.out);(case side2=>exact HC0.out);rintro e w' ⟨rfl,⟨nd,rfl⟩⟩))
   go_ret
   exact ⟨by first|rfl|(simp;done)|(simp [*];done),zdw⟩
  ·rw [if_neg c3] at H
   have c3b0:decide ((l0.length:Int)≤6)=false:=decide_eq_false c3
   have c3b1:decide (l0.length≤6)=false:=decide_eq_false (by omega)
   clear c3
   obtain rfl:=Option.some.inj H
   go_enter Tryd.func32,Tryd.ntmps32
   go_wp2
   go_ret
   exact ⟨by first|rfl|(simp;done)|(simp [*];done),zdw⟩
 ·rw [if_neg c2] at H
  have c2b0:decide (1≤(l0.length:Int))=false:=decide_eq_false c2
  have c2b1:decide (1≤l0.length)=false:=decide_eq_false (by omega)
  clear c2
  obtain rfl:=Option.some.inj H
  go_enter Tryd.func32,Tryd.ntmps32
  go_wp2
  go_ret
  exact ⟨by first|rfl|(simp;done)|(simp [*];done),zdw⟩

end Go.Proofs.YtgcplipimcbhlaaDoor.PFnExactRowRead
