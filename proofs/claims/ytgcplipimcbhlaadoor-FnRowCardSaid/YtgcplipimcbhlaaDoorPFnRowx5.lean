-- Written by wip/tools/pp.py, a program of this session over the kit's printer: not the kit's own print
import Derived.Test.YtgcplipimcbhlaaDoorPFnRowx0
import Derived.Test.YtgcplipimcbhlaaDoorPFnRowx1
import Derived.Test.YtgcplipimcbhlaaDoorPFnRowx3
import Derived.Test.YtgcplipimcbhlaaDoorPFnRowx4
namespace Go.Proofs.YtgcplipimcbhlaaDoor.PFnRow
open Go.RowKit Go.Proofs.YtgcplipimcbhlaaDoorW.PrintWords Go.Proofs.YtgcplipimcbhlaaDoorW.PrintLast Go.Proofs.YtgcplipimcbhlaaDoorW.PrintMore
attribute [local go_sem] max2_int min2_int max_two min_two max_three min_three max_four min_four   -- for this text's walks alone
set_option linter.unusedVariables false
set_option linter.unusedSimpArgs false

/-! ### spec_DrawRowRead: function 35 -/
def spec_DrawRowRead.f (k:Nat) (l0:List Int):Option (ByteArray):=(spec_l12Open.f l0).bind fun bt200=>((spec_l1Bent.f k bt200.1 bt200.2).bind fun bt203=>((spec_RowText.f k bt203.1).bind fun t207=>(if (t207.size:Int)=0 then (some t207) else ((spec_l12Rd_pick.f bt200.1 bt203.2 2).bind fun bt208=>(if bt208.1=0 then (some t207) else ((spec_l12Rd_pick.f bt200.1 bt208.2 (t207.size:Int)).bind fun bt210=>(if 0≤bt210.1 then (if bt210.1≤(t207.size:Int) then ((spec_l12Rd_of.f bt200.1 bt210.2 (([(⟨#[]⟩:ByteArray),(⟨#[48]⟩:ByteArray),(⟨#[44]⟩:ByteArray),(⟨#[45]⟩:ByteArray),(⟨#[32]⟩:ByteArray),(⟨#[55]⟩:ByteArray)]:List ByteArray))).bind fun bt215=>(if (t207.extract 0 (bt210.1:Int).toNat).size + bt215.1.size≤9223372036854775807 then ((spec_l12Rd_pick.f bt200.1 bt215.2 2).bind fun bt217=>(if 0≤(wrap64 (bt210.1 + bt217.1)) then (if (wrap64 (bt210.1 + bt217.1))≤(t207.size:Int) then (if ((t207.extract 0 (bt210.1:Int).toNat) ++ bt215.1).size + (t207.extract ((wrap64 (bt210.1 + bt217.1)):Int).toNat t207.size).size≤9223372036854775807 then (some (((t207.extract 0 (bt210.1:Int).toNat) ++ bt215.1) ++ (t207.extract ((wrap64 (bt210.1 + bt217.1)):Int).toNat t207.size))) else (none)) else (none)) else (none))) else (none))) else (none)) else (none))))))))
theorem spec_DrawRowRead.mono : ∀ a0 k,LeO (spec_DrawRowRead.f k a0) (spec_DrawRowRead.f (k + 1) a0):=by
 intro a0 k
 unfold spec_DrawRowRead.f
 repeat' first
   | (with_reducible exact spec_RowText.mono _ _)
   | (with_reducible exact spec_l1Bent.mono _ _ _)
   | (with_reducible exact LeO.refl _)
   | (with_reducible exact LeO.none _)
   | (with_reducible refine LeO.ite ?_ ?_)
   | (with_reducible refine LeO.bind ?_ (fun _=>?_))
   | exact LeO.none _
   | refine LeO.ite ?_ ?_
   | refine LeO.bind ?_ (fun _=>?_)
def spec_DrawRowRead.T6:Bool × List (List Nat × List Nat):=(true,[([],[]),([],[]),([0,1],[0,1]),([],[]),([],[]),([3,4],[3,4]),([2,5],[2,5]),([],[]),([],[]),([],[]),([9,5],[9]),([8,10],[8,10]),([7,11],[7,11]),([6,12],[6,12]),([13,10,0,1,2,3,4,5,6,7,8,9,10,11,12,13],[13])])
def spec_DrawRowRead.B6:List Nat:=[0,0,3,0,0,24,63,0,0,0,568,1848,4024,8191,16383]
theorem spec_DrawRowRead.tab6:rtab .any (opsOf Tryd.f35 6)=spec_DrawRowRead.T6:=by kernel_rfl
theorem spec_DrawRowRead.bits6:waitsOk spec_DrawRowRead.T6.2 spec_DrawRowRead.B6=true:=by kernel_rfl
set_option maxHeartbeats 8000000 in
set_option maxRecDepth 100000 in
theorem spec_DrawRowRead.calls (k:Nat) (A0:Option Addr) (c0:Nat) (l0:List Int) (r:ByteArray) (w:World) (hr0:Kd.C (Kd.int .u8) w A0 l0.length l0) (hc0:l0.length≤c0) (h:spec_DrawRowRead.f k l0=some r) :
  Calls Tryd.prog 35 #[.slice A0 l0.length c0] w fun e w'=>e=.returned (.string r)∧Below w.heap.size w w':=by
 have HR0:=Aside0.mk hr0
 have HC0:=Aside0.mk hc0
 clear hr0 hc0
 have HB:=Aside0.mk (Below.refl w.heap.size w)
 have H:((spec_l12Open.f l0).bind fun bt200=>((spec_l1Bent.f k bt200.1 bt200.2).bind fun bt203=>((spec_RowText.f k bt203.1).bind fun t207=>(if (t207.size:Int)=0 then (some t207) else ((spec_l12Rd_pick.f bt200.1 bt203.2 2).bind fun bt208=>(if bt208.1=0 then (some t207) else ((spec_l12Rd_pick.f bt200.1 bt208.2 (t207.size:Int)).bind fun bt210=>(if 0≤bt210.1 then (if bt210.1≤(t207.size:Int) then ((spec_l12Rd_of.f bt200.1 bt210.2 (([(⟨#[]⟩:ByteArray),(⟨#[48]⟩:ByteArray),(⟨#[44]⟩:ByteArray),(⟨#[45]⟩:ByteArray),(⟨#[32]⟩:ByteArray),(⟨#[55]⟩:ByteArray)]:List ByteArray))).bind fun bt215=>(if (t207.extract 0 (bt210.1:Int).toNat).size + bt215.1.size≤9223372036854775807 then ((spec_l12Rd_pick.f bt200.1 bt215.2 2).bind fun bt217=>(if 0≤(wrap64 (bt210.1 + bt217.1)) then (if (wrap64 (bt210.1 + bt217.1))≤(t207.size:Int) then (if ((t207.extract 0 (bt210.1:Int).toNat) ++ bt215.1).size + (t207.extract ((wrap64 (bt210.1 + bt217.1)):Int).toNat t207.size).size≤9223372036854775807 then (some (((t207.extract 0 (bt210.1:Int).toNat) ++ bt215.1) ++ (t207.extract ((wrap64 (bt210.1 + bt217.1)):Int).toNat t207.size))) else (none)) else (none)) else (none))) else (none))) else (none)) else (none)))))))))=some r:=h
 clear h
 replace H:=Option.bind_eq_some_iff.mp H
 obtain ⟨⟨t200,t201⟩,A20,H⟩:=H
 (try dsimp only at H)
 have A2:=Aside0.mk A20
 clear A20
 replace H:=Option.bind_eq_some_iff.mp H
 obtain ⟨⟨t203,t206⟩,A30,H⟩:=H
 (try dsimp only at H)
 have A3:=Aside0.mk A30
 clear A30
 replace H:=Option.bind_eq_some_iff.mp H
 obtain ⟨t207,A40,H⟩:=H
 (try dsimp only at H)
 have A4:=Aside0.mk A40
 clear A40
 by_cases c5:(t207.size:Int)=0
 ·rw [if_pos c5] at H
  have c5b0:((t207.size:Int) == 0)=true:=beq_iff_eq.mpr c5
  have c5b1:((t207.size:Int) != 0)=false:=bne_eq_false_iff_eq.mpr c5
  clear c5
  obtain rfl:=Option.some.inj H
  go_enter Tryd.func35,Tryd.ntmps35
  go_wp2_with (first|((with_reducible refine gate_callee (f:=59) rfl ?_);refine goesL_ (some 7) rfl rfl Tryd.func59 (by kernel_rfl) rfl #[.slice A0 l0.length c0] rfl zar ?_;(with_reducible refine (spec_l12Open.calls _ _ l0 t200 t201 w _ ?side1 ?side2 ?side3 A2.out).mono ?_);(case side1=>exact zhb);(case side2=>exact HR0.out);(case side3=>exact HC0.out);rintro e w6 ⟨g202,rfl,hi,hb,hb2⟩;refine ⟨_,rfl,?_⟩;have n0_:=Aside0.mk (hb);have n1_:=Aside0.mk (hi);clear HB;have HB:=n0_;have HI202:=n1_;clear n0_ n1_;(try clear hb);(try clear hb2);(try clear hk);(try clear hi))|((with_reducible refine gate_callee (f:=58) rfl ?_);refine goesL_ (some 9) rfl rfl Tryd.func58 (by kernel_rfl) rfl #[.pointer (some ⟨g202,0,none⟩)] rfl zar ?_;(with_reducible refine (spec_l1Bent.calls k g202 t200 t201 t203 t206 w _ ?side1 ?side2 A3.out).mono ?_);(case side1=>repeat (first|(with_reducible first|exact HI202.out|apply IsS99.alloc|apply IsS99.drewN|apply IsS99.drew|apply IsS99.set_1)|exact HI202.out));(case side2=>repeat (first|(with_reducible first|exact HB.out|apply below_alloc|apply pw_below_drewN|apply below_drew1|refine below_set ?_ (IsS99.ge HI202.out))|exact HB.out));rintro e w7 ⟨v204,rfl,ho0,hi,hb,hk⟩;refine ⟨_,rfl,?_⟩;have n0_:=Aside0.mk (Kd.R_lower ho0 (below_size (by repeat (first|(with_reducible first|exact HB.out|apply below_alloc|apply pw_below_drewN|apply below_drew1|refine below_set ?_ (IsS99.ge HI202.out))|exact HB.out))));have n1_:=Aside0.mk (hb);have n2_:=Aside0.mk (hi);clear HB;clear HI202;have HO205:=n0_;have HB:=n1_;have HI202:=n2_;clear n0_ n1_ n2_;(try clear hb);(try clear hb2);(try clear hk);(try clear hi);(try clear ho0);obtain ⟨Ao8,co8,eo8⟩:=Kd.R_slice HO205.out;subst eo8)|((with_reducible refine gate_callee (f:=14) rfl ?_);refine goesL_ (some 10) rfl rfl Tryd.func14 (by kernel_rfl) rfl #[.slice Ao8 t203.length co8] rfl zar ?_;(with_reducible refine (spec_RowText.calls k _ _ t203 t207 _ ?side1 ?side2 A4.out).mono ?_);(case side1=>repeat (first|exact (Kd.R_reads' HO205.out).2.2|(with_reducible refine Kd.C_alloc ?_ _)|(with_reducible refine Kd.C_drewN ?_ _)|(with_reducible refine Kd.C_drew ?_)));(case side2=>exact (Kd.R_reads' HO205.out).2.1);rintro e w9 ⟨rfl,hb⟩;refine ⟨_,rfl,?_⟩;have n0_:=Aside0.mk (Kd.R_below (by (with_reducible repeat (first|apply Kd.R_alloc|apply Kd.R_drewN|apply Kd.R_drew));exact HO205.out) hb);have n1_:=Aside0.mk (IsS99.below (by repeat (first|(with_reducible first|exact HI202.out|apply IsS99.alloc|apply IsS99.drewN|apply IsS99.drew|apply IsS99.set_1)|exact HI202.out)) hb);have n2_:=Aside0.mk (below_step (by repeat (first|(with_reducible first|exact HB.out|apply below_alloc|apply pw_below_drewN|apply below_drew1|refine below_set ?_ (IsS99.ge HI202.out))|exact HB.out)) hb);clear HO205;clear HI202;clear HB;have HO205:=n0_;have HI202:=n1_;have HB:=n2_;clear n0_ n1_ n2_;(try clear hb);(try clear hb2);(try clear hk);(try clear hi)))
  go_ret
  exact ⟨by first|rfl|(rw [HR_.out];first|done|rfl)|(simp [errW_none,errW_some] <;> rfl)|(simp [*,errW_none,errW_some] <;> rfl),by repeat (first|(with_reducible first|exact HB.out|apply below_alloc|apply pw_below_drewN|apply below_drew1|refine below_set ?_ (IsS99.ge HI202.out))|exact HB.out)⟩
 ·rw [if_neg c5] at H
  have c5b0:((t207.size:Int) == 0)=false:=beq_eq_false_iff_ne.mpr c5
  have c5b1:((t207.size:Int) != 0)=true:=bne_iff_ne.mpr c5
  replace H:=Option.bind_eq_some_iff.mp H
  obtain ⟨⟨t208,t209⟩,A100,H⟩:=H
  (try dsimp only at H)
  have A10:=Aside0.mk A100
  clear A100
  by_cases c11:t208=0
  ·rw [if_pos c11] at H
   have c11b0:(t208 == 0)=true:=beq_iff_eq.mpr c11
   have c11b1:(t208 != 0)=false:=bne_eq_false_iff_eq.mpr c11
   clear c11
   obtain rfl:=Option.some.inj H
   go_enter Tryd.func35,Tryd.ntmps35
   go_wp2_with (first|((with_reducible refine gate_callee (f:=59) rfl ?_);refine goesL_ (some 7) rfl rfl Tryd.func59 (by kernel_rfl) rfl #[.slice A0 l0.length c0] rfl zar ?_;(with_reducible refine (spec_l12Open.calls _ _ l0 t200 t201 w _ ?side1 ?side2 ?side3 A2.out).mono ?_);(case side1=>exact zhb);(case side2=>exact HR0.out);(case side3=>exact HC0.out);rintro e w12 ⟨g202,rfl,hi,hb,hb2⟩;refine ⟨_,rfl,?_⟩;have n0_:=Aside0.mk (hb);have n1_:=Aside0.mk (hi);clear HB;have HB:=n0_;have HI202:=n1_;clear n0_ n1_;(try clear hb);(try clear hb2);(try clear hk);(try clear hi))|((with_reducible refine gate_callee (f:=58) rfl ?_);refine goesL_ (some 9) rfl rfl Tryd.func58 (by kernel_rfl) rfl #[.pointer (some ⟨g202,0,none⟩)] rfl zar ?_;(with_reducible refine (spec_l1Bent.calls k g202 t200 t201 t203 t206 w _ ?side1 ?side2 A3.out).mono ?_);(case side1=>repeat (first|(with_reducible first|exact HI202.out|apply IsS99.alloc|apply IsS99.drewN|apply IsS99.drew|apply IsS99.set_1)|exact HI202.out));(case side2=>repeat (first|(with_reducible first|exact HB.out|apply below_alloc|apply pw_below_drewN|apply below_drew1|refine below_set ?_ (IsS99.ge HI202.out))|exact HB.out));rintro e w13 ⟨v204,rfl,ho0,hi,hb,hk⟩;refine ⟨_,rfl,?_⟩;have n0_:=Aside0.mk (Kd.R_lower ho0 (below_size (by repeat (first|(with_reducible first|exact HB.out|apply below_alloc|apply pw_below_drewN|apply below_drew1|refine below_set ?_ (IsS99.ge HI202.out))|exact HB.out))));have n1_:=Aside0.mk (hb);have n2_:=Aside0.mk (hi);clear HB;clear HI202;have HO205:=n0_;have HB:=n1_;have HI202:=n2_;clear n0_ n1_ n2_;(try clear hb);(try clear hb2);(try clear hk);(try clear hi);(try clear ho0);obtain ⟨Ao14,co14,eo14⟩:=Kd.R_slice HO205.out;subst eo14)|((with_reducible refine gate_callee (f:=14) rfl ?_);refine goesL_ (some 10) rfl rfl Tryd.func14 (by kernel_rfl) rfl #[.slice Ao14 t203.length co14] rfl zar ?_;(with_reducible refine (spec_RowText.calls k _ _ t203 t207 _ ?side1 ?side2 A4.out).mono ?_);(case side1=>repeat (first|exact (Kd.R_reads' HO205.out).2.2|(with_reducible refine Kd.C_alloc ?_ _)|(with_reducible refine Kd.C_drewN ?_ _)|(with_reducible refine Kd.C_drew ?_)));(case side2=>exact (Kd.R_reads' HO205.out).2.1);rintro e w15 ⟨rfl,hb⟩;refine ⟨_,rfl,?_⟩;have n0_:=Aside0.mk (Kd.R_below (by (with_reducible repeat (first|apply Kd.R_alloc|apply Kd.R_drewN|apply Kd.R_drew));exact HO205.out) hb);have n1_:=Aside0.mk (IsS99.below (by repeat (first|(with_reducible first|exact HI202.out|apply IsS99.alloc|apply IsS99.drewN|apply IsS99.drew|apply IsS99.set_1)|exact HI202.out)) hb);have n2_:=Aside0.mk (below_step (by repeat (first|(with_reducible first|exact HB.out|apply below_alloc|apply pw_below_drewN|apply below_drew1|refine below_set ?_ (IsS99.ge HI202.out))|exact HB.out)) hb);clear HO205;clear HI202;clear HB;have HO205:=n0_;have HI202:=n1_;have HB:=n2_;clear n0_ n1_ n2_;(try clear hb);(try clear hb2);(try clear hk);(try clear hi))|(go_at_call 65;(with_reducible refine (spec_l12Rd_pick.calls g202 t200 t206 2 t208 t209 w _ ?side1 ?side2 A10.out).mono ?_);(case side1=>repeat (first|(with_reducible first|exact HI202.out|apply IsS99.alloc|apply IsS99.drewN|apply IsS99.drew|apply IsS99.set_1)|exact HI202.out));(case side2=>repeat (first|(with_reducible first|exact HB.out|apply below_alloc|apply pw_below_drewN|apply below_drew1|refine below_set ?_ (IsS99.ge HI202.out))|exact HB.out));rintro e w16 ⟨rfl,hi,hb,hk⟩;have n0_:=Aside0.mk (Kd.R_mono (Kd.R_keep (IsS99.apart (show IsS99 w _ g202 t200 t206 from by repeat (first|(with_reducible first|exact HI202.out|apply IsS99.alloc|apply IsS99.drewN|apply IsS99.drew|apply IsS99.set_1)|exact HI202.out)) (by (with_reducible repeat (first|apply Kd.R_alloc|apply Kd.R_drewN|apply Kd.R_drew));exact HO205.out) (by decide)) hk (fun _ h=>h.2)) (fun _ h=>h.1));have n1_:=Aside0.mk (hb);have n2_:=Aside0.mk (hi);clear HO205;clear HB;clear HI202;have HO205:=n0_;have HB:=n1_;have HI202:=n2_;clear n0_ n1_ n2_;(try clear hb);(try clear hb2);(try clear hk);(try clear hi)))
   go_ret
   exact ⟨by first|rfl|(rw [HR_.out];first|done|rfl)|(simp [errW_none,errW_some] <;> rfl)|(simp [*,errW_none,errW_some] <;> rfl),by repeat (first|(with_reducible first|exact HB.out|apply below_alloc|apply pw_below_drewN|apply below_drew1|refine below_set ?_ (IsS99.ge HI202.out))|exact HB.out)⟩
  ·rw [if_neg c11] at H
   have c11b0:(t208 == 0)=false:=beq_eq_false_iff_ne.mpr c11
   have c11b1:(t208 != 0)=true:=bne_iff_ne.mpr c11
   replace H:=Option.bind_eq_some_iff.mp H
   obtain ⟨⟨t210,t211⟩,A170,H⟩:=H
   (try dsimp only at H)
   have A17:=Aside0.mk A170
   clear A170
   by_cases c18:0≤t210
   ·rw [if_pos c18] at H
    have c18b0:=eq_true c18
    have c18b1:decide (0≤t210)=true:=decide_eq_true c18
    clear c18
    by_cases c19:t210≤(t207.size:Int)
    ·rw [if_pos c19] at H
     have c19b0:=eq_true c19
     have c19b1:decide (t210≤(t207.size:Int))=true:=decide_eq_true c19
     clear c19
     obtain ⟨y212,hy212⟩ : ∃ y_:List ByteArray,y_=(([(⟨#[]⟩:ByteArray),(⟨#[48]⟩:ByteArray),(⟨#[44]⟩:ByteArray),(⟨#[45]⟩:ByteArray),(⟨#[32]⟩:ByteArray),(⟨#[55]⟩:ByteArray)]:List ByteArray)):=⟨_,rfl⟩
     replace H:((spec_l12Rd_of.f t200 t211 y212).bind fun bt215=>(if (t207.extract 0 (t210:Int).toNat).size + bt215.1.size≤9223372036854775807 then ((spec_l12Rd_pick.f t200 bt215.2 2).bind fun bt217=>(if 0≤(wrap64 (t210 + bt217.1)) then (if (wrap64 (t210 + bt217.1))≤(t207.size:Int) then (if ((t207.extract 0 (t210:Int).toNat) ++ bt215.1).size + (t207.extract ((wrap64 (t210 + bt217.1)):Int).toNat t207.size).size≤9223372036854775807 then (some (((t207.extract 0 (t210:Int).toNat) ++ bt215.1) ++ (t207.extract ((wrap64 (t210 + bt217.1)):Int).toNat t207.size))) else (none)) else (none)) else (none))) else (none)))=some r:=by first|(rw [hy212];with_reducible exact H)|(have H2_:=(Option.bind_some _ _).symm.trans H;rw [hy212];with_reducible exact H2_)|(have H2_:=(Option.bind_some _ _).symm.trans H;with_reducible exact H2_)|with_reducible exact H|(rw [hy212];exact H)|exact H
     have Ny212:=Aside0.mk hy212
     clear hy212
     replace H:=Option.bind_eq_some_iff.mp H
     obtain ⟨⟨t215,t216⟩,A200,H⟩:=H
     (try dsimp only at H)
     have A20:=Aside0.mk A200
     clear A200
     by_cases c21:(t207.extract 0 (t210:Int).toNat).size + t215.size≤9223372036854775807
     ·rw [if_pos c21] at H
      have c21b0:=eq_true c21
      have c21b1:decide ((t207.extract 0 (t210:Int).toNat).size + t215.size≤9223372036854775807)=true:=decide_eq_true c21
      (try (have c21x3:(t210:Int).toNat + t215.size≤9223372036854775807:=by (have h_:=c21);(simp only [ByteArray.size_append,ByteArray.size_extract] at h_);(try have k18_:=of_decide_eq_true c18b1);(try have k19_:=of_decide_eq_true c19b1);omega))
      (try have c21x6:(9223372036854775807 < (t210:Int).toNat + t215.size)=False:=eq_false (Nat.not_lt.2 c21x3))
      try have c21b2:(9223372036854775807 < (t207.extract 0 (t210:Int).toNat).size + t215.size)=False:=eq_false (Nat.not_lt.2 c21)
      replace H:=Option.bind_eq_some_iff.mp H
      obtain ⟨⟨t217,t218⟩,A220,H⟩:=H
      (try dsimp only at H)
      have A22:=Aside0.mk A220
      clear A220
      obtain ⟨ji23,hji23⟩ : ∃ j_:Int,(wrap64 (t210 + t217))=j_:=⟨_,rfl⟩
      replace H:(if 0≤(ji23) then (if (ji23)≤(t207.size:Int) then (if ((t207.extract 0 (t210:Int).toNat) ++ t215).size + (t207.extract ((ji23):Int).toNat t207.size).size≤9223372036854775807 then (some (((t207.extract 0 (t210:Int).toNat) ++ t215) ++ (t207.extract ((ji23):Int).toNat t207.size))) else (none)) else (none)) else (none))=some r:=by first|(rw [hji23] at H;exact H)|(simp only [hji23] at H ⊢;exact H)
      (try rw [hji23] at A2)
      (try rw [hji23] at A3)
      (try rw [hji23] at A4)
      (try rw [hji23] at A10)
      (try rw [hji23] at A17)
      (try rw [hji23] at A20)
      (try rw [hji23] at A22)
      have hji23w:(IntKind.i64.wrap (t210 + t217))=ji23:=(i64_w _).trans hji23
      by_cases c24:0≤(ji23)
      ·rw [if_pos c24] at H
       have c24b0:=eq_true c24
       have c24b1:decide (0≤(ji23))=true:=decide_eq_true c24
       clear c24
       by_cases c25:(ji23)≤(t207.size:Int)
       ·rw [if_pos c25] at H
        have c25b0:=eq_true c25
        have c25b1:decide ((ji23)≤(t207.size:Int))=true:=decide_eq_true c25
        clear c25
        by_cases c26:((t207.extract 0 (t210:Int).toNat) ++ t215).size + (t207.extract ((ji23):Int).toNat t207.size).size≤9223372036854775807
        ·rw [if_pos c26] at H
         have c26b0:=eq_true c26
         have c26b1:decide (((t207.extract 0 (t210:Int).toNat) ++ t215).size + (t207.extract ((ji23):Int).toNat t207.size).size≤9223372036854775807)=true:=decide_eq_true c26
         (try (have c26x3:(t210:Int).toNat + t215.size + (t207.size - ((ji23):Int).toNat)≤9223372036854775807:=by (have h_:=c26);(simp only [ByteArray.size_append,ByteArray.size_extract] at h_);(try have k18_:=of_decide_eq_true c18b1);(try have k19_:=of_decide_eq_true c19b1);(try have k24_:=of_decide_eq_true c24b1);(try have k25_:=of_decide_eq_true c25b1);omega))
         (try have c26x6:(9223372036854775807 < (t210:Int).toNat + t215.size + (t207.size - ((ji23):Int).toNat))=False:=eq_false (Nat.not_lt.2 c26x3))
         try have c26b2:(9223372036854775807 < ((t207.extract 0 (t210:Int).toNat) ++ t215).size + (t207.extract ((ji23):Int).toNat t207.size).size)=False:=eq_false (Nat.not_lt.2 c26)
         obtain rfl:=Option.some.inj H
         go_enter Tryd.func35,Tryd.ntmps35
         try go_wp2_with (first|((with_reducible refine gate_callee (f:=59) rfl ?_);refine goesL_ (some 7) rfl rfl Tryd.func59 (by kernel_rfl) rfl #[.slice A0 l0.length c0] rfl zar ?_;(with_reducible refine (spec_l12Open.calls _ _ l0 t200 t201 w _ ?side1 ?side2 ?side3 A2.out).mono ?_);(case side1=>exact zhb);(case side2=>exact HR0.out);(case side3=>exact HC0.out);rintro e w27 ⟨g202,rfl,hi,hb,hb2⟩;refine ⟨_,rfl,?_⟩;have n0_:=Aside0.mk (hb);have n1_:=Aside0.mk (hi);clear HB;have HB:=n0_;have HI202:=n1_;clear n0_ n1_;(try clear hb);(try clear hb2);(try clear hk);(try clear hi))|((with_reducible refine gate_callee (f:=58) rfl ?_);refine goesL_ (some 9) rfl rfl Tryd.func58 (by kernel_rfl) rfl #[.pointer (some ⟨g202,0,none⟩)] rfl zar ?_;(with_reducible refine (spec_l1Bent.calls k g202 t200 t201 t203 t206 w _ ?side1 ?side2 A3.out).mono ?_);(case side1=>repeat (first|(with_reducible first|exact HI202.out|apply IsS99.alloc|apply IsS99.drewN|apply IsS99.drew|apply IsS99.set_1)|exact HI202.out));(case side2=>repeat (first|(with_reducible first|exact HB.out|apply below_alloc|apply pw_below_drewN|apply below_drew1|refine below_set ?_ (IsS99.ge HI202.out))|exact HB.out));rintro e w28 ⟨v204,rfl,ho0,hi,hb,hk⟩;refine ⟨_,rfl,?_⟩;have n0_:=Aside0.mk (Kd.R_lower ho0 (below_size (by repeat (first|(with_reducible first|exact HB.out|apply below_alloc|apply pw_below_drewN|apply below_drew1|refine below_set ?_ (IsS99.ge HI202.out))|exact HB.out))));have n1_:=Aside0.mk (hb);have n2_:=Aside0.mk (hi);clear HB;clear HI202;have HO205:=n0_;have HB:=n1_;have HI202:=n2_;clear n0_ n1_ n2_;(try clear hb);(try clear hb2);(try clear hk);(try clear hi);(try clear ho0);obtain ⟨Ao29,co29,eo29⟩:=Kd.R_slice HO205.out;subst eo29)|((with_reducible refine gate_callee (f:=14) rfl ?_);refine goesL_ (some 10) rfl rfl Tryd.func14 (by kernel_rfl) rfl #[.slice Ao29 t203.length co29] rfl zar ?_;(with_reducible refine (spec_RowText.calls k _ _ t203 t207 _ ?side1 ?side2 A4.out).mono ?_);(case side1=>repeat (first|exact (Kd.R_reads' HO205.out).2.2|(with_reducible refine Kd.C_alloc ?_ _)|(with_reducible refine Kd.C_drewN ?_ _)|(with_reducible refine Kd.C_drew ?_)));(case side2=>exact (Kd.R_reads' HO205.out).2.1);rintro e w30 ⟨rfl,hb⟩;refine ⟨_,rfl,?_⟩;have n0_:=Aside0.mk (Kd.R_below (by (with_reducible repeat (first|apply Kd.R_alloc|apply Kd.R_drewN|apply Kd.R_drew));exact HO205.out) hb);have n1_:=Aside0.mk (IsS99.below (by repeat (first|(with_reducible first|exact HI202.out|apply IsS99.alloc|apply IsS99.drewN|apply IsS99.drew|apply IsS99.set_1)|exact HI202.out)) hb);have n2_:=Aside0.mk (below_step (by repeat (first|(with_reducible first|exact HB.out|apply below_alloc|apply pw_below_drewN|apply below_drew1|refine below_set ?_ (IsS99.ge HI202.out))|exact HB.out)) hb);clear HO205;clear HI202;clear HB;have HO205:=n0_;have HI202:=n1_;have HB:=n2_;clear n0_ n1_ n2_;(try clear hb);(try clear hb2);(try clear hk);(try clear hi))|(go_at_call 65;(with_reducible refine (spec_l12Rd_pick.calls g202 t200 t206 2 t208 t209 w _ ?side1 ?side2 A10.out).mono ?_);(case side1=>repeat (first|(with_reducible first|exact HI202.out|apply IsS99.alloc|apply IsS99.drewN|apply IsS99.drew|apply IsS99.set_1)|exact HI202.out));(case side2=>repeat (first|(with_reducible first|exact HB.out|apply below_alloc|apply pw_below_drewN|apply below_drew1|refine below_set ?_ (IsS99.ge HI202.out))|exact HB.out));rintro e w31 ⟨rfl,hi,hb,hk⟩;have n0_:=Aside0.mk (Kd.R_mono (Kd.R_keep (IsS99.apart (show IsS99 w _ g202 t200 t206 from by repeat (first|(with_reducible first|exact HI202.out|apply IsS99.alloc|apply IsS99.drewN|apply IsS99.drew|apply IsS99.set_1)|exact HI202.out)) (by (with_reducible repeat (first|apply Kd.R_alloc|apply Kd.R_drewN|apply Kd.R_drew));exact HO205.out) (by decide)) hk (fun _ h=>h.2)) (fun _ h=>h.1));have n1_:=Aside0.mk (hb);have n2_:=Aside0.mk (hi);clear HO205;clear HB;clear HI202;have HO205:=n0_;have HB:=n1_;have HI202:=n2_;clear n0_ n1_ n2_;(try clear hb);(try clear hb2);(try clear hk);(try clear hi))|((with_reducible refine gate_callee (f:=65) rfl ?_);refine goesL_ (some 23) rfl rfl Tryd.func65 (by kernel_rfl) rfl #[.pointer (some ⟨g202,0,none⟩),.int .i64 (t207.size:Int)] rfl zar ?_;(with_reducible refine (spec_l12Rd_pick.calls g202 t200 t209 (t207.size:Int) t210 t211 w _ ?side1 ?side2 A17.out).mono ?_);(case side1=>repeat (first|(with_reducible first|exact HI202.out|apply IsS99.alloc|apply IsS99.drewN|apply IsS99.drew|apply IsS99.set_1)|exact HI202.out));(case side2=>repeat (first|(with_reducible first|exact HB.out|apply below_alloc|apply pw_below_drewN|apply below_drew1|refine below_set ?_ (IsS99.ge HI202.out))|exact HB.out));rintro e w32 ⟨rfl,hi,hb,hk⟩;refine ⟨_,rfl,?_⟩;have n0_:=Aside0.mk (Kd.R_mono (Kd.R_keep (IsS99.apart (show IsS99 w _ g202 t200 t209 from by repeat (first|(with_reducible first|exact HI202.out|apply IsS99.alloc|apply IsS99.drewN|apply IsS99.drew|apply IsS99.set_1)|exact HI202.out)) (by (with_reducible repeat (first|apply Kd.R_alloc|apply Kd.R_drewN|apply Kd.R_drew));exact HO205.out) (by decide)) hk (fun _ h=>h.2)) (fun _ h=>h.1));have n1_:=Aside0.mk (hb);have n2_:=Aside0.mk (hi);clear HO205;clear HB;clear HI202;have HO205:=n0_;have HB:=n1_;have HI202:=n2_;clear n0_ n1_ n2_;(try clear hb);(try clear hb2);(try clear hk);(try clear hi)))
         have n0_:=Aside0.mk (Kd.R_drew HO205.out)
         have n1_:=Aside0.mk (IsS99.drew HI202.out)
         have n2_:=Aside0.mk (below_drew1 HB.out)
         clear HO205
         clear HI202
         clear HB
         have HO205:=n0_
         have HI202:=n1_
         have HB:=n2_
         clear n0_ n1_ n2_
         refine start_ (n:=15) (S:=fun w'=>True) (ds:=[]) #[X,X,X,X,X,X,X,X,X,X,X,X,X,X,X] (by kernel_rfl) rfl rfl trivial (fun hHeld=>?_);refine with_tabW spec_DrawRowRead.tab6 spec_DrawRowRead.bits6 (fun HT_ HW_=>?_)
         generalize w32.drew=w33 at HO205 HI202 HB hHeld ⊢
         refine pure_ (i:=0) (N:=some 24) (v:=?_) (a':=?_) #[Y,X,X,X,X,X,X,X,X,X,X,X,X,X,X] rfl rfl zan (fun _ _ _ h=>h) (Or.inl ⟨by rfl,?_⟩) ?_ ?_
         rotate_left
         ·intro w'
          go_simp
          with_reducible rfl
         rotate_left
         ·simp only [Act.put,zp1,zp2,zp3,i64_w,i32_w]
          rfl
         refine pure_ (i:=1) (N:=some 25) (v:=?_) (a':=?_) #[Y,Y,X,X,X,X,X,X,X,X,X,X,X,X,X] rfl rfl zan (fun _ _ _ h=>h) (Or.inl ⟨by rfl,?_⟩) ?_ ?_
         rotate_left
         ·intro w'
          go_simp
          with_reducible rfl
         rotate_left
         ·simp only [Act.put,zp1,zp2,zp3,i64_w,i32_w]
          rfl
         refine pure_ (i:=2) (N:=some 26) (v:=?_) (a':=?_) #[Y,Y,Y,X,X,X,X,X,X,X,X,X,X,X,X] rfl rfl zan (fun _ _ _ h=>h) (Or.inl ⟨by rfl,?_⟩) ?_ ?_
         rotate_left
         ·intro w'
          go_simp
          with_reducible rfl
         rotate_left
         ·simp only [Act.put,zp1,zp2,zp3,i64_w,i32_w]
          rfl
         refine pure_ (i:=3) (N:=some 27) (v:=?_) (a':=?_) #[Y,Y,Y,Y,X,X,X,X,X,X,X,X,X,X,X] rfl rfl zan (fun _ _ _ h=>h) (Or.inl ⟨by rfl,?_⟩) ?_ ?_
         rotate_left
         ·intro w'
          go_simp
          with_reducible rfl
         rotate_left
         ·simp only [Act.put,zp1,zp2,zp3,i64_w,i32_w]
          rfl
         refine pure_ (i:=7) (N:=some 31) (v:=?_) (a':=?_) #[Y,Y,Y,Y,X,X,X,Y,X,X,X,X,X,X,X] rfl rfl zan (fun _ _ _ h=>h) (Or.inl ⟨by rfl,?_⟩) ?_ ?_
         rotate_left
         ·intro w'
          go_simp
          with_reducible rfl
         rotate_left
         ·simp only [Act.put,zp1,zp2,zp3,i64_w,i32_w]
          rfl
         refine pure_ (i:=8) (N:=some 32) (v:=?_) (a':=?_) #[Y,Y,Y,Y,X,X,X,Y,Y,X,X,X,X,X,X] rfl rfl zan (fun _ _ _ h=>h) (Or.inl ⟨by rfl,?_⟩) ?_ ?_
         rotate_left
         ·intro w'
          go_simp
          with_reducible rfl
         rotate_left
         ·simp only [Act.put,zp1,zp2,zp3,i64_w,i32_w]
          rfl
         refine pure_ (i:=9) (N:=some 33) (v:=?_) (a':=?_) #[Y,Y,Y,Y,X,X,X,Y,Y,Y,X,X,X,X,X] rfl rfl zan (fun _ _ _ h=>h) (Or.inl ⟨by rfl,?_⟩) ?_ ?_
         rotate_left
         ·intro w'
          go_simp
          with_reducible rfl
         rotate_left
         ·simp only [Act.put,zp1,zp2,zp3,i64_w,i32_w]
          rfl
         refine one_ (i:=4) (N:=some 28) #[Y,Y,Y,Y,Y,X,X,Y,Y,Y,X,X,X,X,X] rfl rfl (one_of HT_.out (by kernel_rfl)) (by decide) (fun K hK=>?_)
         refine Kd.R_lit_step Kd.string _ 9 ?hg (N:=28) ?hd (xs:=([(⟨#[]⟩:ByteArray),(⟨#[48]⟩:ByteArray),(⟨#[44]⟩:ByteArray),(⟨#[45]⟩:ByteArray),(⟨#[32]⟩:ByteArray),(⟨#[55]⟩:ByteArray)]:List ByteArray)) (inner:=[.string (⟨#[]⟩:ByteArray),.string (⟨#[48]⟩:ByteArray),.string (⟨#[44]⟩:ByteArray),.string (⟨#[45]⟩:ByteArray),.string (⟨#[32]⟩:ByteArray),.string (⟨#[55]⟩:ByteArray)]) (ok:=fun _=>True) (okp:=fun _=>True) ?hr ?hp (fun _ hk=>hk) trivial (Below.refl _ _) (Nat.le_refl _) (by simp) ?_;(case hd=>rfl);(case hg=>rfl);(case hr=>first|(go_simp;done)|(go_simp;rfl));(case hp=>exact (Reps.one (show Kd.M Kd.string _ _ _ (⟨#[]⟩:ByteArray) [.string (⟨#[]⟩:ByteArray)] from rfl) (Reps.one (show Kd.M Kd.string _ _ _ (⟨#[48]⟩:ByteArray) [.string (⟨#[48]⟩:ByteArray)] from rfl) (Reps.one (show Kd.M Kd.string _ _ _ (⟨#[44]⟩:ByteArray) [.string (⟨#[44]⟩:ByteArray)] from rfl) (Reps.one (show Kd.M Kd.string _ _ _ (⟨#[45]⟩:ByteArray) [.string (⟨#[45]⟩:ByteArray)] from rfl) (Reps.one (show Kd.M Kd.string _ _ _ (⟨#[32]⟩:ByteArray) [.string (⟨#[32]⟩:ByteArray)] from rfl) (Reps.one (show Kd.M Kd.string _ _ _ (⟨#[55]⟩:ByteArray) [.string (⟨#[55]⟩:ByteArray)] from rfl) (Reps.none _ _))))))))
         intro v213 w34 ho35 hb hg_ hnew_
         clear hg_ hnew_
         (first|rw [← Ny212.out] at ho35|(simp only [Int.reduceToNat] at ho35;rw [← Ny212.out] at ho35))
         have n0_:=Aside0.mk (Kd.R_below (by (with_reducible repeat (first|apply Kd.R_alloc|apply Kd.R_drewN|apply Kd.R_drew));exact HO205.out) hb)
         have n1_:=Aside0.mk (Kd.R_lower ho35 (below_size (by repeat (first|(with_reducible first|exact HB.out|apply below_alloc|apply pw_below_drewN|apply below_drew1|refine below_set ?_ (IsS99.ge HI202.out))|exact HB.out))))
         have n2_:=Aside0.mk (IsS99.below (by repeat (first|(with_reducible first|exact HI202.out|apply IsS99.alloc|apply IsS99.drewN|apply IsS99.drew|apply IsS99.set_1)|exact HI202.out)) hb)
         have n3_:=Aside0.mk (below_step (by repeat (first|(with_reducible first|exact HB.out|apply below_alloc|apply pw_below_drewN|apply below_drew1|refine below_set ?_ (IsS99.ge HI202.out))|exact HB.out)) hb)
         clear HO205
         clear HI202
         clear HB
         have HO205:=n0_
         have HO214:=n1_
         have HI202:=n2_
         have HB:=n3_
         clear n0_ n1_ n2_ n3_
         clear hb ho35
         obtain ⟨Ao36,co36,eo36⟩:=Kd.R_slice HO214.out
         (first|subst eo36|(injection eo36 with f1_ f2_ f3_;have f4_:=f1_.symm;have f5_:=f3_.symm;clear f1_ f2_ f3_;subst f4_;subst f5_))
         refine hK.out _ _ trivial (fun hHeld=>?_)
         clear hK K
         refine norm_ (a':=?_) ?_ ?_
         rotate_left
         ·show Act.put _ (some 28) _=_
          simp only [Act.put,zp1,zp2,zp3,i64_w,i32_w]
          rfl
         refine one_ (i:=5) (N:=some 29) #[Y,Y,Y,Y,Y,Y,X,Y,Y,Y,X,X,X,X,X] rfl rfl (one_of HT_.out (by kernel_rfl)) (by decide) (fun K hK=>?_)
         refine goes_ Tryd.func66 (by kernel_rfl) rfl #[.pointer (some ⟨g202,0,none⟩),.slice Ao36 y212.length co36] (by rfl) rfl rfl zar ?_
         with_reducible refine (spec_l12Rd_of.calls g202 t200 t211 _ _ y212 t215 t216 w _ ?side1 ?side2 ?side3 ?side4 ?side5 A20.out).mono ?_
         (case side1=>repeat (first|(with_reducible first|exact HI202.out|apply IsS99.alloc|apply IsS99.drewN|apply IsS99.drew|apply IsS99.set_1)|exact HI202.out))
         (case side2=>repeat (first|(with_reducible first|exact HB.out|apply below_alloc|apply pw_below_drewN|apply below_drew1|refine below_set ?_ (IsS99.ge HI202.out))|exact HB.out))
         (case side3=>repeat (first|exact (Kd.R_reads' HO214.out).2.2|(with_reducible refine Kd.C_alloc ?_ _)|(with_reducible refine Kd.C_drewN ?_ _)|(with_reducible refine Kd.C_drew ?_)))
         (case side4=>exact (Kd.R_reads' HO214.out).2.1)
         (case side5=>exact far_slice (IsS99.own_ne HI202.out HO214.out (by decide)))
         rintro e w37 ⟨rfl,hi,hb,hk⟩
         refine ⟨_,rfl,?_⟩
         have n0_:=Aside0.mk (Kd.R_mono (Kd.R_keep (IsS99.apart (show IsS99 w _ g202 t200 t211 from by repeat (first|(with_reducible first|exact HI202.out|apply IsS99.alloc|apply IsS99.drewN|apply IsS99.drew|apply IsS99.set_1)|exact HI202.out)) (by (with_reducible repeat (first|apply Kd.R_alloc|apply Kd.R_drewN|apply Kd.R_drew));exact HO205.out) (by decide)) hk (fun _ h=>h.2)) (fun _ h=>h.1))
         have n1_:=Aside0.mk (Kd.R_mono (Kd.R_keep (IsS99.apart (show IsS99 w _ g202 t200 t211 from by repeat (first|(with_reducible first|exact HI202.out|apply IsS99.alloc|apply IsS99.drewN|apply IsS99.drew|apply IsS99.set_1)|exact HI202.out)) (by (with_reducible repeat (first|apply Kd.R_alloc|apply Kd.R_drewN|apply Kd.R_drew));exact HO214.out) (by decide)) hk (fun _ h=>h.2)) (fun _ h=>h.1))
         have n2_:=Aside0.mk (hb)
         have n3_:=Aside0.mk (hi)
         clear HO205
         clear HO214
         clear HB
         clear HI202
         have HO205:=n0_
         have HO214:=n1_
         have HB:=n2_
         have HI202:=n3_
         clear n0_ n1_ n2_ n3_
         (try clear hb)
         (try clear hb2)
         (try clear hk)
         (try clear hi)
         refine hK.out _ _ trivial (fun hHeld=>?_)
         clear hK K
         refine norm_ (a':=?_) ?_ ?_
         rotate_left
         ·show Act.put _ (some 29) _=_
          simp only [Act.put,zp1,zp2,zp3,i64_w,i32_w]
          rfl
         refine pure_ (i:=6) (N:=some 30) (v:=?_) (a':=?_) #[Y,Y,Y,Y,Y,Y,Y,Y,Y,Y,X,X,X,X,X] rfl rfl zan (fun _ _ _ h=>h) (Or.inl ⟨by rfl,?_⟩) ?_ ?_
         rotate_left
         ·intro w'
          go_simp
          with_reducible rfl
         rotate_left
         ·simp only [Act.put,zp1,zp2,zp3,i64_w,i32_w]
          rfl
         refine one_ (i:=10) (N:=some 34) #[Y,Y,Y,Y,Y,Y,Y,Y,Y,Y,Y,X,X,X,X] rfl rfl (one_of HT_.out (by kernel_rfl)) (by decide) (fun K hK=>?_)
         refine goes_ Tryd.func65 (by kernel_rfl) rfl #[.pointer (some ⟨g202,0,none⟩),.int .i64 2] (by rfl) rfl rfl zar ?_
         with_reducible refine (spec_l12Rd_pick.calls g202 t200 t216 2 t217 t218 w _ ?side1 ?side2 A22.out).mono ?_
         (case side1=>repeat (first|(with_reducible first|exact HI202.out|apply IsS99.alloc|apply IsS99.drewN|apply IsS99.drew|apply IsS99.set_1)|exact HI202.out))
         (case side2=>repeat (first|(with_reducible first|exact HB.out|apply below_alloc|apply pw_below_drewN|apply below_drew1|refine below_set ?_ (IsS99.ge HI202.out))|exact HB.out))
         rintro e w38 ⟨rfl,hi,hb,hk⟩
         refine ⟨_,rfl,?_⟩
         have n0_:=Aside0.mk (Kd.R_mono (Kd.R_keep (IsS99.apart (show IsS99 w _ g202 t200 t216 from by repeat (first|(with_reducible first|exact HI202.out|apply IsS99.alloc|apply IsS99.drewN|apply IsS99.drew|apply IsS99.set_1)|exact HI202.out)) (by (with_reducible repeat (first|apply Kd.R_alloc|apply Kd.R_drewN|apply Kd.R_drew));exact HO205.out) (by decide)) hk (fun _ h=>h.2)) (fun _ h=>h.1))
         have n1_:=Aside0.mk (Kd.R_mono (Kd.R_keep (IsS99.apart (show IsS99 w _ g202 t200 t216 from by repeat (first|(with_reducible first|exact HI202.out|apply IsS99.alloc|apply IsS99.drewN|apply IsS99.drew|apply IsS99.set_1)|exact HI202.out)) (by (with_reducible repeat (first|apply Kd.R_alloc|apply Kd.R_drewN|apply Kd.R_drew));exact HO214.out) (by decide)) hk (fun _ h=>h.2)) (fun _ h=>h.1))
         have n2_:=Aside0.mk (hb)
         have n3_:=Aside0.mk (hi)
         clear HO205
         clear HO214
         clear HB
         clear HI202
         have HO205:=n0_
         have HO214:=n1_
         have HB:=n2_
         have HI202:=n3_
         clear n0_ n1_ n2_ n3_
         (try clear hb)
         (try clear hb2)
         (try clear hk)
         (try clear hi)
         refine hK.out _ _ trivial (fun hHeld=>?_)
         clear hK K
         refine norm_ (a':=?_) ?_ ?_
         rotate_left
         ·show Act.put _ (some 34) _=_
          simp only [Act.put,zp1,zp2,zp3,i64_w,i32_w]
          rfl
         refine pure_ (i:=11) (N:=some 35) (v:=?_) (a':=?_) #[Y,Y,Y,Y,Y,Y,Y,Y,Y,Y,Y,Y,X,X,X] rfl rfl zan (fun _ _ _ h=>h) (Or.inl ⟨by rfl,?_⟩) ?_ ?_
         rotate_left
         ·intro w'
          go_simp
          with_reducible rfl
         rotate_left
         ·simp only [Act.put,zp1,zp2,zp3,i64_w,i32_w]
          rfl
         refine pure_ (i:=12) (N:=some 36) (v:=?_) (a':=?_) #[Y,Y,Y,Y,Y,Y,Y,Y,Y,Y,Y,Y,Y,X,X] rfl rfl zan (fun _ _ _ h=>h) (Or.inl ⟨by rfl,?_⟩) ?_ ?_
         rotate_left
         ·intro w'
          go_simp
          with_reducible rfl
         rotate_left
         ·simp only [Act.put,zp1,zp2,zp3,i64_w,i32_w]
          rfl
         refine pure_ (i:=13) (N:=some 37) (v:=?_) (a':=?_) #[Y,Y,Y,Y,Y,Y,Y,Y,Y,Y,Y,Y,Y,Y,X] rfl rfl zan (fun _ _ _ h=>h) (Or.inl ⟨by rfl,?_⟩) ?_ ?_
         rotate_left
         ·intro w'
          go_simp
          with_reducible rfl
         rotate_left
         ·simp only [Act.put,zp1,zp2,zp3,i64_w,i32_w]
          rfl
         refine pure_ (i:=14) (N:=some 2) (v:=?_) (a':=?_) #[Y,Y,Y,Y,Y,Y,Y,Y,Y,Y,Y,Y,Y,Y,Y] rfl rfl zan (fun _ _ _ h=>h) (Or.inl ⟨by rfl,?_⟩) ?_ ?_
         rotate_left
         ·intro w'
          go_simp
          with_reducible rfl
         rotate_left
         ·simp only [Act.put,zp1,zp2,zp3,i64_w,i32_w]
          rfl
         refine done_ (done_of HT_.out (by kernel_rfl)) ?_
         try go_wp2
         go_ret
         exact ⟨by first|rfl|(rw [HR_.out];first|done|rfl)|(simp [errW_none,errW_some] <;> rfl)|(simp only [← hji23];first|rfl|(simp [errW_none,errW_some] <;> rfl))|(simp [*,errW_none,errW_some] <;> rfl),by repeat (first|(with_reducible first|exact HB.out|apply below_alloc|apply pw_below_drewN|apply below_drew1|refine below_set ?_ (IsS99.ge HI202.out))|exact HB.out)⟩
        ·rw [if_neg c26] at H
         exact absurd H (by simp)
       ·rw [if_neg c25] at H
        exact absurd H (by simp)
      ·rw [if_neg c24] at H
       exact absurd H (by simp)
     ·rw [if_neg c21] at H
      exact absurd H (by simp)
    ·rw [if_neg c19] at H
     exact absurd H (by simp)
   ·rw [if_neg c18] at H
    exact absurd H (by simp)

/-! ### laws_FnRow: function 8 -/
def laws_FnRow.f (k:Nat) (l0:List Int) (l1:List Int):Option (Bool):=if (l0.length:Int) > 1048576 then (some true) else (if (l1.length:Int) > 1048576 then (some true) else ((spec_DrawRowText.f k l0).bind fun t219=>((impl_RowText.f t219).bind fun t222=>((impl_RowRead.f k t222).bind fun bt223=>((spec_RowText.f k t219).bind fun t227=>(if t222.toList=t227.toList then ((impl_RowOk.f k t219).bind fun t228=>((spec_RowOk.f k t219).bind fun t229=>(if (t228 != t229)=true then (some false) else ((spec_RowOk.f k t219).bind fun t230=>(if (bt223.2 != t230)=true then (some false) else (if bt223.2=true then ((impl_RowSame.f k bt223.1 t219).bind fun t231=>(if t231=true then ((spec_DrawRowRead.f k l1).bind fun t232=>((impl_RowRead.f k t232).bind fun bt233=>((spec_RowRead.f k t232).bind fun bt237=>(if (bt233.2 == bt237.2)=true then (if bt233.2=true then ((impl_RowText.f bt233.1).bind fun t241=>(if t241.toList=t232.toList then ((impl_RowOk.f k bt233.1).bind fun t242=>(some t242)) else (some false))) else (some true)) else (some false))))) else (some false))) else ((spec_DrawRowRead.f k l1).bind fun t243=>((impl_RowRead.f k t243).bind fun bt244=>((spec_RowRead.f k t243).bind fun bt248=>(if (bt244.2 == bt248.2)=true then (if bt244.2=true then ((impl_RowText.f bt244.1).bind fun t252=>(if t252.toList=t243.toList then ((impl_RowOk.f k bt244.1).bind fun t253=>(some t253)) else (some false))) else (some true)) else (some false))))))))))) else (some false)))))))
theorem laws_FnRow.mono : ∀ a0 a1 k,LeO (laws_FnRow.f k a0 a1) (laws_FnRow.f (k + 1) a0 a1):=by
 intro a0 a1 k
 unfold laws_FnRow.f
 repeat' first
   | (with_reducible exact impl_RowOk.mono _ _)
   | (with_reducible exact impl_RowRead.mono _ _)
   | (with_reducible exact impl_RowSame.mono _ _ _)
   | (with_reducible exact spec_DrawRowRead.mono _ _)
   | (with_reducible exact spec_DrawRowText.mono _ _)
   | (with_reducible exact spec_RowOk.mono _ _)
   | (with_reducible exact spec_RowRead.mono _ _)
   | (with_reducible exact spec_RowText.mono _ _)
   | (with_reducible exact LeO.refl _)
   | (with_reducible exact LeO.none _)
   | (with_reducible refine LeO.ite ?_ ?_)
   | (with_reducible refine LeO.bind ?_ (fun _=>?_))
   | exact LeO.none _
   | refine LeO.ite ?_ ?_
   | refine LeO.bind ?_ (fun _=>?_)
set_option maxHeartbeats 8000000 in
set_option maxRecDepth 100000 in
theorem laws_FnRow.calls (k:Nat) (A0:Option Addr) (c0:Nat) (l0:List Int) (A1:Option Addr) (c1:Nat) (l1:List Int) (r:Bool) (w:World) (hr0:Kd.C (Kd.int .u8) w A0 l0.length l0) (hc0:l0.length≤c0) (hr1:Kd.C (Kd.int .u8) w A1 l1.length l1) (hc1:l1.length≤c1) (h:laws_FnRow.f k l0 l1=some r) (hr_:r=true) (hT:TxtW w:=by exact TxtW.on HT0.out zhb) :
  Calls Tryd.prog 8 #[.slice A0 l0.length c0,.slice A1 l1.length c1] w fun e w'=>e=.returned (.bool r)∧Below w.heap.size w w':=by
 have HT0:=Aside0.mk hT
 clear hT
 have HR_:=Aside0.mk hr_
 clear hr_
 have HR0:=Aside0.mk hr0
 have HC0:=Aside0.mk hc0
 clear hr0 hc0
 have HR1:=Aside0.mk hr1
 have HC1:=Aside0.mk hc1
 clear hr1 hc1
 have HB:=Aside0.mk (Below.refl w.heap.size w)
 have H:(if (l0.length:Int) > 1048576 then (some true) else (if (l1.length:Int) > 1048576 then (some true) else ((spec_DrawRowText.f k l0).bind fun t219=>((impl_RowText.f t219).bind fun t222=>((impl_RowRead.f k t222).bind fun bt223=>((spec_RowText.f k t219).bind fun t227=>(if t222.toList=t227.toList then ((impl_RowOk.f k t219).bind fun t228=>((spec_RowOk.f k t219).bind fun t229=>(if (t228 != t229)=true then (some false) else ((spec_RowOk.f k t219).bind fun t230=>(if (bt223.2 != t230)=true then (some false) else (if bt223.2=true then ((impl_RowSame.f k bt223.1 t219).bind fun t231=>(if t231=true then ((spec_DrawRowRead.f k l1).bind fun t232=>((impl_RowRead.f k t232).bind fun bt233=>((spec_RowRead.f k t232).bind fun bt237=>(if (bt233.2 == bt237.2)=true then (if bt233.2=true then ((impl_RowText.f bt233.1).bind fun t241=>(if t241.toList=t232.toList then ((impl_RowOk.f k bt233.1).bind fun t242=>(some t242)) else (some false))) else (some true)) else (some false))))) else (some false))) else ((spec_DrawRowRead.f k l1).bind fun t243=>((impl_RowRead.f k t243).bind fun bt244=>((spec_RowRead.f k t243).bind fun bt248=>(if (bt244.2 == bt248.2)=true then (if bt244.2=true then ((impl_RowText.f bt244.1).bind fun t252=>(if t252.toList=t243.toList then ((impl_RowOk.f k bt244.1).bind fun t253=>(some t253)) else (some false))) else (some true)) else (some false))))))))))) else (some false))))))))=some r:=h
 clear h
 by_cases c3:(l0.length:Int) > 1048576
 ·rw [if_pos c3] at H
  have c3b0:decide (1048576 < (l0.length:Int))=true:=decide_eq_true c3
  have c3b1:decide (1048576 < l0.length)=true:=decide_eq_true (by omega)
  clear c3
  obtain rfl:=Option.some.inj H
  go_enter Tryd.func8,Tryd.ntmps8
  go_wp2
  go_ret
  exact ⟨by first|rfl|(rw [HR_.out];first|done|rfl)|(simp [errW_none,errW_some] <;> rfl)|(simp [*,errW_none,errW_some] <;> rfl),zhb⟩
 ·rw [if_neg c3] at H
  have c3b0:decide (1048576 < (l0.length:Int))=false:=decide_eq_false c3
  have c3b1:decide (1048576 < l0.length)=false:=decide_eq_false (by omega)
  clear c3
  by_cases c4:(l1.length:Int) > 1048576
  ·rw [if_pos c4] at H
   have c4b0:decide (1048576 < (l1.length:Int))=true:=decide_eq_true c4
   have c4b1:decide (1048576 < l1.length)=true:=decide_eq_true (by omega)
   clear c4
   obtain rfl:=Option.some.inj H
   go_enter Tryd.func8,Tryd.ntmps8
   go_wp2
   go_ret
   exact ⟨by first|rfl|(rw [HR_.out];first|done|rfl)|(simp [errW_none,errW_some] <;> rfl)|(simp [*,errW_none,errW_some] <;> rfl),zhb⟩
  ·rw [if_neg c4] at H
   have c4b0:decide (1048576 < (l1.length:Int))=false:=decide_eq_false c4
   have c4b1:decide (1048576 < l1.length)=false:=decide_eq_false (by omega)
   clear c4
   replace H:=Option.bind_eq_some_iff.mp H
   obtain ⟨t219,A50,H⟩:=H
   (try dsimp only at H)
   have A5:=Aside0.mk A50
   clear A50
   replace H:=Option.bind_eq_some_iff.mp H
   obtain ⟨t222,A60,H⟩:=H
   (try dsimp only at H)
   have A6:=Aside0.mk A60
   clear A60
   replace H:=Option.bind_eq_some_iff.mp H
   obtain ⟨⟨t223,t224⟩,A70,H⟩:=H
   (try dsimp only at H)
   have A7:=Aside0.mk A70
   clear A70
   replace H:=Option.bind_eq_some_iff.mp H
   obtain ⟨t227,A80,H⟩:=H
   (try dsimp only at H)
   have A8:=Aside0.mk A80
   clear A80
   by_cases c9:t222.toList=t227.toList
   ·rw [if_pos c9] at H
    have c9b0:(t222.toList == t227.toList)=true:=beq_iff_eq.mpr c9
    have c9b1:(t222.toList != t227.toList)=false:=bne_eq_false_iff_eq.mpr c9
    clear c9
    replace H:=Option.bind_eq_some_iff.mp H
    obtain ⟨t228,A100,H⟩:=H
    (try dsimp only at H)
    have A10:=Aside0.mk A100
    clear A100
    replace H:=Option.bind_eq_some_iff.mp H
    obtain ⟨t229,A110,H⟩:=H
    (try dsimp only at H)
    have A11:=Aside0.mk A110
    clear A110
    by_cases c12:(t228 != t229)=true
    ·rw [if_pos c12] at H
     have c12b0:(t228 != t229)=true:=c12
     (try (have c12b1:decide (t228=t229)=false:=by simpa using c12))
     (try (have c12b2:(t228 == t229)=false:=by simpa using c12))
     (try (have c12b3 : ¬ (t228=t229):=by simpa using c12))
     clear c12
     exact absurd ((Option.some.inj H).trans HR_.out) (by decide)
    ·rw [if_neg c12] at H
     have c12b0:(t228 != t229)=false:=by simpa using c12
     (try (have c12b1:decide (t228=t229)=true:=by simpa using c12))
     (try (have c12b2:(t228 == t229)=true:=by simpa using c12))
     clear c12
     replace H:=Option.bind_eq_some_iff.mp H
     obtain ⟨t230,A130,H⟩:=H
     (try dsimp only at H)
     have A13:=Aside0.mk A130
     clear A130
     by_cases c14:(t224 != t230)=true
     ·rw [if_pos c14] at H
      have c14b0:(t224 != t230)=true:=c14
      (try (have c14b1:decide (t224=t230)=false:=by simpa using c14))
      (try (have c14b2:(t224 == t230)=false:=by simpa using c14))
      (try (have c14b3 : ¬ (t224=t230):=by simpa using c14))
      clear c14
      exact absurd ((Option.some.inj H).trans HR_.out) (by decide)
     ·rw [if_neg c14] at H
      have c14b0:(t224 != t230)=false:=by simpa using c14
      (try (have c14b1:decide (t224=t230)=true:=by simpa using c14))
      (try (have c14b2:(t224 == t230)=true:=by simpa using c14))
      clear c14
      by_cases c15:t224=true
      ·subst c15
       have H1:((impl_RowSame.f k t223 t219).bind fun t231=>(if t231=true then ((spec_DrawRowRead.f k l1).bind fun t232=>((impl_RowRead.f k t232).bind fun bt233=>((spec_RowRead.f k t232).bind fun bt237=>(if (bt233.2 == bt237.2)=true then (if bt233.2=true then ((impl_RowText.f bt233.1).bind fun t241=>(if t241.toList=t232.toList then ((impl_RowOk.f k bt233.1).bind fun t242=>(some t242)) else (some false))) else (some true)) else (some false))))) else (some false)))=some r:=by rw [if_pos rfl] at H;exact H
       clear H
       have H:=H1
       clear H1
       replace H:=Option.bind_eq_some_iff.mp H
       obtain ⟨t231,A160,H⟩:=H
       (try dsimp only at H)
       have A16:=Aside0.mk A160
       clear A160
       by_cases c17:t231=true
       ·subst c17
        have H1:((spec_DrawRowRead.f k l1).bind fun t232=>((impl_RowRead.f k t232).bind fun bt233=>((spec_RowRead.f k t232).bind fun bt237=>(if (bt233.2 == bt237.2)=true then (if bt233.2=true then ((impl_RowText.f bt233.1).bind fun t241=>(if t241.toList=t232.toList then ((impl_RowOk.f k bt233.1).bind fun t242=>(some t242)) else (some false))) else (some true)) else (some false)))))=some r:=by rw [if_pos rfl] at H;exact H
        clear H
        have H:=H1
        clear H1
        replace H:=Option.bind_eq_some_iff.mp H
        obtain ⟨t232,A180,H⟩:=H
        (try dsimp only at H)
        have A18:=Aside0.mk A180
        clear A180
        replace H:=Option.bind_eq_some_iff.mp H
        obtain ⟨⟨t233,t234⟩,A190,H⟩:=H
        (try dsimp only at H)
        have A19:=Aside0.mk A190
        clear A190
        replace H:=Option.bind_eq_some_iff.mp H
        obtain ⟨⟨t237,t238⟩,A200,H⟩:=H
        (try dsimp only at H)
        have A20:=Aside0.mk A200
        clear A200
        by_cases c21:(t234 == t238)=true
        ·rw [if_pos c21] at H
         have c21b0:(t234 == t238)=true:=c21
         (try (have c21b1:decide (t234=t238)=true:=by simpa using c21))
         (try (have c21b2:(t234 == t238)=true:=by simpa using c21))
         clear c21
         by_cases c22:t234=true
         ·subst c22
          have H1:((impl_RowText.f t233).bind fun t241=>(if t241.toList=t232.toList then ((impl_RowOk.f k t233).bind fun t242=>(some t242)) else (some false)))=some r:=by rw [if_pos rfl] at H;exact H
          clear H
          have H:=H1
          clear H1
          replace H:=Option.bind_eq_some_iff.mp H
          obtain ⟨t241,A230,H⟩:=H
          (try dsimp only at H)
          have A23:=Aside0.mk A230
          clear A230
          by_cases c24:t241.toList=t232.toList
          ·rw [if_pos c24] at H
           have c24b0:(t241.toList == t232.toList)=true:=beq_iff_eq.mpr c24
           have c24b1:(t241.toList != t232.toList)=false:=bne_eq_false_iff_eq.mpr c24
           clear c24
           replace H:=Option.bind_eq_some_iff.mp H
           obtain ⟨t242,A250,H⟩:=H
           (try dsimp only at H)
           have A25:=Aside0.mk A250
           clear A250
           obtain rfl:=Option.some.inj H
           (try (have e_:=Option.some.inj (A11.out.symm.trans A13.out);subst e_))
           go_enter Tryd.func8,Tryd.ntmps8
           go_wp2_with (first|((with_reducible refine gate_callee (f:=31) rfl ?_);refine goesL_ (some 23) rfl rfl Tryd.func31 (by kernel_rfl) rfl #[.slice A0 l0.length c0] rfl zar ?_;(with_reducible refine (spec_DrawRowText.calls k _ _ l0 t219 _ ?side1 ?side2 A5.out).mono ?_);(case side1=>exact zC HR0.out);(case side2=>exact HC0.out);rintro e w26 ⟨v220,rfl,ho0,hb⟩;refine ⟨_,rfl,?_⟩;have n0_:=Aside0.mk (Kd.R_lower ho0 (below_size zhb));have n1_:=Aside0.mk (below_step zhb hb);clear HB;have HO221:=n0_;have HB:=n1_;clear n0_ n1_;(try clear hb);(try clear hb2);(try clear hk);(try clear hi);(try clear ho0);obtain ⟨Ao27,co27,eo27⟩:=Kd.R_slice HO221.out;subst eo27)|((with_reducible refine gate_callee (f:=16) rfl ?_);refine goesL_ (some 25) rfl rfl Tryd.func16 (by kernel_rfl) rfl #[.slice Ao27 t219.length co27] rfl zar ?_;(with_reducible refine (impl_RowText.calls _ _ t219 t222 _ ?side1 ?side2 A6.out).mono ?_);(case side1=>repeat (first|exact (Kd.R_reads' HO221.out).2.2|(with_reducible refine Kd.C_alloc ?_ _)|(with_reducible refine Kd.C_drewN ?_ _)|(with_reducible refine Kd.C_drew ?_)));(case side2=>exact (Kd.R_reads' HO221.out).2.1);rintro e w28 ⟨rfl,hb⟩;refine ⟨_,rfl,?_⟩;have n0_:=Aside0.mk (Kd.R_below (by (with_reducible repeat (first|apply Kd.R_alloc|apply Kd.R_drewN|apply Kd.R_drew));exact HO221.out) hb);have n1_:=Aside0.mk (below_step zhb hb);clear HO221;clear HB;have HO221:=n0_;have HB:=n1_;clear n0_ n1_;(try clear hb);(try clear hb2);(try clear hk);(try clear hi))|((with_reducible refine gate_callee (f:=28) rfl ?_);refine goesL_ (some 28) rfl rfl Tryd.func28 (by kernel_rfl) rfl #[.string t222] rfl zar ?_;(with_reducible refine (impl_RowRead.calls k t222 t223 true _ A7.out).mono ?_);rintro e w29 ⟨v225,rfl,ho0,hb⟩;refine ⟨_,rfl,?_⟩;have n0_:=Aside0.mk (Kd.R_elder' (by (with_reducible repeat (first|apply Kd.R_alloc|apply Kd.R_drewN|apply Kd.R_drew));exact HO221.out) (Kd.R_base ho0) hb);have n1_:=Aside0.mk (Kd.R_lower (Kd.R_new' ho0 (Kd.R_lt (by (with_reducible repeat (first|apply Kd.R_alloc|apply Kd.R_drewN|apply Kd.R_drew));exact HO221.out))) (below_size zhb));have n2_:=Aside0.mk (below_step zhb hb);clear HO221;clear HB;have HO221:=n0_;have HO226:=n1_;have HB:=n2_;clear n0_ n1_ n2_;(try clear hb);(try clear hb2);(try clear hk);(try clear hi);(try clear ho0))|((with_reducible refine gate_callee (f:=14) rfl ?_);refine goesL_ (some 33) rfl rfl Tryd.func14 (by kernel_rfl) rfl #[.slice Ao27 t219.length co27] rfl zar ?_;(with_reducible refine (spec_RowText.calls k _ _ t219 t227 _ ?side1 ?side2 A8.out).mono ?_);(case side1=>repeat (first|exact (Kd.R_reads' HO221.out).2.2|(with_reducible refine Kd.C_alloc ?_ _)|(with_reducible refine Kd.C_drewN ?_ _)|(with_reducible refine Kd.C_drew ?_)));(case side2=>exact (Kd.R_reads' HO221.out).2.1);rintro e w30 ⟨rfl,hb⟩;refine ⟨_,rfl,?_⟩;have n0_:=Aside0.mk (Kd.R_below (by (with_reducible repeat (first|apply Kd.R_alloc|apply Kd.R_drewN|apply Kd.R_drew));exact HO221.out) hb);have n1_:=Aside0.mk (Kd.R_below (by (with_reducible repeat (first|apply Kd.R_alloc|apply Kd.R_drewN|apply Kd.R_drew));exact HO226.out) hb);have n2_:=Aside0.mk (below_step zhb hb);clear HO221;clear HO226;clear HB;have HO221:=n0_;have HO226:=n1_;have HB:=n2_;clear n0_ n1_ n2_;(try clear hb);(try clear hb2);(try clear hk);(try clear hi))|(go_at_call 32;(with_reducible refine (impl_RowOk.calls k _ _ t219 t228 _ ?side1 ?side2 A10.out).mono ?_);(case side1=>repeat (first|exact (Kd.R_reads' HO221.out).2.2|(with_reducible refine Kd.C_alloc ?_ _)|(with_reducible refine Kd.C_drewN ?_ _)|(with_reducible refine Kd.C_drew ?_)));(case side2=>exact (Kd.R_reads' HO221.out).2.1);rintro e w' ⟨rfl,⟨nd,rfl⟩⟩)|(go_at_call 33;(with_reducible refine (spec_RowOk.calls k _ _ t219 t229 _ ?side1 ?side2 A11.out).mono ?_);(case side1=>repeat (first|exact (Kd.R_reads' HO221.out).2.2|(with_reducible refine Kd.C_alloc ?_ _)|(with_reducible refine Kd.C_drewN ?_ _)|(with_reducible refine Kd.C_drew ?_)));(case side2=>exact (Kd.R_reads' HO221.out).2.1);rintro e w' ⟨rfl,⟨nd,rfl⟩⟩;(try (obtain ⟨Ao31,co31,eo31⟩:=Kd.R_slice HO226.out;subst eo31)))|(go_at_call 33;(with_reducible refine (spec_RowOk.calls k _ _ t219 t230 _ ?side1 ?side2 A13.out).mono ?_);(case side1=>repeat (first|exact (Kd.R_reads' HO221.out).2.2|(with_reducible refine Kd.C_alloc ?_ _)|(with_reducible refine Kd.C_drewN ?_ _)|(with_reducible refine Kd.C_drew ?_)));(case side2=>exact (Kd.R_reads' HO221.out).2.1);rintro e w' ⟨rfl,⟨nd,rfl⟩⟩;obtain ⟨Ao31,co31,eo31⟩:=Kd.R_slice HO226.out;subst eo31)|(go_at_call 34;(with_reducible refine (impl_RowSame.calls k _ _ t223 _ _ t219 true _ ?side1 ?side2 ?side3 ?side4 A16.out).mono ?_);(case side1=>repeat (first|exact (Kd.R_reads' HO226.out).2.2|(with_reducible refine Kd.C_alloc ?_ _)|(with_reducible refine Kd.C_drewN ?_ _)|(with_reducible refine Kd.C_drew ?_)));(case side2=>exact (Kd.R_reads' HO226.out).2.1);(case side3=>repeat (first|exact (Kd.R_reads' HO221.out).2.2|(with_reducible refine Kd.C_alloc ?_ _)|(with_reducible refine Kd.C_drewN ?_ _)|(with_reducible refine Kd.C_drew ?_)));(case side4=>exact (Kd.R_reads' HO221.out).2.1);rintro e w' ⟨rfl,⟨nd,rfl⟩⟩)|((with_reducible refine gate_callee (f:=35) rfl ?_);refine goesL_ (some 58) rfl rfl Tryd.func35 (by kernel_rfl) rfl #[.slice A1 l1.length c1] rfl zar ?_;(with_reducible refine (spec_DrawRowRead.calls k _ _ l1 t232 _ ?side1 ?side2 A18.out).mono ?_);(case side1=>exact zC (Kd.C_below HR1.out zhb));(case side2=>exact HC1.out);rintro e w32 ⟨rfl,hb⟩;refine ⟨_,rfl,?_⟩;have n0_:=Aside0.mk (Kd.R_below (by (with_reducible repeat (first|apply Kd.R_alloc|apply Kd.R_drewN|apply Kd.R_drew));exact HO221.out) hb);have n1_:=Aside0.mk (Kd.R_below (by (with_reducible repeat (first|apply Kd.R_alloc|apply Kd.R_drewN|apply Kd.R_drew));exact HO226.out) hb);have n2_:=Aside0.mk (below_step zhb hb);clear HO221;clear HO226;clear HB;have HO221:=n0_;have HO226:=n1_;have HB:=n2_;clear n0_ n1_ n2_;(try clear hb);(try clear hb2);(try clear hk);(try clear hi))|((with_reducible refine gate_callee (f:=28) rfl ?_);refine goesL_ (some 61) rfl rfl Tryd.func28 (by kernel_rfl) rfl #[.string t232] rfl zar ?_;(with_reducible refine (impl_RowRead.calls k t232 t233 true _ A19.out).mono ?_);rintro e w33 ⟨v235,rfl,ho0,hb⟩;refine ⟨_,rfl,?_⟩;have n0_:=Aside0.mk (Kd.R_elder' (by (with_reducible repeat (first|apply Kd.R_alloc|apply Kd.R_drewN|apply Kd.R_drew));exact HO221.out) (Kd.R_base ho0) hb);have n1_:=Aside0.mk (Kd.R_elder' (by (with_reducible repeat (first|apply Kd.R_alloc|apply Kd.R_drewN|apply Kd.R_drew));exact HO226.out) (Kd.R_base ho0) hb);have n2_:=Aside0.mk (Kd.R_lower (Kd.R_new' (Kd.R_new' ho0 (Kd.R_lt (by (with_reducible repeat (first|apply Kd.R_alloc|apply Kd.R_drewN|apply Kd.R_drew));exact HO221.out))) (Kd.R_lt (by (with_reducible repeat (first|apply Kd.R_alloc|apply Kd.R_drewN|apply Kd.R_drew));exact HO226.out))) (below_size zhb));have n3_:=Aside0.mk (below_step zhb hb);clear HO221;clear HO226;clear HB;have HO221:=n0_;have HO226:=n1_;have HO236:=n2_;have HB:=n3_;clear n0_ n1_ n2_ n3_;(try clear hb);(try clear hb2);(try clear hk);(try clear hi);(try clear ho0))|((with_reducible refine gate_callee (f:=27) rfl ?_);refine goesL_ (some 66) rfl rfl Tryd.func27 (by kernel_rfl) rfl #[.string t232] rfl zar ?_;(with_reducible refine (spec_RowRead.calls k t232 t237 t238 _ A20.out).mono ?_);rintro e w34 ⟨v239,rfl,ho0,hb⟩;refine ⟨_,rfl,?_⟩;have n0_:=Aside0.mk (Kd.R_elder' (by (with_reducible repeat (first|apply Kd.R_alloc|apply Kd.R_drewN|apply Kd.R_drew));exact HO221.out) (Kd.R_base ho0) hb);have n1_:=Aside0.mk (Kd.R_elder' (by (with_reducible repeat (first|apply Kd.R_alloc|apply Kd.R_drewN|apply Kd.R_drew));exact HO226.out) (Kd.R_base ho0) hb);have n2_:=Aside0.mk (Kd.R_elder' (by (with_reducible repeat (first|apply Kd.R_alloc|apply Kd.R_drewN|apply Kd.R_drew));exact HO236.out) (Kd.R_base ho0) hb);have n3_:=Aside0.mk (Kd.R_lower (Kd.R_new' (Kd.R_new' (Kd.R_new' ho0 (Kd.R_lt (by (with_reducible repeat (first|apply Kd.R_alloc|apply Kd.R_drewN|apply Kd.R_drew));exact HO221.out))) (Kd.R_lt (by (with_reducible repeat (first|apply Kd.R_alloc|apply Kd.R_drewN|apply Kd.R_drew));exact HO226.out))) (Kd.R_lt (by (with_reducible repeat (first|apply Kd.R_alloc|apply Kd.R_drewN|apply Kd.R_drew));exact HO236.out))) (below_size zhb));have n4_:=Aside0.mk (below_step zhb hb);clear HO221;clear HO226;clear HO236;clear HB;have HO221:=n0_;have HO226:=n1_;have HO236:=n2_;have HO240:=n3_;have HB:=n4_;clear n0_ n1_ n2_ n3_ n4_;(try clear hb);(try clear hb2);(try clear hk);(try clear hi);(try clear ho0);obtain ⟨Ao35,co35,eo35⟩:=Kd.R_slice HO236.out;subst eo35)|(go_at_call 16;(with_reducible refine (impl_RowText.calls _ _ t233 t241 _ ?side1 ?side2 A23.out).mono ?_);(case side1=>repeat (first|exact (Kd.R_reads' HO236.out).2.2|(with_reducible refine Kd.C_alloc ?_ _)|(with_reducible refine Kd.C_drewN ?_ _)|(with_reducible refine Kd.C_drew ?_)));(case side2=>exact (Kd.R_reads' HO236.out).2.1);rintro e w36 ⟨rfl,hb⟩;have n0_:=Aside0.mk (Kd.R_below (by (with_reducible repeat (first|apply Kd.R_alloc|apply Kd.R_drewN|apply Kd.R_drew));exact HO221.out) hb);have n1_:=Aside0.mk (Kd.R_below (by (with_reducible repeat (first|apply Kd.R_alloc|apply Kd.R_drewN|apply Kd.R_drew));exact HO226.out) hb);have n2_:=Aside0.mk (Kd.R_below (by (with_reducible repeat (first|apply Kd.R_alloc|apply Kd.R_drewN|apply Kd.R_drew));exact HO236.out) hb);have n3_:=Aside0.mk (Kd.R_below (by (with_reducible repeat (first|apply Kd.R_alloc|apply Kd.R_drewN|apply Kd.R_drew));exact HO240.out) hb);have n4_:=Aside0.mk (below_step zhb hb);clear HO221;clear HO226;clear HO236;clear HO240;clear HB;have HO221:=n0_;have HO226:=n1_;have HO236:=n2_;have HO240:=n3_;have HB:=n4_;clear n0_ n1_ n2_ n3_ n4_;(try clear hb);(try clear hb2);(try clear hk);(try clear hi))|(go_at_call 32;(with_reducible refine (impl_RowOk.calls k _ _ t233 t242 _ ?side1 ?side2 A25.out).mono ?_);(case side1=>repeat (first|exact (Kd.R_reads' HO236.out).2.2|(with_reducible refine Kd.C_alloc ?_ _)|(with_reducible refine Kd.C_drewN ?_ _)|(with_reducible refine Kd.C_drew ?_)));(case side2=>exact (Kd.R_reads' HO236.out).2.1);rintro e w' ⟨rfl,⟨nd,rfl⟩⟩))
           go_ret
           exact ⟨by first|rfl|(rw [HR_.out];first|done|rfl)|(simp [errW_none,errW_some] <;> rfl)|(exact absurd ((Option.some.inj (A11.out.symm.trans A13.out)).trans HR_.out) (by decide))|(simp [*,errW_none,errW_some] <;> rfl),zhb⟩
          ·rw [if_neg c24] at H
           have c24b0:(t241.toList == t232.toList)=false:=beq_eq_false_iff_ne.mpr c24
           have c24b1:(t241.toList != t232.toList)=true:=bne_iff_ne.mpr c24
           exact absurd ((Option.some.inj H).trans HR_.out) (by decide)
         ·replace c22:=Bool.eq_false_iff.mpr c22
          subst c22
          have H1:(some true)=some r:=by rw [if_neg (show ¬ (false=true) by decide)] at H;exact H
          clear H
          have H:=H1
          clear H1
          obtain rfl:=Option.some.inj H
          (try (have e_:=Option.some.inj (A11.out.symm.trans A13.out);subst e_))
          go_enter Tryd.func8,Tryd.ntmps8
          go_wp2_with (first|((with_reducible refine gate_callee (f:=31) rfl ?_);refine goesL_ (some 23) rfl rfl Tryd.func31 (by kernel_rfl) rfl #[.slice A0 l0.length c0] rfl zar ?_;(with_reducible refine (spec_DrawRowText.calls k _ _ l0 t219 _ ?side1 ?side2 A5.out).mono ?_);(case side1=>exact zC HR0.out);(case side2=>exact HC0.out);rintro e w37 ⟨v220,rfl,ho0,hb⟩;refine ⟨_,rfl,?_⟩;have n0_:=Aside0.mk (Kd.R_lower ho0 (below_size zhb));have n1_:=Aside0.mk (below_step zhb hb);clear HB;have HO221:=n0_;have HB:=n1_;clear n0_ n1_;(try clear hb);(try clear hb2);(try clear hk);(try clear hi);(try clear ho0);obtain ⟨Ao38,co38,eo38⟩:=Kd.R_slice HO221.out;subst eo38)|((with_reducible refine gate_callee (f:=16) rfl ?_);refine goesL_ (some 25) rfl rfl Tryd.func16 (by kernel_rfl) rfl #[.slice Ao38 t219.length co38] rfl zar ?_;(with_reducible refine (impl_RowText.calls _ _ t219 t222 _ ?side1 ?side2 A6.out).mono ?_);(case side1=>repeat (first|exact (Kd.R_reads' HO221.out).2.2|(with_reducible refine Kd.C_alloc ?_ _)|(with_reducible refine Kd.C_drewN ?_ _)|(with_reducible refine Kd.C_drew ?_)));(case side2=>exact (Kd.R_reads' HO221.out).2.1);rintro e w39 ⟨rfl,hb⟩;refine ⟨_,rfl,?_⟩;have n0_:=Aside0.mk (Kd.R_below (by (with_reducible repeat (first|apply Kd.R_alloc|apply Kd.R_drewN|apply Kd.R_drew));exact HO221.out) hb);have n1_:=Aside0.mk (below_step zhb hb);clear HO221;clear HB;have HO221:=n0_;have HB:=n1_;clear n0_ n1_;(try clear hb);(try clear hb2);(try clear hk);(try clear hi))|((with_reducible refine gate_callee (f:=28) rfl ?_);refine goesL_ (some 28) rfl rfl Tryd.func28 (by kernel_rfl) rfl #[.string t222] rfl zar ?_;(with_reducible refine (impl_RowRead.calls k t222 t223 true _ A7.out).mono ?_);rintro e w40 ⟨v225,rfl,ho0,hb⟩;refine ⟨_,rfl,?_⟩;have n0_:=Aside0.mk (Kd.R_elder' (by (with_reducible repeat (first|apply Kd.R_alloc|apply Kd.R_drewN|apply Kd.R_drew));exact HO221.out) (Kd.R_base ho0) hb);have n1_:=Aside0.mk (Kd.R_lower (Kd.R_new' ho0 (Kd.R_lt (by (with_reducible repeat (first|apply Kd.R_alloc|apply Kd.R_drewN|apply Kd.R_drew));exact HO221.out))) (below_size zhb));have n2_:=Aside0.mk (below_step zhb hb);clear HO221;clear HB;have HO221:=n0_;have HO226:=n1_;have HB:=n2_;clear n0_ n1_ n2_;(try clear hb);(try clear hb2);(try clear hk);(try clear hi);(try clear ho0))|((with_reducible refine gate_callee (f:=14) rfl ?_);refine goesL_ (some 33) rfl rfl Tryd.func14 (by kernel_rfl) rfl #[.slice Ao38 t219.length co38] rfl zar ?_;(with_reducible refine (spec_RowText.calls k _ _ t219 t227 _ ?side1 ?side2 A8.out).mono ?_);(case side1=>repeat (first|exact (Kd.R_reads' HO221.out).2.2|(with_reducible refine Kd.C_alloc ?_ _)|(with_reducible refine Kd.C_drewN ?_ _)|(with_reducible refine Kd.C_drew ?_)));(case side2=>exact (Kd.R_reads' HO221.out).2.1);rintro e w41 ⟨rfl,hb⟩;refine ⟨_,rfl,?_⟩;have n0_:=Aside0.mk (Kd.R_below (by (with_reducible repeat (first|apply Kd.R_alloc|apply Kd.R_drewN|apply Kd.R_drew));exact HO221.out) hb);have n1_:=Aside0.mk (Kd.R_below (by (with_reducible repeat (first|apply Kd.R_alloc|apply Kd.R_drewN|apply Kd.R_drew));exact HO226.out) hb);have n2_:=Aside0.mk (below_step zhb hb);clear HO221;clear HO226;clear HB;have HO221:=n0_;have HO226:=n1_;have HB:=n2_;clear n0_ n1_ n2_;(try clear hb);(try clear hb2);(try clear hk);(try clear hi))|(go_at_call 32;(with_reducible refine (impl_RowOk.calls k _ _ t219 t228 _ ?side1 ?side2 A10.out).mono ?_);(case side1=>repeat (first|exact (Kd.R_reads' HO221.out).2.2|(with_reducible refine Kd.C_alloc ?_ _)|(with_reducible refine Kd.C_drewN ?_ _)|(with_reducible refine Kd.C_drew ?_)));(case side2=>exact (Kd.R_reads' HO221.out).2.1);rintro e w' ⟨rfl,⟨nd,rfl⟩⟩)|(go_at_call 33;(with_reducible refine (spec_RowOk.calls k _ _ t219 t229 _ ?side1 ?side2 A11.out).mono ?_);(case side1=>repeat (first|exact (Kd.R_reads' HO221.out).2.2|(with_reducible refine Kd.C_alloc ?_ _)|(with_reducible refine Kd.C_drewN ?_ _)|(with_reducible refine Kd.C_drew ?_)));(case side2=>exact (Kd.R_reads' HO221.out).2.1);rintro e w' ⟨rfl,⟨nd,rfl⟩⟩;(try (obtain ⟨Ao42,co42,eo42⟩:=Kd.R_slice HO226.out;subst eo42)))|(go_at_call 33;(with_reducible refine (spec_RowOk.calls k _ _ t219 t230 _ ?side1 ?side2 A13.out).mono ?_);(case side1=>repeat (first|exact (Kd.R_reads' HO221.out).2.2|(with_reducible refine Kd.C_alloc ?_ _)|(with_reducible refine Kd.C_drewN ?_ _)|(with_reducible refine Kd.C_drew ?_)));(case side2=>exact (Kd.R_reads' HO221.out).2.1);rintro e w' ⟨rfl,⟨nd,rfl⟩⟩;obtain ⟨Ao42,co42,eo42⟩:=Kd.R_slice HO226.out;subst eo42)|(go_at_call 34;(with_reducible refine (impl_RowSame.calls k _ _ t223 _ _ t219 true _ ?side1 ?side2 ?side3 ?side4 A16.out).mono ?_);(case side1=>repeat (first|exact (Kd.R_reads' HO226.out).2.2|(with_reducible refine Kd.C_alloc ?_ _)|(with_reducible refine Kd.C_drewN ?_ _)|(with_reducible refine Kd.C_drew ?_)));(case side2=>exact (Kd.R_reads' HO226.out).2.1);(case side3=>repeat (first|exact (Kd.R_reads' HO221.out).2.2|(with_reducible refine Kd.C_alloc ?_ _)|(with_reducible refine Kd.C_drewN ?_ _)|(with_reducible refine Kd.C_drew ?_)));(case side4=>exact (Kd.R_reads' HO221.out).2.1);rintro e w' ⟨rfl,⟨nd,rfl⟩⟩)|((with_reducible refine gate_callee (f:=35) rfl ?_);refine goesL_ (some 58) rfl rfl Tryd.func35 (by kernel_rfl) rfl #[.slice A1 l1.length c1] rfl zar ?_;(with_reducible refine (spec_DrawRowRead.calls k _ _ l1 t232 _ ?side1 ?side2 A18.out).mono ?_);(case side1=>exact zC (Kd.C_below HR1.out zhb));(case side2=>exact HC1.out);rintro e w43 ⟨rfl,hb⟩;refine ⟨_,rfl,?_⟩;have n0_:=Aside0.mk (Kd.R_below (by (with_reducible repeat (first|apply Kd.R_alloc|apply Kd.R_drewN|apply Kd.R_drew));exact HO221.out) hb);have n1_:=Aside0.mk (Kd.R_below (by (with_reducible repeat (first|apply Kd.R_alloc|apply Kd.R_drewN|apply Kd.R_drew));exact HO226.out) hb);have n2_:=Aside0.mk (below_step zhb hb);clear HO221;clear HO226;clear HB;have HO221:=n0_;have HO226:=n1_;have HB:=n2_;clear n0_ n1_ n2_;(try clear hb);(try clear hb2);(try clear hk);(try clear hi))|((with_reducible refine gate_callee (f:=28) rfl ?_);refine goesL_ (some 61) rfl rfl Tryd.func28 (by kernel_rfl) rfl #[.string t232] rfl zar ?_;(with_reducible refine (impl_RowRead.calls k t232 t233 false _ A19.out).mono ?_);rintro e w44 ⟨v235,rfl,ho0,hb⟩;refine ⟨_,rfl,?_⟩;have n0_:=Aside0.mk (Kd.R_elder' (by (with_reducible repeat (first|apply Kd.R_alloc|apply Kd.R_drewN|apply Kd.R_drew));exact HO221.out) (Kd.R_base ho0) hb);have n1_:=Aside0.mk (Kd.R_elder' (by (with_reducible repeat (first|apply Kd.R_alloc|apply Kd.R_drewN|apply Kd.R_drew));exact HO226.out) (Kd.R_base ho0) hb);have n2_:=Aside0.mk (Kd.R_lower (Kd.R_new' (Kd.R_new' ho0 (Kd.R_lt (by (with_reducible repeat (first|apply Kd.R_alloc|apply Kd.R_drewN|apply Kd.R_drew));exact HO221.out))) (Kd.R_lt (by (with_reducible repeat (first|apply Kd.R_alloc|apply Kd.R_drewN|apply Kd.R_drew));exact HO226.out))) (below_size zhb));have n3_:=Aside0.mk (below_step zhb hb);clear HO221;clear HO226;clear HB;have HO221:=n0_;have HO226:=n1_;have HO236:=n2_;have HB:=n3_;clear n0_ n1_ n2_ n3_;(try clear hb);(try clear hb2);(try clear hk);(try clear hi);(try clear ho0))|((with_reducible refine gate_callee (f:=27) rfl ?_);refine goesL_ (some 66) rfl rfl Tryd.func27 (by kernel_rfl) rfl #[.string t232] rfl zar ?_;(with_reducible refine (spec_RowRead.calls k t232 t237 t238 _ A20.out).mono ?_);rintro e w45 ⟨v239,rfl,ho0,hb⟩;refine ⟨_,rfl,?_⟩;have n0_:=Aside0.mk (Kd.R_elder' (by (with_reducible repeat (first|apply Kd.R_alloc|apply Kd.R_drewN|apply Kd.R_drew));exact HO221.out) (Kd.R_base ho0) hb);have n1_:=Aside0.mk (Kd.R_elder' (by (with_reducible repeat (first|apply Kd.R_alloc|apply Kd.R_drewN|apply Kd.R_drew));exact HO226.out) (Kd.R_base ho0) hb);have n2_:=Aside0.mk (Kd.R_elder' (by (with_reducible repeat (first|apply Kd.R_alloc|apply Kd.R_drewN|apply Kd.R_drew));exact HO236.out) (Kd.R_base ho0) hb);have n3_:=Aside0.mk (Kd.R_lower (Kd.R_new' (Kd.R_new' (Kd.R_new' ho0 (Kd.R_lt (by (with_reducible repeat (first|apply Kd.R_alloc|apply Kd.R_drewN|apply Kd.R_drew));exact HO221.out))) (Kd.R_lt (by (with_reducible repeat (first|apply Kd.R_alloc|apply Kd.R_drewN|apply Kd.R_drew));exact HO226.out))) (Kd.R_lt (by (with_reducible repeat (first|apply Kd.R_alloc|apply Kd.R_drewN|apply Kd.R_drew));exact HO236.out))) (below_size zhb));have n4_:=Aside0.mk (below_step zhb hb);clear HO221;clear HO226;clear HO236;clear HB;have HO221:=n0_;have HO226:=n1_;have HO236:=n2_;have HO240:=n3_;have HB:=n4_;clear n0_ n1_ n2_ n3_ n4_;(try clear hb);(try clear hb2);(try clear hk);(try clear hi);(try clear ho0)))
          go_ret
          exact ⟨by first|rfl|(rw [HR_.out];first|done|rfl)|(simp [errW_none,errW_some] <;> rfl)|(exact absurd ((Option.some.inj (A11.out.symm.trans A13.out)).trans HR_.out) (by decide))|(simp [*,errW_none,errW_some] <;> rfl),zhb⟩
        ·rw [if_neg c21] at H
         have c21b0:(t234 == t238)=false:=by simpa using c21
         (try (have c21b1:decide (t234=t238)=false:=by simpa using c21))
         (try (have c21b2:(t234 == t238)=false:=by simpa using c21))
         (try (have c21b3 : ¬ (t234=t238):=by simpa using c21))
         clear c21
         exact absurd ((Option.some.inj H).trans HR_.out) (by decide)
       ·replace c17:=Bool.eq_false_iff.mpr c17
        subst c17
        have H1:(some false)=some r:=by rw [if_neg (show ¬ (false=true) by decide)] at H;exact H
        clear H
        have H:=H1
        clear H1
        exact absurd ((Option.some.inj H).trans HR_.out) (by decide)
      ·replace c15:=Bool.eq_false_iff.mpr c15
       subst c15
       have H1:((spec_DrawRowRead.f k l1).bind fun t243=>((impl_RowRead.f k t243).bind fun bt244=>((spec_RowRead.f k t243).bind fun bt248=>(if (bt244.2 == bt248.2)=true then (if bt244.2=true then ((impl_RowText.f bt244.1).bind fun t252=>(if t252.toList=t243.toList then ((impl_RowOk.f k bt244.1).bind fun t253=>(some t253)) else (some false))) else (some true)) else (some false)))))=some r:=by rw [if_neg (show ¬ (false=true) by decide)] at H;exact H
       clear H
       have H:=H1
       clear H1
       replace H:=Option.bind_eq_some_iff.mp H
       obtain ⟨t243,A460,H⟩:=H
       (try dsimp only at H)
       have A46:=Aside0.mk A460
       clear A460
       replace H:=Option.bind_eq_some_iff.mp H
       obtain ⟨⟨t244,t245⟩,A470,H⟩:=H
       (try dsimp only at H)
       have A47:=Aside0.mk A470
       clear A470
       replace H:=Option.bind_eq_some_iff.mp H
       obtain ⟨⟨t248,t249⟩,A480,H⟩:=H
       (try dsimp only at H)
       have A48:=Aside0.mk A480
       clear A480
       by_cases c49:(t245 == t249)=true
       ·rw [if_pos c49] at H
        have c49b0:(t245 == t249)=true:=c49
        (try (have c49b1:decide (t245=t249)=true:=by simpa using c49))
        (try (have c49b2:(t245 == t249)=true:=by simpa using c49))
        clear c49
        by_cases c50:t245=true
        ·subst c50
         have H1:((impl_RowText.f t244).bind fun t252=>(if t252.toList=t243.toList then ((impl_RowOk.f k t244).bind fun t253=>(some t253)) else (some false)))=some r:=by rw [if_pos rfl] at H;exact H
         clear H
         have H:=H1
         clear H1
         replace H:=Option.bind_eq_some_iff.mp H
         obtain ⟨t252,A510,H⟩:=H
         (try dsimp only at H)
         have A51:=Aside0.mk A510
         clear A510
         by_cases c52:t252.toList=t243.toList
         ·rw [if_pos c52] at H
          have c52b0:(t252.toList == t243.toList)=true:=beq_iff_eq.mpr c52
          have c52b1:(t252.toList != t243.toList)=false:=bne_eq_false_iff_eq.mpr c52
          clear c52
          replace H:=Option.bind_eq_some_iff.mp H
          obtain ⟨t253,A530,H⟩:=H
          (try dsimp only at H)
          have A53:=Aside0.mk A530
          clear A530
          obtain rfl:=Option.some.inj H
          (try (have e_:=Option.some.inj (A11.out.symm.trans A13.out);subst e_))
          go_enter Tryd.func8,Tryd.ntmps8
          go_wp2_with (first|((with_reducible refine gate_callee (f:=31) rfl ?_);refine goesL_ (some 23) rfl rfl Tryd.func31 (by kernel_rfl) rfl #[.slice A0 l0.length c0] rfl zar ?_;(with_reducible refine (spec_DrawRowText.calls k _ _ l0 t219 _ ?side1 ?side2 A5.out).mono ?_);(case side1=>exact zC HR0.out);(case side2=>exact HC0.out);rintro e w54 ⟨v220,rfl,ho0,hb⟩;refine ⟨_,rfl,?_⟩;have n0_:=Aside0.mk (Kd.R_lower ho0 (below_size zhb));have n1_:=Aside0.mk (below_step zhb hb);clear HB;have HO221:=n0_;have HB:=n1_;clear n0_ n1_;(try clear hb);(try clear hb2);(try clear hk);(try clear hi);(try clear ho0);obtain ⟨Ao55,co55,eo55⟩:=Kd.R_slice HO221.out;subst eo55)|((with_reducible refine gate_callee (f:=16) rfl ?_);refine goesL_ (some 25) rfl rfl Tryd.func16 (by kernel_rfl) rfl #[.slice Ao55 t219.length co55] rfl zar ?_;(with_reducible refine (impl_RowText.calls _ _ t219 t222 _ ?side1 ?side2 A6.out).mono ?_);(case side1=>repeat (first|exact (Kd.R_reads' HO221.out).2.2|(with_reducible refine Kd.C_alloc ?_ _)|(with_reducible refine Kd.C_drewN ?_ _)|(with_reducible refine Kd.C_drew ?_)));(case side2=>exact (Kd.R_reads' HO221.out).2.1);rintro e w56 ⟨rfl,hb⟩;refine ⟨_,rfl,?_⟩;have n0_:=Aside0.mk (Kd.R_below (by (with_reducible repeat (first|apply Kd.R_alloc|apply Kd.R_drewN|apply Kd.R_drew));exact HO221.out) hb);have n1_:=Aside0.mk (below_step zhb hb);clear HO221;clear HB;have HO221:=n0_;have HB:=n1_;clear n0_ n1_;(try clear hb);(try clear hb2);(try clear hk);(try clear hi))|((with_reducible refine gate_callee (f:=28) rfl ?_);refine goesL_ (some 28) rfl rfl Tryd.func28 (by kernel_rfl) rfl #[.string t222] rfl zar ?_;(with_reducible refine (impl_RowRead.calls k t222 t223 false _ A7.out).mono ?_);rintro e w57 ⟨v225,rfl,ho0,hb⟩;refine ⟨_,rfl,?_⟩;have n0_:=Aside0.mk (Kd.R_elder' (by (with_reducible repeat (first|apply Kd.R_alloc|apply Kd.R_drewN|apply Kd.R_drew));exact HO221.out) (Kd.R_base ho0) hb);have n1_:=Aside0.mk (Kd.R_lower (Kd.R_new' ho0 (Kd.R_lt (by (with_reducible repeat (first|apply Kd.R_alloc|apply Kd.R_drewN|apply Kd.R_drew));exact HO221.out))) (below_size zhb));have n2_:=Aside0.mk (below_step zhb hb);clear HO221;clear HB;have HO221:=n0_;have HO226:=n1_;have HB:=n2_;clear n0_ n1_ n2_;(try clear hb);(try clear hb2);(try clear hk);(try clear hi);(try clear ho0))|((with_reducible refine gate_callee (f:=14) rfl ?_);refine goesL_ (some 33) rfl rfl Tryd.func14 (by kernel_rfl) rfl #[.slice Ao55 t219.length co55] rfl zar ?_;(with_reducible refine (spec_RowText.calls k _ _ t219 t227 _ ?side1 ?side2 A8.out).mono ?_);(case side1=>repeat (first|exact (Kd.R_reads' HO221.out).2.2|(with_reducible refine Kd.C_alloc ?_ _)|(with_reducible refine Kd.C_drewN ?_ _)|(with_reducible refine Kd.C_drew ?_)));(case side2=>exact (Kd.R_reads' HO221.out).2.1);rintro e w58 ⟨rfl,hb⟩;refine ⟨_,rfl,?_⟩;have n0_:=Aside0.mk (Kd.R_below (by (with_reducible repeat (first|apply Kd.R_alloc|apply Kd.R_drewN|apply Kd.R_drew));exact HO221.out) hb);have n1_:=Aside0.mk (Kd.R_below (by (with_reducible repeat (first|apply Kd.R_alloc|apply Kd.R_drewN|apply Kd.R_drew));exact HO226.out) hb);have n2_:=Aside0.mk (below_step zhb hb);clear HO221;clear HO226;clear HB;have HO221:=n0_;have HO226:=n1_;have HB:=n2_;clear n0_ n1_ n2_;(try clear hb);(try clear hb2);(try clear hk);(try clear hi))|(go_at_call 32;(with_reducible refine (impl_RowOk.calls k _ _ t219 t228 _ ?side1 ?side2 A10.out).mono ?_);(case side1=>repeat (first|exact (Kd.R_reads' HO221.out).2.2|(with_reducible refine Kd.C_alloc ?_ _)|(with_reducible refine Kd.C_drewN ?_ _)|(with_reducible refine Kd.C_drew ?_)));(case side2=>exact (Kd.R_reads' HO221.out).2.1);rintro e w' ⟨rfl,⟨nd,rfl⟩⟩)|(go_at_call 33;(with_reducible refine (spec_RowOk.calls k _ _ t219 t229 _ ?side1 ?side2 A11.out).mono ?_);(case side1=>repeat (first|exact (Kd.R_reads' HO221.out).2.2|(with_reducible refine Kd.C_alloc ?_ _)|(with_reducible refine Kd.C_drewN ?_ _)|(with_reducible refine Kd.C_drew ?_)));(case side2=>exact (Kd.R_reads' HO221.out).2.1);rintro e w' ⟨rfl,⟨nd,rfl⟩⟩)|(go_at_call 33;(with_reducible refine (spec_RowOk.calls k _ _ t219 t230 _ ?side1 ?side2 A13.out).mono ?_);(case side1=>repeat (first|exact (Kd.R_reads' HO221.out).2.2|(with_reducible refine Kd.C_alloc ?_ _)|(with_reducible refine Kd.C_drewN ?_ _)|(with_reducible refine Kd.C_drew ?_)));(case side2=>exact (Kd.R_reads' HO221.out).2.1);rintro e w' ⟨rfl,⟨nd,rfl⟩⟩)|((with_reducible refine gate_callee (f:=35) rfl ?_);refine goesL_ (some 58) rfl rfl Tryd.func35 (by kernel_rfl) rfl #[.slice A1 l1.length c1] rfl zar ?_;(with_reducible refine (spec_DrawRowRead.calls k _ _ l1 t243 _ ?side1 ?side2 A46.out).mono ?_);(case side1=>exact zC (Kd.C_below HR1.out zhb));(case side2=>exact HC1.out);rintro e w59 ⟨rfl,hb⟩;refine ⟨_,rfl,?_⟩;have n0_:=Aside0.mk (Kd.R_below (by (with_reducible repeat (first|apply Kd.R_alloc|apply Kd.R_drewN|apply Kd.R_drew));exact HO221.out) hb);have n1_:=Aside0.mk (Kd.R_below (by (with_reducible repeat (first|apply Kd.R_alloc|apply Kd.R_drewN|apply Kd.R_drew));exact HO226.out) hb);have n2_:=Aside0.mk (below_step zhb hb);clear HO221;clear HO226;clear HB;have HO221:=n0_;have HO226:=n1_;have HB:=n2_;clear n0_ n1_ n2_;(try clear hb);(try clear hb2);(try clear hk);(try clear hi))|((with_reducible refine gate_callee (f:=28) rfl ?_);refine goesL_ (some 61) rfl rfl Tryd.func28 (by kernel_rfl) rfl #[.string t243] rfl zar ?_;(with_reducible refine (impl_RowRead.calls k t243 t244 true _ A47.out).mono ?_);rintro e w60 ⟨v246,rfl,ho0,hb⟩;refine ⟨_,rfl,?_⟩;have n0_:=Aside0.mk (Kd.R_elder' (by (with_reducible repeat (first|apply Kd.R_alloc|apply Kd.R_drewN|apply Kd.R_drew));exact HO221.out) (Kd.R_base ho0) hb);have n1_:=Aside0.mk (Kd.R_elder' (by (with_reducible repeat (first|apply Kd.R_alloc|apply Kd.R_drewN|apply Kd.R_drew));exact HO226.out) (Kd.R_base ho0) hb);have n2_:=Aside0.mk (Kd.R_lower (Kd.R_new' (Kd.R_new' ho0 (Kd.R_lt (by (with_reducible repeat (first|apply Kd.R_alloc|apply Kd.R_drewN|apply Kd.R_drew));exact HO221.out))) (Kd.R_lt (by (with_reducible repeat (first|apply Kd.R_alloc|apply Kd.R_drewN|apply Kd.R_drew));exact HO226.out))) (below_size zhb));have n3_:=Aside0.mk (below_step zhb hb);clear HO221;clear HO226;clear HB;have HO221:=n0_;have HO226:=n1_;have HO247:=n2_;have HB:=n3_;clear n0_ n1_ n2_ n3_;(try clear hb);(try clear hb2);(try clear hk);(try clear hi);(try clear ho0))|((with_reducible refine gate_callee (f:=27) rfl ?_);refine goesL_ (some 66) rfl rfl Tryd.func27 (by kernel_rfl) rfl #[.string t243] rfl zar ?_;(with_reducible refine (spec_RowRead.calls k t243 t248 t249 _ A48.out).mono ?_);rintro e w61 ⟨v250,rfl,ho0,hb⟩;refine ⟨_,rfl,?_⟩;have n0_:=Aside0.mk (Kd.R_elder' (by (with_reducible repeat (first|apply Kd.R_alloc|apply Kd.R_drewN|apply Kd.R_drew));exact HO221.out) (Kd.R_base ho0) hb);have n1_:=Aside0.mk (Kd.R_elder' (by (with_reducible repeat (first|apply Kd.R_alloc|apply Kd.R_drewN|apply Kd.R_drew));exact HO226.out) (Kd.R_base ho0) hb);have n2_:=Aside0.mk (Kd.R_elder' (by (with_reducible repeat (first|apply Kd.R_alloc|apply Kd.R_drewN|apply Kd.R_drew));exact HO247.out) (Kd.R_base ho0) hb);have n3_:=Aside0.mk (Kd.R_lower (Kd.R_new' (Kd.R_new' (Kd.R_new' ho0 (Kd.R_lt (by (with_reducible repeat (first|apply Kd.R_alloc|apply Kd.R_drewN|apply Kd.R_drew));exact HO221.out))) (Kd.R_lt (by (with_reducible repeat (first|apply Kd.R_alloc|apply Kd.R_drewN|apply Kd.R_drew));exact HO226.out))) (Kd.R_lt (by (with_reducible repeat (first|apply Kd.R_alloc|apply Kd.R_drewN|apply Kd.R_drew));exact HO247.out))) (below_size zhb));have n4_:=Aside0.mk (below_step zhb hb);clear HO221;clear HO226;clear HO247;clear HB;have HO221:=n0_;have HO226:=n1_;have HO247:=n2_;have HO251:=n3_;have HB:=n4_;clear n0_ n1_ n2_ n3_ n4_;(try clear hb);(try clear hb2);(try clear hk);(try clear hi);(try clear ho0);obtain ⟨Ao62,co62,eo62⟩:=Kd.R_slice HO247.out;subst eo62)|(go_at_call 16;(with_reducible refine (impl_RowText.calls _ _ t244 t252 _ ?side1 ?side2 A51.out).mono ?_);(case side1=>repeat (first|exact (Kd.R_reads' HO247.out).2.2|(with_reducible refine Kd.C_alloc ?_ _)|(with_reducible refine Kd.C_drewN ?_ _)|(with_reducible refine Kd.C_drew ?_)));(case side2=>exact (Kd.R_reads' HO247.out).2.1);rintro e w63 ⟨rfl,hb⟩;have n0_:=Aside0.mk (Kd.R_below (by (with_reducible repeat (first|apply Kd.R_alloc|apply Kd.R_drewN|apply Kd.R_drew));exact HO221.out) hb);have n1_:=Aside0.mk (Kd.R_below (by (with_reducible repeat (first|apply Kd.R_alloc|apply Kd.R_drewN|apply Kd.R_drew));exact HO226.out) hb);have n2_:=Aside0.mk (Kd.R_below (by (with_reducible repeat (first|apply Kd.R_alloc|apply Kd.R_drewN|apply Kd.R_drew));exact HO247.out) hb);have n3_:=Aside0.mk (Kd.R_below (by (with_reducible repeat (first|apply Kd.R_alloc|apply Kd.R_drewN|apply Kd.R_drew));exact HO251.out) hb);have n4_:=Aside0.mk (below_step zhb hb);clear HO221;clear HO226;clear HO247;clear HO251;clear HB;have HO221:=n0_;have HO226:=n1_;have HO247:=n2_;have HO251:=n3_;have HB:=n4_;clear n0_ n1_ n2_ n3_ n4_;(try clear hb);(try clear hb2);(try clear hk);(try clear hi))|(go_at_call 32;(with_reducible refine (impl_RowOk.calls k _ _ t244 t253 _ ?side1 ?side2 A53.out).mono ?_);(case side1=>repeat (first|exact (Kd.R_reads' HO247.out).2.2|(with_reducible refine Kd.C_alloc ?_ _)|(with_reducible refine Kd.C_drewN ?_ _)|(with_reducible refine Kd.C_drew ?_)));(case side2=>exact (Kd.R_reads' HO247.out).2.1);rintro e w' ⟨rfl,⟨nd,rfl⟩⟩))
          go_ret
          exact ⟨by first|rfl|(rw [HR_.out];first|done|rfl)|(simp [errW_none,errW_some] <;> rfl)|(exact absurd ((Option.some.inj (A11.out.symm.trans A13.out)).trans HR_.out) (by decide))|(simp [*,errW_none,errW_some] <;> rfl),zhb⟩
         ·rw [if_neg c52] at H
          have c52b0:(t252.toList == t243.toList)=false:=beq_eq_false_iff_ne.mpr c52
          have c52b1:(t252.toList != t243.toList)=true:=bne_iff_ne.mpr c52
          exact absurd ((Option.some.inj H).trans HR_.out) (by decide)
        ·replace c50:=Bool.eq_false_iff.mpr c50
         subst c50
         have H1:(some true)=some r:=by rw [if_neg (show ¬ (false=true) by decide)] at H;exact H
         clear H
         have H:=H1
         clear H1
         obtain rfl:=Option.some.inj H
         (try (have e_:=Option.some.inj (A11.out.symm.trans A13.out);subst e_))
         go_enter Tryd.func8,Tryd.ntmps8
         go_wp2_with (first|((with_reducible refine gate_callee (f:=31) rfl ?_);refine goesL_ (some 23) rfl rfl Tryd.func31 (by kernel_rfl) rfl #[.slice A0 l0.length c0] rfl zar ?_;(with_reducible refine (spec_DrawRowText.calls k _ _ l0 t219 _ ?side1 ?side2 A5.out).mono ?_);(case side1=>exact zC HR0.out);(case side2=>exact HC0.out);rintro e w64 ⟨v220,rfl,ho0,hb⟩;refine ⟨_,rfl,?_⟩;have n0_:=Aside0.mk (Kd.R_lower ho0 (below_size zhb));have n1_:=Aside0.mk (below_step zhb hb);clear HB;have HO221:=n0_;have HB:=n1_;clear n0_ n1_;(try clear hb);(try clear hb2);(try clear hk);(try clear hi);(try clear ho0);obtain ⟨Ao65,co65,eo65⟩:=Kd.R_slice HO221.out;subst eo65)|((with_reducible refine gate_callee (f:=16) rfl ?_);refine goesL_ (some 25) rfl rfl Tryd.func16 (by kernel_rfl) rfl #[.slice Ao65 t219.length co65] rfl zar ?_;(with_reducible refine (impl_RowText.calls _ _ t219 t222 _ ?side1 ?side2 A6.out).mono ?_);(case side1=>repeat (first|exact (Kd.R_reads' HO221.out).2.2|(with_reducible refine Kd.C_alloc ?_ _)|(with_reducible refine Kd.C_drewN ?_ _)|(with_reducible refine Kd.C_drew ?_)));(case side2=>exact (Kd.R_reads' HO221.out).2.1);rintro e w66 ⟨rfl,hb⟩;refine ⟨_,rfl,?_⟩;have n0_:=Aside0.mk (Kd.R_below (by (with_reducible repeat (first|apply Kd.R_alloc|apply Kd.R_drewN|apply Kd.R_drew));exact HO221.out) hb);have n1_:=Aside0.mk (below_step zhb hb);clear HO221;clear HB;have HO221:=n0_;have HB:=n1_;clear n0_ n1_;(try clear hb);(try clear hb2);(try clear hk);(try clear hi))|((with_reducible refine gate_callee (f:=28) rfl ?_);refine goesL_ (some 28) rfl rfl Tryd.func28 (by kernel_rfl) rfl #[.string t222] rfl zar ?_;(with_reducible refine (impl_RowRead.calls k t222 t223 false _ A7.out).mono ?_);rintro e w67 ⟨v225,rfl,ho0,hb⟩;refine ⟨_,rfl,?_⟩;have n0_:=Aside0.mk (Kd.R_elder' (by (with_reducible repeat (first|apply Kd.R_alloc|apply Kd.R_drewN|apply Kd.R_drew));exact HO221.out) (Kd.R_base ho0) hb);have n1_:=Aside0.mk (Kd.R_lower (Kd.R_new' ho0 (Kd.R_lt (by (with_reducible repeat (first|apply Kd.R_alloc|apply Kd.R_drewN|apply Kd.R_drew));exact HO221.out))) (below_size zhb));have n2_:=Aside0.mk (below_step zhb hb);clear HO221;clear HB;have HO221:=n0_;have HO226:=n1_;have HB:=n2_;clear n0_ n1_ n2_;(try clear hb);(try clear hb2);(try clear hk);(try clear hi);(try clear ho0))|((with_reducible refine gate_callee (f:=14) rfl ?_);refine goesL_ (some 33) rfl rfl Tryd.func14 (by kernel_rfl) rfl #[.slice Ao65 t219.length co65] rfl zar ?_;(with_reducible refine (spec_RowText.calls k _ _ t219 t227 _ ?side1 ?side2 A8.out).mono ?_);(case side1=>repeat (first|exact (Kd.R_reads' HO221.out).2.2|(with_reducible refine Kd.C_alloc ?_ _)|(with_reducible refine Kd.C_drewN ?_ _)|(with_reducible refine Kd.C_drew ?_)));(case side2=>exact (Kd.R_reads' HO221.out).2.1);rintro e w68 ⟨rfl,hb⟩;refine ⟨_,rfl,?_⟩;have n0_:=Aside0.mk (Kd.R_below (by (with_reducible repeat (first|apply Kd.R_alloc|apply Kd.R_drewN|apply Kd.R_drew));exact HO221.out) hb);have n1_:=Aside0.mk (Kd.R_below (by (with_reducible repeat (first|apply Kd.R_alloc|apply Kd.R_drewN|apply Kd.R_drew));exact HO226.out) hb);have n2_:=Aside0.mk (below_step zhb hb);clear HO221;clear HO226;clear HB;have HO221:=n0_;have HO226:=n1_;have HB:=n2_;clear n0_ n1_ n2_;(try clear hb);(try clear hb2);(try clear hk);(try clear hi))|(go_at_call 32;(with_reducible refine (impl_RowOk.calls k _ _ t219 t228 _ ?side1 ?side2 A10.out).mono ?_);(case side1=>repeat (first|exact (Kd.R_reads' HO221.out).2.2|(with_reducible refine Kd.C_alloc ?_ _)|(with_reducible refine Kd.C_drewN ?_ _)|(with_reducible refine Kd.C_drew ?_)));(case side2=>exact (Kd.R_reads' HO221.out).2.1);rintro e w' ⟨rfl,⟨nd,rfl⟩⟩)|(go_at_call 33;(with_reducible refine (spec_RowOk.calls k _ _ t219 t229 _ ?side1 ?side2 A11.out).mono ?_);(case side1=>repeat (first|exact (Kd.R_reads' HO221.out).2.2|(with_reducible refine Kd.C_alloc ?_ _)|(with_reducible refine Kd.C_drewN ?_ _)|(with_reducible refine Kd.C_drew ?_)));(case side2=>exact (Kd.R_reads' HO221.out).2.1);rintro e w' ⟨rfl,⟨nd,rfl⟩⟩)|(go_at_call 33;(with_reducible refine (spec_RowOk.calls k _ _ t219 t230 _ ?side1 ?side2 A13.out).mono ?_);(case side1=>repeat (first|exact (Kd.R_reads' HO221.out).2.2|(with_reducible refine Kd.C_alloc ?_ _)|(with_reducible refine Kd.C_drewN ?_ _)|(with_reducible refine Kd.C_drew ?_)));(case side2=>exact (Kd.R_reads' HO221.out).2.1);rintro e w' ⟨rfl,⟨nd,rfl⟩⟩)|((with_reducible refine gate_callee (f:=35) rfl ?_);refine goesL_ (some 58) rfl rfl Tryd.func35 (by kernel_rfl) rfl #[.slice A1 l1.length c1] rfl zar ?_;(with_reducible refine (spec_DrawRowRead.calls k _ _ l1 t243 _ ?side1 ?side2 A46.out).mono ?_);(case side1=>exact zC (Kd.C_below HR1.out zhb));(case side2=>exact HC1.out);rintro e w69 ⟨rfl,hb⟩;refine ⟨_,rfl,?_⟩;have n0_:=Aside0.mk (Kd.R_below (by (with_reducible repeat (first|apply Kd.R_alloc|apply Kd.R_drewN|apply Kd.R_drew));exact HO221.out) hb);have n1_:=Aside0.mk (Kd.R_below (by (with_reducible repeat (first|apply Kd.R_alloc|apply Kd.R_drewN|apply Kd.R_drew));exact HO226.out) hb);have n2_:=Aside0.mk (below_step zhb hb);clear HO221;clear HO226;clear HB;have HO221:=n0_;have HO226:=n1_;have HB:=n2_;clear n0_ n1_ n2_;(try clear hb);(try clear hb2);(try clear hk);(try clear hi))|((with_reducible refine gate_callee (f:=28) rfl ?_);refine goesL_ (some 61) rfl rfl Tryd.func28 (by kernel_rfl) rfl #[.string t243] rfl zar ?_;(with_reducible refine (impl_RowRead.calls k t243 t244 false _ A47.out).mono ?_);rintro e w70 ⟨v246,rfl,ho0,hb⟩;refine ⟨_,rfl,?_⟩;have n0_:=Aside0.mk (Kd.R_elder' (by (with_reducible repeat (first|apply Kd.R_alloc|apply Kd.R_drewN|apply Kd.R_drew));exact HO221.out) (Kd.R_base ho0) hb);have n1_:=Aside0.mk (Kd.R_elder' (by (with_reducible repeat (first|apply Kd.R_alloc|apply Kd.R_drewN|apply Kd.R_drew));exact HO226.out) (Kd.R_base ho0) hb);have n2_:=Aside0.mk (Kd.R_lower (Kd.R_new' (Kd.R_new' ho0 (Kd.R_lt (by (with_reducible repeat (first|apply Kd.R_alloc|apply Kd.R_drewN|apply Kd.R_drew));exact HO221.out))) (Kd.R_lt (by (with_reducible repeat (first|apply Kd.R_alloc|apply Kd.R_drewN|apply Kd.R_drew));exact HO226.out))) (below_size zhb));have n3_:=Aside0.mk (below_step zhb hb);clear HO221;clear HO226;clear HB;have HO221:=n0_;have HO226:=n1_;have HO247:=n2_;have HB:=n3_;clear n0_ n1_ n2_ n3_;(try clear hb);(try clear hb2);(try clear hk);(try clear hi);(try clear ho0))|((with_reducible refine gate_callee (f:=27) rfl ?_);refine goesL_ (some 66) rfl rfl Tryd.func27 (by kernel_rfl) rfl #[.string t243] rfl zar ?_;(with_reducible refine (spec_RowRead.calls k t243 t248 t249 _ A48.out).mono ?_);rintro e w71 ⟨v250,rfl,ho0,hb⟩;refine ⟨_,rfl,?_⟩;have n0_:=Aside0.mk (Kd.R_elder' (by (with_reducible repeat (first|apply Kd.R_alloc|apply Kd.R_drewN|apply Kd.R_drew));exact HO221.out) (Kd.R_base ho0) hb);have n1_:=Aside0.mk (Kd.R_elder' (by (with_reducible repeat (first|apply Kd.R_alloc|apply Kd.R_drewN|apply Kd.R_drew));exact HO226.out) (Kd.R_base ho0) hb);have n2_:=Aside0.mk (Kd.R_elder' (by (with_reducible repeat (first|apply Kd.R_alloc|apply Kd.R_drewN|apply Kd.R_drew));exact HO247.out) (Kd.R_base ho0) hb);have n3_:=Aside0.mk (Kd.R_lower (Kd.R_new' (Kd.R_new' (Kd.R_new' ho0 (Kd.R_lt (by (with_reducible repeat (first|apply Kd.R_alloc|apply Kd.R_drewN|apply Kd.R_drew));exact HO221.out))) (Kd.R_lt (by (with_reducible repeat (first|apply Kd.R_alloc|apply Kd.R_drewN|apply Kd.R_drew));exact HO226.out))) (Kd.R_lt (by (with_reducible repeat (first|apply Kd.R_alloc|apply Kd.R_drewN|apply Kd.R_drew));exact HO247.out))) (below_size zhb));have n4_:=Aside0.mk (below_step zhb hb);clear HO221;clear HO226;clear HO247;clear HB;have HO221:=n0_;have HO226:=n1_;have HO247:=n2_;have HO251:=n3_;have HB:=n4_;clear n0_ n1_ n2_ n3_ n4_;(try clear hb);(try clear hb2);(try clear hk);(try clear hi);(try clear ho0)))
         go_ret
         exact ⟨by first|rfl|(rw [HR_.out];first|done|rfl)|(simp [errW_none,errW_some] <;> rfl)|(exact absurd ((Option.some.inj (A11.out.symm.trans A13.out)).trans HR_.out) (by decide))|(simp [*,errW_none,errW_some] <;> rfl),zhb⟩
       ·rw [if_neg c49] at H
        have c49b0:(t245 == t249)=false:=by simpa using c49
        (try (have c49b1:decide (t245=t249)=false:=by simpa using c49))
        (try (have c49b2:(t245 == t249)=false:=by simpa using c49))
        (try (have c49b3 : ¬ (t245=t249):=by simpa using c49))
        clear c49
        exact absurd ((Option.some.inj H).trans HR_.out) (by decide)
   ·rw [if_neg c9] at H
    have c9b0:(t222.toList == t227.toList)=false:=beq_eq_false_iff_ne.mpr c9
    have c9b1:(t222.toList != t227.toList)=true:=bne_iff_ne.mpr c9
    exact absurd ((Option.some.inj H).trans HR_.out) (by decide)

/-- THE ONE PURE STATEMENT of laws_FnRow: yours. -/
def laws_FnRow.Pure:Prop:=∀ (l0:List Int) (l1:List Int),l0.length≤maxLen→l0.length * 1≤140737488351232→(∀ x ∈ l0,(Lit.int .u8 x).wf=true)→l1.length≤maxLen→l1.length * 1≤140737488351232→(∀ x ∈ l1,(Lit.int .u8 x).wf=true)→∃ k,laws_FnRow.f k l0 l1=some true
theorem laws_FnRow.walk (P:laws_FnRow.Pure) (a0:Option Addr) (len0 cap0:Nat) (z0:List Int) (a1:Option Addr) (len1 cap1:Nat) (z1:List Int) (w:World) (w0:(a0=none∧len0=0∧cap0=0∧z0 = [])∨∃ x,a0=some x∧len0≤cap0∧cap0≤maxLen∧z0.length=cap0∧(∀ i,i < z0.length→w.cell? (x.add i)=some (.int .u8 (z0.getD i 0)))∧∀ n ∈ z0,(Lit.int .u8 n).wf=true) (y0:len0 * 1≤140737488351232) (w1:(a1=none∧len1=0∧cap1=0∧z1 = [])∨∃ x,a1=some x∧len1≤cap1∧cap1≤maxLen∧z1.length=cap1∧(∀ i,i < z1.length→w.cell? (x.add i)=some (.int .u8 (z1.getD i 0)))∧∀ n ∈ z1,(Lit.int .u8 n).wf=true) (y1:len1 * 1≤140737488351232) (hT:TxtW w) :
  Calls Tryd.prog 8 #[.slice a0 len0 cap0,.slice a1 len1 cap1] w fun e w'=>e=.returned (.bool true)∧Below w.heap.size w w':=by
 obtain ⟨l0,rfl,hr0,hm0,hw0,hc0⟩:=ReadsInt.ofRowC w0
 obtain ⟨l1,rfl,hr1,hm1,hw1,hc1⟩:=ReadsInt.ofRowC w1
 obtain ⟨k,h⟩:=P l0 l1 hm0 y0 hw0 hm1 y1 hw1
 refine (laws_FnRow.calls k _ _ l0 _ _ l1 true w (Kd.C_of_reads (d:=(0:Int)) (h1:=fun _=>rfl) hr0) hc0 (Kd.C_of_reads (d:=(0:Int)) (h1:=fun _=>rfl) hr1) hc1 h rfl hT).mono ?_
 rintro e w' ⟨rfl,hd⟩
 exact ⟨rfl,hd⟩

end Go.Proofs.YtgcplipimcbhlaaDoor.PFnRow
