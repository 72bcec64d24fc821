-- Written by wip/tools/pp.py, a program of this session over the kit's printer: not the kit's own print
import Derived.Test.YtgcplipimcbhlaaGreatDoorPFnZTextx0
import Derived.Test.YtgcplipimcbhlaaGreatDoorPFnZTextx1
import Derived.Test.YtgcplipimcbhlaaGreatDoorPFnZTextx3
import Derived.Test.YtgcplipimcbhlaaGreatDoorPFnZTextx11
namespace Go.Proofs.YtgcplipimcbhlaaGreatDoor.PFnZText
open Go.RowKit Go.Proofs.YtgcplipimcbhlaaGreatDoorW.PrintWords Go.Proofs.YtgcplipimcbhlaaGreatDoorW.PrintLast Go.Proofs.YtgcplipimcbhlaaGreatDoorW.PrintMore
attribute [local go_sem] max2_int min2_int max_two min_two max_three min_three max_four min_four   -- for this text's walks alone
set_option linter.unusedVariables false
set_option linter.unusedSimpArgs false

/-! ### spec_DrawZRead: function 14 -/
def spec_DrawZRead.f (k:Nat) (l0:List Int):Option (ByteArray):=(spec_l12Open.f l0).bind fun bt273=>((spec_l2Bent.f k bt273.1 bt273.2).bind fun bt276=>((spec_ZText.f k bt276.1).bind fun t280=>(if (t280.size:Int)=0 then (some t280) else ((spec_l12Rd_pick.f bt273.1 bt276.2 2).bind fun bt281=>(if bt281.1=0 then (some t280) else ((spec_l12Rd_pick.f bt273.1 bt281.2 (t280.size:Int)).bind fun bt283=>(if 0≤bt283.1 then (if bt283.1≤(t280.size:Int) then ((spec_l12Rd_of.f bt273.1 bt283.2 (([(⟨#[]⟩:ByteArray),(⟨#[48]⟩:ByteArray),(⟨#[44]⟩:ByteArray),(⟨#[45]⟩:ByteArray),(⟨#[32]⟩:ByteArray),(⟨#[42]⟩:ByteArray),(⟨#[42,49,32]⟩:ByteArray)]:List ByteArray))).bind fun bt288=>(if (t280.extract 0 (bt283.1:Int).toNat).size + bt288.1.size≤9223372036854775807 then ((spec_l12Rd_pick.f bt273.1 bt288.2 2).bind fun bt290=>(if 0≤(wrap64 (bt283.1 + bt290.1)) then (if (wrap64 (bt283.1 + bt290.1))≤(t280.size:Int) then (if ((t280.extract 0 (bt283.1:Int).toNat) ++ bt288.1).size + (t280.extract ((wrap64 (bt283.1 + bt290.1)):Int).toNat t280.size).size≤9223372036854775807 then (some (((t280.extract 0 (bt283.1:Int).toNat) ++ bt288.1) ++ (t280.extract ((wrap64 (bt283.1 + bt290.1)):Int).toNat t280.size))) else (none)) else (none)) else (none))) else (none))) else (none)) else (none))))))))
theorem spec_DrawZRead.mono : ∀ a0 k,LeO (spec_DrawZRead.f k a0) (spec_DrawZRead.f (k + 1) a0):=by
 intro a0 k
 unfold spec_DrawZRead.f
 repeat' first
   | (with_reducible exact spec_ZText.mono _ _)
   | (with_reducible exact spec_l2Bent.mono _ _ _)
   | (with_reducible exact LeO.refl _)
   | (with_reducible exact LeO.none _)
   | (with_reducible refine LeO.ite ?_ ?_)
   | (with_reducible refine LeO.bind ?_ (fun _=>?_))
   | exact LeO.none _
   | refine LeO.ite ?_ ?_
   | refine LeO.bind ?_ (fun _=>?_)
def spec_DrawZRead.T6:Bool × List (List Nat × List Nat):=(true,[([],[]),([],[]),([0,1],[0,1]),([],[]),([],[]),([3,4],[3,4]),([2,5],[2,5]),([],[]),([],[]),([],[]),([9,5],[9]),([8,10],[8,10]),([7,11],[7,11]),([6,12],[6,12]),([13,10,0,1,2,3,4,5,6,7,8,9,10,11,12,13],[13])])
def spec_DrawZRead.B6:List Nat:=[0,0,3,0,0,24,63,0,0,0,568,1848,4024,8191,16383]
theorem spec_DrawZRead.tab6:rtab .any (opsOf Tryz.f14 6)=spec_DrawZRead.T6:=by kernel_rfl
theorem spec_DrawZRead.bits6:waitsOk spec_DrawZRead.T6.2 spec_DrawZRead.B6=true:=by kernel_rfl
set_option maxHeartbeats 8000000 in
set_option maxRecDepth 100000 in
theorem spec_DrawZRead.calls (k:Nat) (A0:Option Addr) (c0:Nat) (l0:List Int) (r:ByteArray) (w:World) (hr0:Kd.C (Kd.int .u8) w A0 l0.length l0) (hc0:l0.length≤c0) (h:spec_DrawZRead.f k l0=some r) :
  Calls Tryz.prog 14 #[.slice A0 l0.length c0] w fun e w'=>e=.returned (.string r)∧Below w.heap.size w w':=by
 have HR0:=Aside0.mk hr0
 have HC0:=Aside0.mk hc0
 clear hr0 hc0
 have HB:=Aside0.mk (Below.refl w.heap.size w)
 have H:((spec_l12Open.f l0).bind fun bt273=>((spec_l2Bent.f k bt273.1 bt273.2).bind fun bt276=>((spec_ZText.f k bt276.1).bind fun t280=>(if (t280.size:Int)=0 then (some t280) else ((spec_l12Rd_pick.f bt273.1 bt276.2 2).bind fun bt281=>(if bt281.1=0 then (some t280) else ((spec_l12Rd_pick.f bt273.1 bt281.2 (t280.size:Int)).bind fun bt283=>(if 0≤bt283.1 then (if bt283.1≤(t280.size:Int) then ((spec_l12Rd_of.f bt273.1 bt283.2 (([(⟨#[]⟩:ByteArray),(⟨#[48]⟩:ByteArray),(⟨#[44]⟩:ByteArray),(⟨#[45]⟩:ByteArray),(⟨#[32]⟩:ByteArray),(⟨#[42]⟩:ByteArray),(⟨#[42,49,32]⟩:ByteArray)]:List ByteArray))).bind fun bt288=>(if (t280.extract 0 (bt283.1:Int).toNat).size + bt288.1.size≤9223372036854775807 then ((spec_l12Rd_pick.f bt273.1 bt288.2 2).bind fun bt290=>(if 0≤(wrap64 (bt283.1 + bt290.1)) then (if (wrap64 (bt283.1 + bt290.1))≤(t280.size:Int) then (if ((t280.extract 0 (bt283.1:Int).toNat) ++ bt288.1).size + (t280.extract ((wrap64 (bt283.1 + bt290.1)):Int).toNat t280.size).size≤9223372036854775807 then (some (((t280.extract 0 (bt283.1:Int).toNat) ++ bt288.1) ++ (t280.extract ((wrap64 (bt283.1 + bt290.1)):Int).toNat t280.size))) else (none)) else (none)) else (none))) else (none))) else (none)) else (none)))))))))=some r:=h
 clear h
 replace H:=Option.bind_eq_some_iff.mp H
 obtain ⟨⟨t273,t274⟩,A20,H⟩:=H
 (try dsimp only at H)
 have A2:=Aside0.mk A20
 clear A20
 replace H:=Option.bind_eq_some_iff.mp H
 obtain ⟨⟨t276,t279⟩,A30,H⟩:=H
 (try dsimp only at H)
 have A3:=Aside0.mk A30
 clear A30
 replace H:=Option.bind_eq_some_iff.mp H
 obtain ⟨t280,A40,H⟩:=H
 (try dsimp only at H)
 have A4:=Aside0.mk A40
 clear A40
 by_cases c5:(t280.size:Int)=0
 ·rw [if_pos c5] at H
  have c5b0:((t280.size:Int) == 0)=true:=beq_iff_eq.mpr c5
  have c5b1:((t280.size:Int) != 0)=false:=bne_eq_false_iff_eq.mpr c5
  clear c5
  obtain rfl:=Option.some.inj H
  go_enter Tryz.func14,Tryz.ntmps14
  go_wp2_with (first|((with_reducible refine gate_callee (f:=19) rfl ?_);refine goesL_ (some 7) rfl rfl Tryz.func19 (by kernel_rfl) rfl #[.slice A0 l0.length c0] rfl zar ?_;(with_reducible refine (spec_l12Open.calls _ _ l0 t273 t274 w _ ?side1 ?side2 ?side3 A2.out).mono ?_);(case side1=>exact zhb);(case side2=>exact HR0.out);(case side3=>exact HC0.out);rintro e w6 ⟨g275,rfl,hi,hb,hb2⟩;refine ⟨_,rfl,?_⟩;have n0_:=Aside0.mk (hb);have n1_:=Aside0.mk (hi);clear HB;have HB:=n0_;have HI275:=n1_;clear n0_ n1_;(try clear hb);(try clear hb2);(try clear hk);(try clear hi))|((with_reducible refine gate_callee (f:=18) rfl ?_);refine goesL_ (some 9) rfl rfl Tryz.func18 (by kernel_rfl) rfl #[.pointer (some ⟨g275,0,none⟩)] rfl zar ?_;(with_reducible refine (spec_l2Bent.calls k g275 t273 t274 t276 t279 w _ ?side1 ?side2 A3.out).mono ?_);(case side1=>repeat (first|(with_reducible first|exact HI275.out|apply IsS71.alloc|apply IsS71.drewN|apply IsS71.drew|apply IsS71.set_1)|exact HI275.out));(case side2=>repeat (first|(with_reducible first|exact HB.out|apply below_alloc|apply pw_below_drewN|apply below_drew1|refine below_set ?_ (IsS71.ge HI275.out))|exact HB.out));rintro e w7 ⟨v277,rfl,ho0,hi,hb,hk⟩;refine ⟨_,rfl,?_⟩;have n0_:=Aside0.mk (Kd.N_lower (Kd.N_mono (ok':=fun k_=>k_≠g275) ho0 (fun k_ hk_=>(IsS71.fresh (by repeat (first|(with_reducible first|exact HI275.out|apply IsS71.alloc|apply IsS71.drewN|apply IsS71.drew|apply IsS71.set_1)|exact HI275.out)) k_ hk_))) (below_size (by repeat (first|(with_reducible first|exact HB.out|apply below_alloc|apply pw_below_drewN|apply below_drew1|refine below_set ?_ (IsS71.ge HI275.out))|exact HB.out))));have n1_:=Aside0.mk (hb);have n2_:=Aside0.mk (hi);clear HB;clear HI275;have HO278:=n0_;have HB:=n1_;have HI275:=n2_;clear n0_ n1_ n2_;(try clear hb);(try clear hb2);(try clear hk);(try clear hi);(try clear ho0);obtain ⟨Ao8,co8,eo8⟩:=Kd.N_slice HO278.out;subst eo8)|((with_reducible refine gate_callee (f:=13) rfl ?_);refine goesL_ (some 10) rfl rfl Tryz.func13 (by kernel_rfl) rfl #[.slice Ao8 t276.length co8] rfl zar ?_;(with_reducible refine (spec_ZText.calls k _ _ t276 t280 _ ?side1 ?side2 A4.out).mono ?_);(case side1=>exact zC (Kd.N_reads' HO278.out).2.2);(case side2=>exact (Kd.N_reads' HO278.out).2.1);rintro e w9 ⟨rfl,hb⟩;refine ⟨_,rfl,?_⟩;have n0_:=Aside0.mk (Kd.N_below (zN HO278.out) hb);have n1_:=Aside0.mk (IsS71.below (by repeat (first|(with_reducible first|exact HI275.out|apply IsS71.alloc|apply IsS71.drewN|apply IsS71.drew|apply IsS71.set_1)|exact HI275.out)) hb);have n2_:=Aside0.mk (below_step (by repeat (first|(with_reducible first|exact HB.out|apply below_alloc|apply pw_below_drewN|apply below_drew1|refine below_set ?_ (IsS71.ge HI275.out))|exact HB.out)) hb);clear HO278;clear HI275;clear HB;have HO278:=n0_;have HI275:=n1_;have HB:=n2_;clear n0_ n1_ n2_;(try clear hb);(try clear hb2);(try clear hk);(try clear hi)))
  go_ret
  exact ⟨by first|rfl|(simp [errW_none,errW_some] <;> rfl)|(simp [*,errW_none,errW_some] <;> rfl),by repeat (first|(with_reducible first|exact HB.out|apply below_alloc|apply pw_below_drewN|apply below_drew1|refine below_set ?_ (IsS71.ge HI275.out))|exact HB.out)⟩
 ·rw [if_neg c5] at H
  have c5b0:((t280.size:Int) == 0)=false:=beq_eq_false_iff_ne.mpr c5
  have c5b1:((t280.size:Int) != 0)=true:=bne_iff_ne.mpr c5
  replace H:=Option.bind_eq_some_iff.mp H
  obtain ⟨⟨t281,t282⟩,A100,H⟩:=H
  (try dsimp only at H)
  have A10:=Aside0.mk A100
  clear A100
  by_cases c11:t281=0
  ·rw [if_pos c11] at H
   have c11b0:(t281 == 0)=true:=beq_iff_eq.mpr c11
   have c11b1:(t281 != 0)=false:=bne_eq_false_iff_eq.mpr c11
   clear c11
   obtain rfl:=Option.some.inj H
   go_enter Tryz.func14,Tryz.ntmps14
   go_wp2_with (first|((with_reducible refine gate_callee (f:=19) rfl ?_);refine goesL_ (some 7) rfl rfl Tryz.func19 (by kernel_rfl) rfl #[.slice A0 l0.length c0] rfl zar ?_;(with_reducible refine (spec_l12Open.calls _ _ l0 t273 t274 w _ ?side1 ?side2 ?side3 A2.out).mono ?_);(case side1=>exact zhb);(case side2=>exact HR0.out);(case side3=>exact HC0.out);rintro e w12 ⟨g275,rfl,hi,hb,hb2⟩;refine ⟨_,rfl,?_⟩;have n0_:=Aside0.mk (hb);have n1_:=Aside0.mk (hi);clear HB;have HB:=n0_;have HI275:=n1_;clear n0_ n1_;(try clear hb);(try clear hb2);(try clear hk);(try clear hi))|((with_reducible refine gate_callee (f:=18) rfl ?_);refine goesL_ (some 9) rfl rfl Tryz.func18 (by kernel_rfl) rfl #[.pointer (some ⟨g275,0,none⟩)] rfl zar ?_;(with_reducible refine (spec_l2Bent.calls k g275 t273 t274 t276 t279 w _ ?side1 ?side2 A3.out).mono ?_);(case side1=>repeat (first|(with_reducible first|exact HI275.out|apply IsS71.alloc|apply IsS71.drewN|apply IsS71.drew|apply IsS71.set_1)|exact HI275.out));(case side2=>repeat (first|(with_reducible first|exact HB.out|apply below_alloc|apply pw_below_drewN|apply below_drew1|refine below_set ?_ (IsS71.ge HI275.out))|exact HB.out));rintro e w13 ⟨v277,rfl,ho0,hi,hb,hk⟩;refine ⟨_,rfl,?_⟩;have n0_:=Aside0.mk (Kd.N_lower (Kd.N_mono (ok':=fun k_=>k_≠g275) ho0 (fun k_ hk_=>(IsS71.fresh (by repeat (first|(with_reducible first|exact HI275.out|apply IsS71.alloc|apply IsS71.drewN|apply IsS71.drew|apply IsS71.set_1)|exact HI275.out)) k_ hk_))) (below_size (by repeat (first|(with_reducible first|exact HB.out|apply below_alloc|apply pw_below_drewN|apply below_drew1|refine below_set ?_ (IsS71.ge HI275.out))|exact HB.out))));have n1_:=Aside0.mk (hb);have n2_:=Aside0.mk (hi);clear HB;clear HI275;have HO278:=n0_;have HB:=n1_;have HI275:=n2_;clear n0_ n1_ n2_;(try clear hb);(try clear hb2);(try clear hk);(try clear hi);(try clear ho0);obtain ⟨Ao14,co14,eo14⟩:=Kd.N_slice HO278.out;subst eo14)|((with_reducible refine gate_callee (f:=13) rfl ?_);refine goesL_ (some 10) rfl rfl Tryz.func13 (by kernel_rfl) rfl #[.slice Ao14 t276.length co14] rfl zar ?_;(with_reducible refine (spec_ZText.calls k _ _ t276 t280 _ ?side1 ?side2 A4.out).mono ?_);(case side1=>exact zC (Kd.N_reads' HO278.out).2.2);(case side2=>exact (Kd.N_reads' HO278.out).2.1);rintro e w15 ⟨rfl,hb⟩;refine ⟨_,rfl,?_⟩;have n0_:=Aside0.mk (Kd.N_below (zN HO278.out) hb);have n1_:=Aside0.mk (IsS71.below (by repeat (first|(with_reducible first|exact HI275.out|apply IsS71.alloc|apply IsS71.drewN|apply IsS71.drew|apply IsS71.set_1)|exact HI275.out)) hb);have n2_:=Aside0.mk (below_step (by repeat (first|(with_reducible first|exact HB.out|apply below_alloc|apply pw_below_drewN|apply below_drew1|refine below_set ?_ (IsS71.ge HI275.out))|exact HB.out)) hb);clear HO278;clear HI275;clear HB;have HO278:=n0_;have HI275:=n1_;have HB:=n2_;clear n0_ n1_ n2_;(try clear hb);(try clear hb2);(try clear hk);(try clear hi))|(go_at_call 39;(with_reducible refine (spec_l12Rd_pick.calls g275 t273 t279 2 t281 t282 w _ ?side1 ?side2 A10.out).mono ?_);(case side1=>repeat (first|(with_reducible first|exact HI275.out|apply IsS71.alloc|apply IsS71.drewN|apply IsS71.drew|apply IsS71.set_1)|exact HI275.out));(case side2=>repeat (first|(with_reducible first|exact HB.out|apply below_alloc|apply pw_below_drewN|apply below_drew1|refine below_set ?_ (IsS71.ge HI275.out))|exact HB.out));rintro e w16 ⟨rfl,hi,hb,hk⟩;have n0_:=Aside0.mk (Kd.N_mono (Kd.N_keep (Kd.N_mono (ok:=fun k_=>k_≠g275) (zN HO278.out) (fun k_ hk_=>(⟨hk_,hk_⟩:_∧k_≠g275))) hk (fun _ h=>h.2)) (fun _ h=>h.1));have n1_:=Aside0.mk (hb);have n2_:=Aside0.mk (hi);clear HO278;clear HB;clear HI275;have HO278:=n0_;have HB:=n1_;have HI275:=n2_;clear n0_ n1_ n2_;(try clear hb);(try clear hb2);(try clear hk);(try clear hi)))
   go_ret
   exact ⟨by first|rfl|(simp [errW_none,errW_some] <;> rfl)|(simp [*,errW_none,errW_some] <;> rfl),by repeat (first|(with_reducible first|exact HB.out|apply below_alloc|apply pw_below_drewN|apply below_drew1|refine below_set ?_ (IsS71.ge HI275.out))|exact HB.out)⟩
  ·rw [if_neg c11] at H
   have c11b0:(t281 == 0)=false:=beq_eq_false_iff_ne.mpr c11
   have c11b1:(t281 != 0)=true:=bne_iff_ne.mpr c11
   replace H:=Option.bind_eq_some_iff.mp H
   obtain ⟨⟨t283,t284⟩,A170,H⟩:=H
   (try dsimp only at H)
   have A17:=Aside0.mk A170
   clear A170
   by_cases c18:0≤t283
   ·rw [if_pos c18] at H
    have c18b0:=eq_true c18
    have c18b1:decide (0≤t283)=true:=decide_eq_true c18
    clear c18
    by_cases c19:t283≤(t280.size:Int)
    ·rw [if_pos c19] at H
     have c19b0:=eq_true c19
     have c19b1:decide (t283≤(t280.size:Int))=true:=decide_eq_true c19
     clear c19
     obtain ⟨y285,hy285⟩ : ∃ y_:List ByteArray,y_=(([(⟨#[]⟩:ByteArray),(⟨#[48]⟩:ByteArray),(⟨#[44]⟩:ByteArray),(⟨#[45]⟩:ByteArray),(⟨#[32]⟩:ByteArray),(⟨#[42]⟩:ByteArray),(⟨#[42,49,32]⟩:ByteArray)]:List ByteArray)):=⟨_,rfl⟩
     replace H:((spec_l12Rd_of.f t273 t284 y285).bind fun bt288=>(if (t280.extract 0 (t283:Int).toNat).size + bt288.1.size≤9223372036854775807 then ((spec_l12Rd_pick.f t273 bt288.2 2).bind fun bt290=>(if 0≤(wrap64 (t283 + bt290.1)) then (if (wrap64 (t283 + bt290.1))≤(t280.size:Int) then (if ((t280.extract 0 (t283:Int).toNat) ++ bt288.1).size + (t280.extract ((wrap64 (t283 + bt290.1)):Int).toNat t280.size).size≤9223372036854775807 then (some (((t280.extract 0 (t283:Int).toNat) ++ bt288.1) ++ (t280.extract ((wrap64 (t283 + bt290.1)):Int).toNat t280.size))) else (none)) else (none)) else (none))) else (none)))=some r:=by first|(rw [hy285];with_reducible exact H)|(have H2_:=(Option.bind_some _ _).symm.trans H;rw [hy285];with_reducible exact H2_)|(have H2_:=(Option.bind_some _ _).symm.trans H;with_reducible exact H2_)|with_reducible exact H|(rw [hy285];exact H)|exact H
     have Ny285:=Aside0.mk hy285
     clear hy285
     replace H:=Option.bind_eq_some_iff.mp H
     obtain ⟨⟨t288,t289⟩,A200,H⟩:=H
     (try dsimp only at H)
     have A20:=Aside0.mk A200
     clear A200
     by_cases c21:(t280.extract 0 (t283:Int).toNat).size + t288.size≤9223372036854775807
     ·rw [if_pos c21] at H
      have c21b0:=eq_true c21
      have c21b1:decide ((t280.extract 0 (t283:Int).toNat).size + t288.size≤9223372036854775807)=true:=decide_eq_true c21
      (try (have c21x3:(t283:Int).toNat + t288.size≤9223372036854775807:=by (have h_:=c21);(simp only [ByteArray.size_append,ByteArray.size_extract] at h_);(try have k18_:=of_decide_eq_true c18b1);(try have k19_:=of_decide_eq_true c19b1);omega))
      (try have c21x6:(9223372036854775807 < (t283:Int).toNat + t288.size)=False:=eq_false (Nat.not_lt.2 c21x3))
      try have c21b2:(9223372036854775807 < (t280.extract 0 (t283:Int).toNat).size + t288.size)=False:=eq_false (Nat.not_lt.2 c21)
      replace H:=Option.bind_eq_some_iff.mp H
      obtain ⟨⟨t290,t291⟩,A220,H⟩:=H
      (try dsimp only at H)
      have A22:=Aside0.mk A220
      clear A220
      obtain ⟨ji23,hji23⟩ : ∃ j_:Int,(wrap64 (t283 + t290))=j_:=⟨_,rfl⟩
      replace H:(if 0≤(ji23) then (if (ji23)≤(t280.size:Int) then (if ((t280.extract 0 (t283:Int).toNat) ++ t288).size + (t280.extract ((ji23):Int).toNat t280.size).size≤9223372036854775807 then (some (((t280.extract 0 (t283:Int).toNat) ++ t288) ++ (t280.extract ((ji23):Int).toNat t280.size))) else (none)) else (none)) else (none))=some r:=by first|(rw [hji23] at H;exact H)|(simp only [hji23] at H ⊢;exact H)
      (try rw [hji23] at A2)
      (try rw [hji23] at A3)
      (try rw [hji23] at A4)
      (try rw [hji23] at A10)
      (try rw [hji23] at A17)
      (try rw [hji23] at A20)
      (try rw [hji23] at A22)
      have hji23w:(IntKind.i64.wrap (t283 + t290))=ji23:=(i64_w _).trans hji23
      by_cases c24:0≤(ji23)
      ·rw [if_pos c24] at H
       have c24b0:=eq_true c24
       have c24b1:decide (0≤(ji23))=true:=decide_eq_true c24
       clear c24
       by_cases c25:(ji23)≤(t280.size:Int)
       ·rw [if_pos c25] at H
        have c25b0:=eq_true c25
        have c25b1:decide ((ji23)≤(t280.size:Int))=true:=decide_eq_true c25
        clear c25
        by_cases c26:((t280.extract 0 (t283:Int).toNat) ++ t288).size + (t280.extract ((ji23):Int).toNat t280.size).size≤9223372036854775807
        ·rw [if_pos c26] at H
         have c26b0:=eq_true c26
         have c26b1:decide (((t280.extract 0 (t283:Int).toNat) ++ t288).size + (t280.extract ((ji23):Int).toNat t280.size).size≤9223372036854775807)=true:=decide_eq_true c26
         (try (have c26x3:(t283:Int).toNat + t288.size + (t280.size - ((ji23):Int).toNat)≤9223372036854775807:=by (have h_:=c26);(simp only [ByteArray.size_append,ByteArray.size_extract] at h_);(try have k18_:=of_decide_eq_true c18b1);(try have k19_:=of_decide_eq_true c19b1);(try have k24_:=of_decide_eq_true c24b1);(try have k25_:=of_decide_eq_true c25b1);omega))
         (try have c26x6:(9223372036854775807 < (t283:Int).toNat + t288.size + (t280.size - ((ji23):Int).toNat))=False:=eq_false (Nat.not_lt.2 c26x3))
         try have c26b2:(9223372036854775807 < ((t280.extract 0 (t283:Int).toNat) ++ t288).size + (t280.extract ((ji23):Int).toNat t280.size).size)=False:=eq_false (Nat.not_lt.2 c26)
         obtain rfl:=Option.some.inj H
         go_enter Tryz.func14,Tryz.ntmps14
         try go_wp2_with (first|((with_reducible refine gate_callee (f:=19) rfl ?_);refine goesL_ (some 7) rfl rfl Tryz.func19 (by kernel_rfl) rfl #[.slice A0 l0.length c0] rfl zar ?_;(with_reducible refine (spec_l12Open.calls _ _ l0 t273 t274 w _ ?side1 ?side2 ?side3 A2.out).mono ?_);(case side1=>exact zhb);(case side2=>exact HR0.out);(case side3=>exact HC0.out);rintro e w27 ⟨g275,rfl,hi,hb,hb2⟩;refine ⟨_,rfl,?_⟩;have n0_:=Aside0.mk (hb);have n1_:=Aside0.mk (hi);clear HB;have HB:=n0_;have HI275:=n1_;clear n0_ n1_;(try clear hb);(try clear hb2);(try clear hk);(try clear hi))|((with_reducible refine gate_callee (f:=18) rfl ?_);refine goesL_ (some 9) rfl rfl Tryz.func18 (by kernel_rfl) rfl #[.pointer (some ⟨g275,0,none⟩)] rfl zar ?_;(with_reducible refine (spec_l2Bent.calls k g275 t273 t274 t276 t279 w _ ?side1 ?side2 A3.out).mono ?_);(case side1=>repeat (first|(with_reducible first|exact HI275.out|apply IsS71.alloc|apply IsS71.drewN|apply IsS71.drew|apply IsS71.set_1)|exact HI275.out));(case side2=>repeat (first|(with_reducible first|exact HB.out|apply below_alloc|apply pw_below_drewN|apply below_drew1|refine below_set ?_ (IsS71.ge HI275.out))|exact HB.out));rintro e w28 ⟨v277,rfl,ho0,hi,hb,hk⟩;refine ⟨_,rfl,?_⟩;have n0_:=Aside0.mk (Kd.N_lower (Kd.N_mono (ok':=fun k_=>k_≠g275) ho0 (fun k_ hk_=>(IsS71.fresh (by repeat (first|(with_reducible first|exact HI275.out|apply IsS71.alloc|apply IsS71.drewN|apply IsS71.drew|apply IsS71.set_1)|exact HI275.out)) k_ hk_))) (below_size (by repeat (first|(with_reducible first|exact HB.out|apply below_alloc|apply pw_below_drewN|apply below_drew1|refine below_set ?_ (IsS71.ge HI275.out))|exact HB.out))));have n1_:=Aside0.mk (hb);have n2_:=Aside0.mk (hi);clear HB;clear HI275;have HO278:=n0_;have HB:=n1_;have HI275:=n2_;clear n0_ n1_ n2_;(try clear hb);(try clear hb2);(try clear hk);(try clear hi);(try clear ho0);obtain ⟨Ao29,co29,eo29⟩:=Kd.N_slice HO278.out;subst eo29)|((with_reducible refine gate_callee (f:=13) rfl ?_);refine goesL_ (some 10) rfl rfl Tryz.func13 (by kernel_rfl) rfl #[.slice Ao29 t276.length co29] rfl zar ?_;(with_reducible refine (spec_ZText.calls k _ _ t276 t280 _ ?side1 ?side2 A4.out).mono ?_);(case side1=>exact zC (Kd.N_reads' HO278.out).2.2);(case side2=>exact (Kd.N_reads' HO278.out).2.1);rintro e w30 ⟨rfl,hb⟩;refine ⟨_,rfl,?_⟩;have n0_:=Aside0.mk (Kd.N_below (zN HO278.out) hb);have n1_:=Aside0.mk (IsS71.below (by repeat (first|(with_reducible first|exact HI275.out|apply IsS71.alloc|apply IsS71.drewN|apply IsS71.drew|apply IsS71.set_1)|exact HI275.out)) hb);have n2_:=Aside0.mk (below_step (by repeat (first|(with_reducible first|exact HB.out|apply below_alloc|apply pw_below_drewN|apply below_drew1|refine below_set ?_ (IsS71.ge HI275.out))|exact HB.out)) hb);clear HO278;clear HI275;clear HB;have HO278:=n0_;have HI275:=n1_;have HB:=n2_;clear n0_ n1_ n2_;(try clear hb);(try clear hb2);(try clear hk);(try clear hi))|(go_at_call 39;(with_reducible refine (spec_l12Rd_pick.calls g275 t273 t279 2 t281 t282 w _ ?side1 ?side2 A10.out).mono ?_);(case side1=>repeat (first|(with_reducible first|exact HI275.out|apply IsS71.alloc|apply IsS71.drewN|apply IsS71.drew|apply IsS71.set_1)|exact HI275.out));(case side2=>repeat (first|(with_reducible first|exact HB.out|apply below_alloc|apply pw_below_drewN|apply below_drew1|refine below_set ?_ (IsS71.ge HI275.out))|exact HB.out));rintro e w31 ⟨rfl,hi,hb,hk⟩;have n0_:=Aside0.mk (Kd.N_mono (Kd.N_keep (Kd.N_mono (ok:=fun k_=>k_≠g275) (zN HO278.out) (fun k_ hk_=>(⟨hk_,hk_⟩:_∧k_≠g275))) hk (fun _ h=>h.2)) (fun _ h=>h.1));have n1_:=Aside0.mk (hb);have n2_:=Aside0.mk (hi);clear HO278;clear HB;clear HI275;have HO278:=n0_;have HB:=n1_;have HI275:=n2_;clear n0_ n1_ n2_;(try clear hb);(try clear hb2);(try clear hk);(try clear hi))|((with_reducible refine gate_callee (f:=39) rfl ?_);refine goesL_ (some 23) rfl rfl Tryz.func39 (by kernel_rfl) rfl #[.pointer (some ⟨g275,0,none⟩),.int .i64 (t280.size:Int)] rfl zar ?_;(with_reducible refine (spec_l12Rd_pick.calls g275 t273 t282 (t280.size:Int) t283 t284 w _ ?side1 ?side2 A17.out).mono ?_);(case side1=>repeat (first|(with_reducible first|exact HI275.out|apply IsS71.alloc|apply IsS71.drewN|apply IsS71.drew|apply IsS71.set_1)|exact HI275.out));(case side2=>repeat (first|(with_reducible first|exact HB.out|apply below_alloc|apply pw_below_drewN|apply below_drew1|refine below_set ?_ (IsS71.ge HI275.out))|exact HB.out));rintro e w32 ⟨rfl,hi,hb,hk⟩;refine ⟨_,rfl,?_⟩;have n0_:=Aside0.mk (Kd.N_mono (Kd.N_keep (Kd.N_mono (ok:=fun k_=>k_≠g275) (zN HO278.out) (fun k_ hk_=>(⟨hk_,hk_⟩:_∧k_≠g275))) hk (fun _ h=>h.2)) (fun _ h=>h.1));have n1_:=Aside0.mk (hb);have n2_:=Aside0.mk (hi);clear HO278;clear HB;clear HI275;have HO278:=n0_;have HB:=n1_;have HI275:=n2_;clear n0_ n1_ n2_;(try clear hb);(try clear hb2);(try clear hk);(try clear hi)))
         have n0_:=Aside0.mk (Kd.N_drew HO278.out)
         have n1_:=Aside0.mk (IsS71.drew HI275.out)
         have n2_:=Aside0.mk (below_drew1 HB.out)
         clear HO278
         clear HI275
         clear HB
         have HO278:=n0_
         have HI275:=n1_
         have HB:=n2_
         clear n0_ n1_ n2_
         refine start_ (n:=15) (S:=fun w'=>True) (ds:=[]) #[X,X,X,X,X,X,X,X,X,X,X,X,X,X,X] (by kernel_rfl) rfl rfl trivial (fun hHeld=>?_);refine with_tabW spec_DrawZRead.tab6 spec_DrawZRead.bits6 (fun HT_ HW_=>?_)
         generalize w32.drew=w33 at HO278 HI275 HB hHeld ⊢
         refine pure_ (i:=0) (N:=some 24) (v:=?_) (a':=?_) #[Y,X,X,X,X,X,X,X,X,X,X,X,X,X,X] rfl rfl zan (fun _ _ _ h=>h) (Or.inl ⟨by rfl,?_⟩) ?_ ?_
         rotate_left
         ·intro w'
          go_simp
          with_reducible rfl
         rotate_left
         ·simp only [Act.put,zp1,zp2,zp3,i64_w,i32_w]
          rfl
         refine pure_ (i:=1) (N:=some 25) (v:=?_) (a':=?_) #[Y,Y,X,X,X,X,X,X,X,X,X,X,X,X,X] rfl rfl zan (fun _ _ _ h=>h) (Or.inl ⟨by rfl,?_⟩) ?_ ?_
         rotate_left
         ·intro w'
          go_simp
          with_reducible rfl
         rotate_left
         ·simp only [Act.put,zp1,zp2,zp3,i64_w,i32_w]
          rfl
         refine pure_ (i:=2) (N:=some 26) (v:=?_) (a':=?_) #[Y,Y,Y,X,X,X,X,X,X,X,X,X,X,X,X] rfl rfl zan (fun _ _ _ h=>h) (Or.inl ⟨by rfl,?_⟩) ?_ ?_
         rotate_left
         ·intro w'
          go_simp
          with_reducible rfl
         rotate_left
         ·simp only [Act.put,zp1,zp2,zp3,i64_w,i32_w]
          rfl
         refine pure_ (i:=3) (N:=some 27) (v:=?_) (a':=?_) #[Y,Y,Y,Y,X,X,X,X,X,X,X,X,X,X,X] rfl rfl zan (fun _ _ _ h=>h) (Or.inl ⟨by rfl,?_⟩) ?_ ?_
         rotate_left
         ·intro w'
          go_simp
          with_reducible rfl
         rotate_left
         ·simp only [Act.put,zp1,zp2,zp3,i64_w,i32_w]
          rfl
         refine pure_ (i:=7) (N:=some 31) (v:=?_) (a':=?_) #[Y,Y,Y,Y,X,X,X,Y,X,X,X,X,X,X,X] rfl rfl zan (fun _ _ _ h=>h) (Or.inl ⟨by rfl,?_⟩) ?_ ?_
         rotate_left
         ·intro w'
          go_simp
          with_reducible rfl
         rotate_left
         ·simp only [Act.put,zp1,zp2,zp3,i64_w,i32_w]
          rfl
         refine pure_ (i:=8) (N:=some 32) (v:=?_) (a':=?_) #[Y,Y,Y,Y,X,X,X,Y,Y,X,X,X,X,X,X] rfl rfl zan (fun _ _ _ h=>h) (Or.inl ⟨by rfl,?_⟩) ?_ ?_
         rotate_left
         ·intro w'
          go_simp
          with_reducible rfl
         rotate_left
         ·simp only [Act.put,zp1,zp2,zp3,i64_w,i32_w]
          rfl
         refine pure_ (i:=9) (N:=some 33) (v:=?_) (a':=?_) #[Y,Y,Y,Y,X,X,X,Y,Y,Y,X,X,X,X,X] rfl rfl zan (fun _ _ _ h=>h) (Or.inl ⟨by rfl,?_⟩) ?_ ?_
         rotate_left
         ·intro w'
          go_simp
          with_reducible rfl
         rotate_left
         ·simp only [Act.put,zp1,zp2,zp3,i64_w,i32_w]
          rfl
         refine one_ (i:=4) (N:=some 28) #[Y,Y,Y,Y,Y,X,X,Y,Y,Y,X,X,X,X,X] rfl rfl (one_of HT_.out (by kernel_rfl)) (by decide) (fun K hK=>?_)
         refine Kd.R_lit_step Kd.string _ 9 ?hg (N:=28) ?hd (xs:=([(⟨#[]⟩:ByteArray),(⟨#[48]⟩:ByteArray),(⟨#[44]⟩:ByteArray),(⟨#[45]⟩:ByteArray),(⟨#[32]⟩:ByteArray),(⟨#[42]⟩:ByteArray),(⟨#[42,49,32]⟩:ByteArray)]:List ByteArray)) (inner:=[.string (⟨#[]⟩:ByteArray),.string (⟨#[48]⟩:ByteArray),.string (⟨#[44]⟩:ByteArray),.string (⟨#[45]⟩:ByteArray),.string (⟨#[32]⟩:ByteArray),.string (⟨#[42]⟩:ByteArray),.string (⟨#[42,49,32]⟩:ByteArray)]) (ok:=fun _=>True) (okp:=fun _=>True) ?hr ?hp (fun _ hk=>hk) trivial (Below.refl _ _) (Nat.le_refl _) (by simp) ?_;(case hd=>rfl);(case hg=>rfl);(case hr=>first|(go_simp;done)|(go_simp;rfl));(case hp=>exact (Reps.one (show Kd.M Kd.string _ _ _ (⟨#[]⟩:ByteArray) [.string (⟨#[]⟩:ByteArray)] from rfl) (Reps.one (show Kd.M Kd.string _ _ _ (⟨#[48]⟩:ByteArray) [.string (⟨#[48]⟩:ByteArray)] from rfl) (Reps.one (show Kd.M Kd.string _ _ _ (⟨#[44]⟩:ByteArray) [.string (⟨#[44]⟩:ByteArray)] from rfl) (Reps.one (show Kd.M Kd.string _ _ _ (⟨#[45]⟩:ByteArray) [.string (⟨#[45]⟩:ByteArray)] from rfl) (Reps.one (show Kd.M Kd.string _ _ _ (⟨#[32]⟩:ByteArray) [.string (⟨#[32]⟩:ByteArray)] from rfl) (Reps.one (show Kd.M Kd.string _ _ _ (⟨#[42]⟩:ByteArray) [.string (⟨#[42]⟩:ByteArray)] from rfl) (Reps.one (show Kd.M Kd.string _ _ _ (⟨#[42,49,32]⟩:ByteArray) [.string (⟨#[42,49,32]⟩:ByteArray)] from rfl) (Reps.none _ _)))))))))
         intro v286 w34 ho35 hb hg_ hnew_
         clear hg_ hnew_
         (first|rw [← Ny285.out] at ho35|(simp only [Int.reduceToNat] at ho35;rw [← Ny285.out] at ho35))
         have n0_:=Aside0.mk (Kd.N_elder' (zN HO278.out) (Kd.R_base ho35) hb)
         have n1_:=Aside0.mk (Kd.R_lower ho35 (below_size (by repeat (first|(with_reducible first|exact HB.out|apply below_alloc|apply pw_below_drewN|apply below_drew1|refine below_set ?_ (IsS71.ge HI275.out))|exact HB.out))))
         have n2_:=Aside0.mk (IsS71.below (by repeat (first|(with_reducible first|exact HI275.out|apply IsS71.alloc|apply IsS71.drewN|apply IsS71.drew|apply IsS71.set_1)|exact HI275.out)) hb)
         have n3_:=Aside0.mk (below_step (by repeat (first|(with_reducible first|exact HB.out|apply below_alloc|apply pw_below_drewN|apply below_drew1|refine below_set ?_ (IsS71.ge HI275.out))|exact HB.out)) hb)
         clear HO278
         clear HI275
         clear HB
         have HO278:=n0_
         have HO287:=n1_
         have HI275:=n2_
         have HB:=n3_
         clear n0_ n1_ n2_ n3_
         clear hb ho35
         obtain ⟨Ao36,co36,eo36⟩:=Kd.R_slice HO287.out
         (first|subst eo36|(injection eo36 with f1_ f2_ f3_;have f4_:=f1_.symm;have f5_:=f3_.symm;clear f1_ f2_ f3_;subst f4_;subst f5_))
         refine hK.out _ _ trivial (fun hHeld=>?_)
         clear hK K
         refine norm_ (a':=?_) ?_ ?_
         rotate_left
         ·show Act.put _ (some 28) _=_
          simp only [Act.put,zp1,zp2,zp3,i64_w,i32_w]
          rfl
         refine one_ (i:=5) (N:=some 29) #[Y,Y,Y,Y,Y,Y,X,Y,Y,Y,X,X,X,X,X] rfl rfl (one_of HT_.out (by kernel_rfl)) (by decide) (fun K hK=>?_)
         refine goes_ Tryz.func40 (by kernel_rfl) rfl #[.pointer (some ⟨g275,0,none⟩),.slice Ao36 y285.length co36] (by rfl) rfl rfl zar ?_
         with_reducible refine (spec_l12Rd_of.calls g275 t273 t284 _ _ y285 t288 t289 w _ ?side1 ?side2 ?side3 ?side4 ?side5 A20.out).mono ?_
         (case side1=>repeat (first|(with_reducible first|exact HI275.out|apply IsS71.alloc|apply IsS71.drewN|apply IsS71.drew|apply IsS71.set_1)|exact HI275.out))
         (case side2=>repeat (first|(with_reducible first|exact HB.out|apply below_alloc|apply pw_below_drewN|apply below_drew1|refine below_set ?_ (IsS71.ge HI275.out))|exact HB.out))
         (case side3=>repeat (first|exact (Kd.R_reads' HO287.out).2.2|(with_reducible refine Kd.C_alloc ?_ _)|(with_reducible refine Kd.C_drewN ?_ _)|(with_reducible refine Kd.C_drew ?_)))
         (case side4=>exact (Kd.R_reads' HO287.out).2.1)
         (case side5=>exact far_slice (IsS71.own_ne HI275.out HO287.out (by decide)))
         rintro e w37 ⟨rfl,hi,hb,hk⟩
         refine ⟨_,rfl,?_⟩
         have n0_:=Aside0.mk (Kd.N_mono (Kd.N_keep (Kd.N_mono (ok:=fun k_=>(k_≠g275∧some k_≠(.slice Ao36 y285.length co36:Value).ownBlock)) (zN HO278.out) (fun k_ hk_=>(⟨hk_,hk_.1⟩:_∧k_≠g275))) hk (fun _ h=>h.2)) (fun _ h=>h.1))
         have n1_:=Aside0.mk (Kd.R_mono (Kd.R_keep (IsS71.apart (show IsS71 w _ g275 t273 t284 from by repeat (first|(with_reducible first|exact HI275.out|apply IsS71.alloc|apply IsS71.drewN|apply IsS71.drew|apply IsS71.set_1)|exact HI275.out)) (by (with_reducible repeat (first|apply Kd.R_alloc|apply Kd.R_drewN|apply Kd.R_drew));exact HO287.out) (by decide)) hk (fun _ h=>h.2)) (fun _ h=>h.1))
         have n2_:=Aside0.mk (hb)
         have n3_:=Aside0.mk (hi)
         clear HO278
         clear HO287
         clear HB
         clear HI275
         have HO278:=n0_
         have HO287:=n1_
         have HB:=n2_
         have HI275:=n3_
         clear n0_ n1_ n2_ n3_
         (try clear hb)
         (try clear hb2)
         (try clear hk)
         (try clear hi)
         refine hK.out _ _ trivial (fun hHeld=>?_)
         clear hK K
         refine norm_ (a':=?_) ?_ ?_
         rotate_left
         ·show Act.put _ (some 29) _=_
          simp only [Act.put,zp1,zp2,zp3,i64_w,i32_w]
          rfl
         refine pure_ (i:=6) (N:=some 30) (v:=?_) (a':=?_) #[Y,Y,Y,Y,Y,Y,Y,Y,Y,Y,X,X,X,X,X] rfl rfl zan (fun _ _ _ h=>h) (Or.inl ⟨by rfl,?_⟩) ?_ ?_
         rotate_left
         ·intro w'
          go_simp
          with_reducible rfl
         rotate_left
         ·simp only [Act.put,zp1,zp2,zp3,i64_w,i32_w]
          rfl
         refine one_ (i:=10) (N:=some 34) #[Y,Y,Y,Y,Y,Y,Y,Y,Y,Y,Y,X,X,X,X] rfl rfl (one_of HT_.out (by kernel_rfl)) (by decide) (fun K hK=>?_)
         refine goes_ Tryz.func39 (by kernel_rfl) rfl #[.pointer (some ⟨g275,0,none⟩),.int .i64 2] (by rfl) rfl rfl zar ?_
         with_reducible refine (spec_l12Rd_pick.calls g275 t273 t289 2 t290 t291 w _ ?side1 ?side2 A22.out).mono ?_
         (case side1=>repeat (first|(with_reducible first|exact HI275.out|apply IsS71.alloc|apply IsS71.drewN|apply IsS71.drew|apply IsS71.set_1)|exact HI275.out))
         (case side2=>repeat (first|(with_reducible first|exact HB.out|apply below_alloc|apply pw_below_drewN|apply below_drew1|refine below_set ?_ (IsS71.ge HI275.out))|exact HB.out))
         rintro e w38 ⟨rfl,hi,hb,hk⟩
         refine ⟨_,rfl,?_⟩
         have n0_:=Aside0.mk (Kd.N_mono (Kd.N_keep (Kd.N_mono (ok:=fun k_=>(k_≠g275∧some k_≠(.slice Ao36 y285.length co36:Value).ownBlock)) (zN HO278.out) (fun k_ hk_=>(⟨hk_,hk_.1⟩:_∧k_≠g275))) hk (fun _ h=>h.2)) (fun _ h=>h.1))
         have n1_:=Aside0.mk (Kd.R_mono (Kd.R_keep (IsS71.apart (show IsS71 w _ g275 t273 t289 from by repeat (first|(with_reducible first|exact HI275.out|apply IsS71.alloc|apply IsS71.drewN|apply IsS71.drew|apply IsS71.set_1)|exact HI275.out)) (by (with_reducible repeat (first|apply Kd.R_alloc|apply Kd.R_drewN|apply Kd.R_drew));exact HO287.out) (by decide)) hk (fun _ h=>h.2)) (fun _ h=>h.1))
         have n2_:=Aside0.mk (hb)
         have n3_:=Aside0.mk (hi)
         clear HO278
         clear HO287
         clear HB
         clear HI275
         have HO278:=n0_
         have HO287:=n1_
         have HB:=n2_
         have HI275:=n3_
         clear n0_ n1_ n2_ n3_
         (try clear hb)
         (try clear hb2)
         (try clear hk)
         (try clear hi)
         refine hK.out _ _ trivial (fun hHeld=>?_)
         clear hK K
         refine norm_ (a':=?_) ?_ ?_
         rotate_left
         ·show Act.put _ (some 34) _=_
          simp only [Act.put,zp1,zp2,zp3,i64_w,i32_w]
          rfl
         refine pure_ (i:=11) (N:=some 35) (v:=?_) (a':=?_) #[Y,Y,Y,Y,Y,Y,Y,Y,Y,Y,Y,Y,X,X,X] rfl rfl zan (fun _ _ _ h=>h) (Or.inl ⟨by rfl,?_⟩) ?_ ?_
         rotate_left
         ·intro w'
          go_simp
          with_reducible rfl
         rotate_left
         ·simp only [Act.put,zp1,zp2,zp3,i64_w,i32_w]
          rfl
         refine pure_ (i:=12) (N:=some 36) (v:=?_) (a':=?_) #[Y,Y,Y,Y,Y,Y,Y,Y,Y,Y,Y,Y,Y,X,X] rfl rfl zan (fun _ _ _ h=>h) (Or.inl ⟨by rfl,?_⟩) ?_ ?_
         rotate_left
         ·intro w'
          go_simp
          with_reducible rfl
         rotate_left
         ·simp only [Act.put,zp1,zp2,zp3,i64_w,i32_w]
          rfl
         refine pure_ (i:=13) (N:=some 37) (v:=?_) (a':=?_) #[Y,Y,Y,Y,Y,Y,Y,Y,Y,Y,Y,Y,Y,Y,X] rfl rfl zan (fun _ _ _ h=>h) (Or.inl ⟨by rfl,?_⟩) ?_ ?_
         rotate_left
         ·intro w'
          go_simp
          with_reducible rfl
         rotate_left
         ·simp only [Act.put,zp1,zp2,zp3,i64_w,i32_w]
          rfl
         refine pure_ (i:=14) (N:=some 2) (v:=?_) (a':=?_) #[Y,Y,Y,Y,Y,Y,Y,Y,Y,Y,Y,Y,Y,Y,Y] rfl rfl zan (fun _ _ _ h=>h) (Or.inl ⟨by rfl,?_⟩) ?_ ?_
         rotate_left
         ·intro w'
          go_simp
          with_reducible rfl
         rotate_left
         ·simp only [Act.put,zp1,zp2,zp3,i64_w,i32_w]
          rfl
         refine done_ (done_of HT_.out (by kernel_rfl)) ?_
         try go_wp2
         go_ret
         exact ⟨by first|rfl|(simp [errW_none,errW_some] <;> rfl)|(simp only [← hji23];first|rfl|(simp [errW_none,errW_some] <;> rfl))|(simp [*,errW_none,errW_some] <;> rfl),by repeat (first|(with_reducible first|exact HB.out|apply below_alloc|apply pw_below_drewN|apply below_drew1|refine below_set ?_ (IsS71.ge HI275.out))|exact HB.out)⟩
        ·rw [if_neg c26] at H
         exact absurd H (by simp)
       ·rw [if_neg c25] at H
        exact absurd H (by simp)
      ·rw [if_neg c24] at H
       exact absurd H (by simp)
     ·rw [if_neg c21] at H
      exact absurd H (by simp)
    ·rw [if_neg c19] at H
     exact absurd H (by simp)
   ·rw [if_neg c18] at H
    exact absurd H (by simp)

/-! ### spec_l12Cut: function 41 -/
def spec_l12Cut.l0:Nat→ByteArray→Int→List ByteArray→Int→Int→Option (List ByteArray)
 | 0,_,_,_,_,_=>none
 | k + 1,x0,x1,x5,x6,x7=>if x7≤(x0.size:Int) then (if x7=(x0.size:Int) then (if 0≤x6 then (if x6≤x7 then (if x5.length < 8796093022208 then (spec_l12Cut.l0 k x0 x1 (x5 ++ [x0.extract (x6:Int).toNat (x7:Int).toNat]) (wrap64 (x7 + 1)) (wrap64 (x7 + 1))) else (none)) else (none)) else (none)) else (if 0≤x7 then (if x7 < (x0.size:Int) then (if (bt x0 x7)=x1 then (if 0≤x6 then (if x6≤x7 then (if x5.length < 8796093022208 then (spec_l12Cut.l0 k x0 x1 (x5 ++ [x0.extract (x6:Int).toNat (x7:Int).toNat]) (wrap64 (x7 + 1)) (wrap64 (x7 + 1))) else (none)) else (none)) else (none)) else (spec_l12Cut.l0 k x0 x1 x5 x6 (wrap64 (x7 + 1)))) else (none)) else (none))) else (some x5)
def spec_l12Cut.f (k:Nat) (a0:ByteArray) (a1:Int):Option (List ByteArray):=spec_l12Cut.l0 k a0 a1 (([]:List ByteArray)) 0 0
theorem spec_l12Cut.mono_l : ∀ k,(∀ y0 y1 y2 y3 y4,LeO (spec_l12Cut.l0 k y0 y1 y2 y3 y4) (spec_l12Cut.l0 (k + 1) y0 y1 y2 y3 y4))
 | 0=>fun _ _ _ _ _ r h=>by simp [spec_l12Cut.l0] at h
 | k + 1=>by
  have ih0:=spec_l12Cut.mono_l k
  ·intro y0 y1 y2 y3 y4
   unfold spec_l12Cut.l0
   repeat' first
   | (with_reducible exact ih0 _ _ _ _ _)
   | (with_reducible exact LeO.refl _)
   | (with_reducible exact LeO.none _)
   | (with_reducible refine LeO.ite ?_ ?_)
   | (with_reducible refine LeO.bind ?_ (fun _=>?_))
   | exact LeO.none _
   | refine LeO.ite ?_ ?_
   | refine LeO.bind ?_ (fun _=>?_)
theorem spec_l12Cut.mono : ∀ a0 a1 k,LeO (spec_l12Cut.f k a0 a1) (spec_l12Cut.f (k + 1) a0 a1):=by
 intro a0 a1 k
 have ih0:=spec_l12Cut.mono_l k
 unfold spec_l12Cut.f
 repeat' first
   | (with_reducible exact ih0 _ _ _ _ _)
   | (with_reducible exact LeO.refl _)
   | (with_reducible exact LeO.none _)
   | (with_reducible refine LeO.ite ?_ ?_)
   | (with_reducible refine LeO.bind ?_ (fun _=>?_))
   | exact LeO.none _
   | refine LeO.ite ?_ ?_
   | refine LeO.bind ?_ (fun _=>?_)
set_option maxHeartbeats 8000000 in
set_option maxRecDepth 100000 in
theorem spec_l12Cut.calls (k:Nat) (a0:ByteArray) (a1:Int) (r:List ByteArray) (w:World) (h:spec_l12Cut.f k a0 a1=some r) :
  Calls Tryz.prog 41 #[.string a0,.int .u8 a1] w fun e w'=>∃ v0_:Value,e=.returned (v0_)∧Kd.R Kd.string 9 w' w.heap.size (fun _=>True) v0_ r∧Below w.heap.size w w':=by
 have HB:=Aside0.mk (Below.refl w.heap.size w)
 have H:(spec_l12Cut.l0 k a0 a1 (([]:List ByteArray)) 0 0)=some r:=h
 clear h
 obtain ⟨y292,hy292⟩ : ∃ y_:List ByteArray,y_=(([]:List ByteArray)):=⟨_,rfl⟩
 replace H:(spec_l12Cut.l0 k a0 a1 y292 0 0)=some r:=by first|(rw [hy292];with_reducible exact H)|(have H2_:=(Option.bind_some _ _).symm.trans H;rw [hy292];with_reducible exact H2_)|(have H2_:=(Option.bind_some _ _).symm.trans H;with_reducible exact H2_)|with_reducible exact H|(rw [hy292];exact H)|exact H
 have Ny292:=Aside0.mk hy292
 clear hy292
 have H':=Aside0.mk H
 clear H
 go_enter Tryz.func41,Tryz.ntmps41
 go_wp2_with (first|((with_reducible refine gate_dst (N:=8) rfl ?_);refine Kd.R_lit Kd.string _ 9 ?hg (N:=8) ?hd (xs:=([]:List ByteArray)) (inner:=[]) (ok:=fun _=>True) (okp:=fun _=>True) ?hr ?hp (fun _ hk=>hk) trivial (Below.refl _ _) (Nat.le_refl _) (by simp) ?_;(case hd=>rfl);(case hg=>rfl);(case hr=>first|(go_simp;done)|(go_simp;rfl));(case hp=>exact (Reps.none _ _));intro v293 w3 ho4 hb hg_ hnew_;clear hg_ hnew_;(first|rw [← Ny292.out] at ho4|(simp only [Int.reduceToNat] at ho4;rw [← Ny292.out] at ho4));have n0_:=Aside0.mk (Kd.R_lower ho4 (below_size zhb));have n1_:=Aside0.mk (below_step zhb hb);clear HB;have HO294:=n0_;have HB:=n1_;clear n0_ n1_;clear hb ho4))
 go_loopg [5,6,7] k (fun kq v5 v6 v7 w'=>∃ (x5_1:List ByteArray) (x6_1:Int) (x7_1:Int),v6=.int .i64 x6_1∧v7=.int .i64 x7_1∧Aside0 (spec_l12Cut.l0 kq a0 a1 x5_1 x6_1 x7_1=some r)∧Aside0 (kq≤k)∧Aside0 (Kd.R Kd.string 9 w' w.heap.size (fun _=>True) v5 x5_1)∧Aside0 (Below w.heap.size w w'))
 case atStart=>exact ⟨(y292),(0),(0),(by first|rfl|(simp;done)|(simp [*];done)),(by first|rfl|(simp;done)|(simp [*];done)),H',⟨Nat.le_refl _⟩,⟨by (with_reducible repeat (first|apply Kd.R_alloc|apply Kd.R_drewN|apply Kd.R_drew));exact HO294.out⟩,⟨zhb⟩⟩
 case round =>
  clear H'
  try clear p2
  try clear c4
  obtain ⟨x5_1,x6_1,x7_1,rfl,rfl,HA,HK1,HO_5,HB⟩:=hrel
  cases gk with
  | zero=>exact absurd HA.out (by simp [spec_l12Cut.l0])
  | succ k1 =>
   have H:=HA.out
   clear HA
   simp only [spec_l12Cut.l0] at H
   by_cases c5:x7_1≤(a0.size:Int)
   ·rw [if_pos c5] at H
    have c5b0:decide (x7_1≤(a0.size:Int))=true:=decide_eq_true c5
    clear c5
    by_cases c6:x7_1=(a0.size:Int)
    ·rw [if_pos c6] at H
     have c6b0:(x7_1 == (a0.size:Int))=true:=beq_iff_eq.mpr c6
     have c6b1:(x7_1 != (a0.size:Int))=false:=bne_eq_false_iff_eq.mpr c6
     clear c6
     by_cases c7:0≤x6_1
     ·rw [if_pos c7] at H
      have c7b0:=eq_true c7
      have c7b1:decide (0≤x6_1)=true:=decide_eq_true c7
      clear c7
      by_cases c8:x6_1≤x7_1
      ·rw [if_pos c8] at H
       have c8b0:=eq_true c8
       have c8b1:decide (x6_1≤x7_1)=true:=decide_eq_true c8
       clear c8
       have c9b0:=eq_true (zod:x7_1≤(a0.size:Int))
       by_cases c10:x5_1.length < 8796093022208
       ·rw [if_pos c10] at H
        have LMc10:=Aside0.mk c10
        clear c10
        obtain ⟨y295,hy295⟩ : ∃ y_:List ByteArray,y_=(x5_1 ++ [a0.extract (x6_1:Int).toNat (x7_1:Int).toNat]):=⟨_,rfl⟩
        replace H:(spec_l12Cut.l0 k1 a0 a1 y295 (wrap64 (x7_1 + 1)) (wrap64 (x7_1 + 1)))=some r:=by first|(rw [hy295];with_reducible exact H)|(have H2_:=(Option.bind_some _ _).symm.trans H;rw [hy295];with_reducible exact H2_)|(have H2_:=(Option.bind_some _ _).symm.trans H;with_reducible exact H2_)|with_reducible exact H|(rw [hy295];exact H)|exact H
        have Ny295:=Aside0.mk hy295
        clear hy295
        have H':=Aside0.mk H
        clear H
        go_wp2_with (first|((with_reducible refine gate_builtin (b:=.append) (xs:=#[.tmp 26,.tmp 31]) rfl ?_);at_builtin;refine Kd.R_append Kd.string (w0:=w) w.heap.size rfl (.tmp 26) (.tmp 31) 44 9 (.string ⟨#[]⟩) 16 rfl Tryz.underlying44 info9 rfl (by decide) (by omega) u5 x5_1 (a0.extract (x6_1:Int).toNat (x7_1:Int).toNat) [.string (a0.extract (x6_1:Int).toNat (x7_1:Int).toNat)] (fun _=>True) (fun _=>False) rfl rfl ?aP (fun _ hk=>hk.elim) ?aF ?aO ?aB ?aS ?aL ?_;(case aP=>exact rfl);(case aB=>exact zhb);(case aF=>exact (fun _ _=>trivial));(case aO=>exact (by (with_reducible repeat (first|apply Kd.R_alloc|apply Kd.R_drewN|apply Kd.R_drew));exact HO_5.out));(case aS=>exact (below_size zhb));(case aL=>have:=LMc10.out;omega);intro v296 w11 ho hb hg hat;rw [← Ny295.out] at ho;have n0_:=Aside0.mk (hb);have n1_:=Aside0.mk (ho);clear HB;clear HO_5;have HB:=n0_;have HO297:=n1_;clear n0_ n1_;clear ho hb hg hat))
        go_roundg k1
        case measure=>have:=HK1.out;omega
        case rel=>exact ⟨(y295),(wrap64 (x7_1 + 1)),(wrap64 (x7_1 + 1)),(by first|rfl|(simp;done)|(simp [*];done)),(by first|rfl|(simp;done)|(simp [*];done)),H',⟨by have:=HK1.out;omega⟩,⟨by (with_reducible repeat (first|apply Kd.R_alloc|apply Kd.R_drewN|apply Kd.R_drew));exact HO297.out⟩,⟨zhb⟩⟩
       ·rw [if_neg c10] at H
        exact absurd H (by simp)
      ·rw [if_neg c8] at H
       exact absurd H (by simp)
     ·rw [if_neg c7] at H
      exact absurd H (by simp)
    ·rw [if_neg c6] at H
     have c6b0:(x7_1 == (a0.size:Int))=false:=beq_eq_false_iff_ne.mpr c6
     have c6b1:(x7_1 != (a0.size:Int))=true:=bne_iff_ne.mpr c6
     by_cases c12:0≤x7_1
     ·rw [if_pos c12] at H
      have c12b0:decide (0≤x7_1)=true:=decide_eq_true c12
      clear c12
      by_cases c13:x7_1 < (a0.size:Int)
      ·rw [if_pos c13] at H
       have c13b0:decide (x7_1 < (a0.size:Int))=true:=decide_eq_true c13
       clear c13
       by_cases c15:(bt a0 x7_1)=a1
       ·rw [if_pos c15] at H
        have c15b0:((bt a0 x7_1) == a1)=true:=beq_iff_eq.mpr c15
        have c15b1:((bt a0 x7_1) != a1)=false:=bne_eq_false_iff_eq.mpr c15
        clear c15
        by_cases c16:0≤x6_1
        ·rw [if_pos c16] at H
         have c16b0:=eq_true c16
         have c16b1:decide (0≤x6_1)=true:=decide_eq_true c16
         clear c16
         by_cases c17:x6_1≤x7_1
         ·rw [if_pos c17] at H
          have c17b0:=eq_true c17
          have c17b1:decide (x6_1≤x7_1)=true:=decide_eq_true c17
          clear c17
          have c18b0:=eq_true (zod:x7_1≤(a0.size:Int))
          by_cases c19:x5_1.length < 8796093022208
          ·rw [if_pos c19] at H
           have LMc19:=Aside0.mk c19
           clear c19
           obtain ⟨y298,hy298⟩ : ∃ y_:List ByteArray,y_=(x5_1 ++ [a0.extract (x6_1:Int).toNat (x7_1:Int).toNat]):=⟨_,rfl⟩
           replace H:(spec_l12Cut.l0 k1 a0 a1 y298 (wrap64 (x7_1 + 1)) (wrap64 (x7_1 + 1)))=some r:=by first|(rw [hy298];with_reducible exact H)|(have H2_:=(Option.bind_some _ _).symm.trans H;rw [hy298];with_reducible exact H2_)|(have H2_:=(Option.bind_some _ _).symm.trans H;with_reducible exact H2_)|with_reducible exact H|(rw [hy298];exact H)|exact H
           have Ny298:=Aside0.mk hy298
           clear hy298
           have H':=Aside0.mk H
           clear H
           have p14:0≤(x7_1:Int):=zod
           have q14:x7_1 < (a0.size:Int):=zod
           have hx14:=bt_at a0 x7_1
           replace p14:=eq_true p14
           replace q14:=eq_true q14
           go_wp2_with (first|((with_reducible refine gate_builtin (b:=.append) (xs:=#[.tmp 26,.tmp 31]) rfl ?_);at_builtin;refine Kd.R_append Kd.string (w0:=w) w.heap.size rfl (.tmp 26) (.tmp 31) 44 9 (.string ⟨#[]⟩) 16 rfl Tryz.underlying44 info9 rfl (by decide) (by omega) u5 x5_1 (a0.extract (x6_1:Int).toNat (x7_1:Int).toNat) [.string (a0.extract (x6_1:Int).toNat (x7_1:Int).toNat)] (fun _=>True) (fun _=>False) rfl rfl ?aP (fun _ hk=>hk.elim) ?aF ?aO ?aB ?aS ?aL ?_;(case aP=>exact rfl);(case aB=>exact zhb);(case aF=>exact (fun _ _=>trivial));(case aO=>exact (by (with_reducible repeat (first|apply Kd.R_alloc|apply Kd.R_drewN|apply Kd.R_drew));exact HO_5.out));(case aS=>exact (below_size zhb));(case aL=>have:=LMc19.out;omega);intro v299 w20 ho hb hg hat;rw [← Ny298.out] at ho;have n0_:=Aside0.mk (hb);have n1_:=Aside0.mk (ho);clear HB;clear HO_5;have HB:=n0_;have HO300:=n1_;clear n0_ n1_;clear ho hb hg hat))
           go_roundg k1
           case measure=>have:=HK1.out;omega
           case rel=>exact ⟨(y298),(wrap64 (x7_1 + 1)),(wrap64 (x7_1 + 1)),(by first|rfl|(simp;done)|(simp [*];done)),(by first|rfl|(simp;done)|(simp [*];done)),H',⟨by have:=HK1.out;omega⟩,⟨by (with_reducible repeat (first|apply Kd.R_alloc|apply Kd.R_drewN|apply Kd.R_drew));exact HO300.out⟩,⟨zhb⟩⟩
          ·rw [if_neg c19] at H
           exact absurd H (by simp)
         ·rw [if_neg c17] at H
          exact absurd H (by simp)
        ·rw [if_neg c16] at H
         exact absurd H (by simp)
       ·rw [if_neg c15] at H
        have c15b0:((bt a0 x7_1) == a1)=false:=beq_eq_false_iff_ne.mpr c15
        have c15b1:((bt a0 x7_1) != a1)=true:=bne_iff_ne.mpr c15
        have H':=Aside0.mk H
        clear H
        have p14:0≤(x7_1:Int):=zod
        have q14:x7_1 < (a0.size:Int):=zod
        have hx14:=bt_at a0 x7_1
        replace p14:=eq_true p14
        replace q14:=eq_true q14
        go_wp2
        go_roundg k1
        case measure=>have:=HK1.out;omega
        case rel=>exact ⟨(x5_1),(x6_1),(wrap64 (x7_1 + 1)),(by first|rfl|(simp;done)|(simp [*];done)),(by first|rfl|(simp;done)|(simp [*];done)),H',⟨by have:=HK1.out;omega⟩,⟨by (with_reducible repeat (first|apply Kd.R_alloc|apply Kd.R_drewN|apply Kd.R_drew));exact HO_5.out⟩,⟨zhb⟩⟩
      ·rw [if_neg c13] at H
       exact absurd H (by simp)
     ·rw [if_neg c12] at H
      exact absurd H (by simp)
   ·rw [if_neg c5] at H
    have c5b0:decide (x7_1≤(a0.size:Int))=false:=decide_eq_false c5
    clear c5
    obtain rfl:=Option.some.inj H
    go_wp2
    go_ret
    exact ⟨_,by first|rfl|(simp [errW_none,errW_some] <;> rfl)|(simp [*,errW_none,errW_some] <;> rfl),by (with_reducible repeat (first|apply Kd.R_alloc|apply Kd.R_drewN|apply Kd.R_drew));exact HO_5.out,zhb⟩

/-! ### spec_l12Find: function 68 -/
def spec_l12Find.l0:Nat→ByteArray→Int→Int→Option (Int)
 | 0,_,_,_=>none
 | k + 1,x0,x1,x5=>if x5 < (x0.size:Int) then (if 0≤x5 then (if (bt x0 x5)=x1 then (some x5) else (spec_l12Find.l0 k x0 x1 (wrap64 (x5 + 1)))) else (none)) else (some (-1))
def spec_l12Find.f (k:Nat) (a0:ByteArray) (a1:Int):Option (Int):=spec_l12Find.l0 k a0 a1 0
theorem spec_l12Find.mono_l : ∀ k,(∀ y0 y1 y2,LeO (spec_l12Find.l0 k y0 y1 y2) (spec_l12Find.l0 (k + 1) y0 y1 y2))
 | 0=>fun _ _ _ r h=>by simp [spec_l12Find.l0] at h
 | k + 1=>by
  have ih0:=spec_l12Find.mono_l k
  ·intro y0 y1 y2
   unfold spec_l12Find.l0
   repeat' first
   | (with_reducible exact ih0 _ _ _)
   | (with_reducible exact LeO.refl _)
   | (with_reducible exact LeO.none _)
   | (with_reducible refine LeO.ite ?_ ?_)
   | (with_reducible refine LeO.bind ?_ (fun _=>?_))
   | exact LeO.none _
   | refine LeO.ite ?_ ?_
   | refine LeO.bind ?_ (fun _=>?_)
theorem spec_l12Find.mono : ∀ a0 a1 k,LeO (spec_l12Find.f k a0 a1) (spec_l12Find.f (k + 1) a0 a1):=by
 intro a0 a1 k
 have ih0:=spec_l12Find.mono_l k
 unfold spec_l12Find.f
 repeat' first
   | (with_reducible exact ih0 _ _ _)
   | (with_reducible exact LeO.refl _)
   | (with_reducible exact LeO.none _)
   | (with_reducible refine LeO.ite ?_ ?_)
   | (with_reducible refine LeO.bind ?_ (fun _=>?_))
   | exact LeO.none _
   | refine LeO.ite ?_ ?_
   | refine LeO.bind ?_ (fun _=>?_)
set_option maxHeartbeats 8000000 in
set_option maxRecDepth 100000 in
theorem spec_l12Find.calls (k:Nat) (a0:ByteArray) (a1:Int) (r:Int) (w:World) (h:spec_l12Find.f k a0 a1=some r) :
  Calls Tryz.prog 68 #[.string a0,.int .u8 a1] w fun e w'=>e=.returned (.int .i64 r)∧Drawn0 w w':=by
 have H:(spec_l12Find.l0 k a0 a1 0)=some r:=h
 clear h
 have H':=Aside0.mk H
 clear H
 go_enter Tryz.func68,Tryz.ntmps68
 go_wp2
 go_loopg [5] k (fun kq v5 w'=>∃ (x5_1:Int),v5=.int .i64 x5_1∧Aside0 (spec_l12Find.l0 kq a0 a1 x5_1=some r)∧Aside0 (kq≤k)∧Drawn0 w w')
 case atStart=>exact ⟨(0),(by first|rfl|(simp;done)|(simp [*];done)),H',⟨Nat.le_refl _⟩,zdw⟩
 case round =>
  clear H'
  try clear p2
  obtain ⟨x5_1,rfl,HA,HK1,⟨m1,rfl⟩⟩:=hrel
  cases gk with
  | zero=>exact absurd HA.out (by simp [spec_l12Find.l0])
  | succ k1 =>
   have H:=HA.out
   clear HA
   simp only [spec_l12Find.l0] at H
   by_cases c3:x5_1 < (a0.size:Int)
   ·rw [if_pos c3] at H
    have c3b0:decide (x5_1 < (a0.size:Int))=true:=decide_eq_true c3
    clear c3
    by_cases c4:0≤x5_1
    ·rw [if_pos c4] at H
     have c4b0:decide (0≤x5_1)=true:=decide_eq_true c4
     clear c4
     by_cases c6:(bt a0 x5_1)=a1
     ·rw [if_pos c6] at H
      have c6b0:((bt a0 x5_1) == a1)=true:=beq_iff_eq.mpr c6
      have c6b1:((bt a0 x5_1) != a1)=false:=bne_eq_false_iff_eq.mpr c6
      clear c6
      obtain rfl:=Option.some.inj H
      have p5:0≤(x5_1:Int):=zod
      have q5:x5_1 < (a0.size:Int):=zod
      have hx5:=bt_at a0 x5_1
      replace p5:=eq_true p5
      replace q5:=eq_true q5
      go_wp2
      go_ret
      exact ⟨by first|rfl|(simp;done)|(simp [*];done),zdw⟩
     ·rw [if_neg c6] at H
      have c6b0:((bt a0 x5_1) == a1)=false:=beq_eq_false_iff_ne.mpr c6
      have c6b1:((bt a0 x5_1) != a1)=true:=bne_iff_ne.mpr c6
      have H':=Aside0.mk H
      clear H
      have p5:0≤(x5_1:Int):=zod
      have q5:x5_1 < (a0.size:Int):=zod
      have hx5:=bt_at a0 x5_1
      replace p5:=eq_true p5
      replace q5:=eq_true q5
      go_wp2
      go_roundg k1
      case measure=>have:=HK1.out;omega
      case rel=>exact ⟨(wrap64 (x5_1 + 1)),(by first|rfl|(simp;done)|(simp [*];done)),H',⟨by have:=HK1.out;omega⟩,zdw⟩
    ·rw [if_neg c4] at H
     exact absurd H (by simp)
   ·rw [if_neg c3] at H
    have c3b0:decide (x5_1 < (a0.size:Int))=false:=decide_eq_false c3
    clear c3
    obtain rfl:=Option.some.inj H
    go_wp2
    go_ret
    exact ⟨by first|rfl|(simp;done)|(simp [*];done),zdw⟩

end Go.Proofs.YtgcplipimcbhlaaGreatDoor.PFnZText
