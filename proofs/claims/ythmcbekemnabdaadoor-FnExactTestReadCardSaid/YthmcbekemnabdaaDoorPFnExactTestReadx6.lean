-- Written by wip/tools/pp.py, a program of this session over the kit's printer: not the kit's own print
import Derived.Test.YthmcbekemnabdaaDoorPFnExactTestReadx0
import Derived.Test.YthmcbekemnabdaaDoorPFnExactTestReadx3
import Derived.Test.YthmcbekemnabdaaDoorPFnExactTestReadx5
namespace Go.Proofs.YthmcbekemnabdaaDoor.PFnExactTestRead
open Go.RowKit Go.Proofs.YthmcbekemnabdaaDoorW.PrintWords Go.Proofs.YthmcbekemnabdaaDoorW.PrintLast Go.Proofs.YthmcbekemnabdaaDoorW.PrintMore
attribute [local go_sem] max2_int min2_int max_two min_two max_three min_three max_four min_four   -- for this text's walks alone
set_option linter.unusedVariables false
set_option linter.unusedSimpArgs false

/-! ### strconv_Itoa: function 43 (by hand) -/
def strconv_Itoa.f (a0:Int):Option ByteArray:=if okI a0=true then some ⟨(Lib.itoa a0).toArray⟩ else none
theorem strconv_Itoa.calls (a0 : Int) (r : ByteArray) (w : World) (h : strconv_Itoa.f a0 = some r) (hT : Lib.TabIs Tryd.prog w "internal/strconv.uint64pow10" .u64 Lib.pow10Tab := by first | exact TxtW.tab (TxtW.on HT0.out zhs) | exact tab_on HT0.out zhs) :
  Calls Tryd.prog 43 #[.int .i64 a0] w fun e w'=>e=.returned (.string r)∧Below w.heap.size w w':=by
 unfold strconv_Itoa.f at h
 by_cases h1:okI a0=true
 case neg=>rw [if_neg h1] at h;cases h
 rw [if_pos h1] at h
 obtain rfl:=Option.some.inj h
 have h2:=okI_iff.1 h1
 refine (Tryd.strconv_Itoa a0 h2.1 h2.2 w hT).mono ?_
 rintro e w' ⟨rfl,k,os,rfl⟩
 refine ⟨rfl,rfl,rfl,rfl,?_,fun i hi=>?_⟩
 ·show w.heap.size≤((w.drewN k).heap ++ os).size
  rw [Array.size_append]
  exact Nat.le_add_right _ _
 ·show ((w.drewN k).heap ++ os)[i]?=_
  rw [Array.getElem?_append_left (by show i < w.heap.size;omega)]
  rfl

/-! ### impl_colReckoning_text: function 81 -/
def impl_colReckoning_text.f (a0_0:Int):Option (ByteArray):=(strconv_Itoa.f a0_0).bind fun t138=>(if 1 + t138.size≤9223372036854775807 then (some ((⟨#[99]⟩:ByteArray) ++ t138)) else (none))
set_option maxHeartbeats 8000000 in
set_option maxRecDepth 100000 in
theorem impl_colReckoning_text.calls (a0_0 : Int) (r : ByteArray) (w : World) (h : impl_colReckoning_text.f a0_0 = some r) (hT : Lib.TabIs Tryd.prog w "internal/strconv.uint64pow10" .u64 Lib.pow10Tab := by first | exact TxtW.tab (TxtW.on HT0.out zhs) | exact tab_on HT0.out zhs) :
  Calls Tryd.prog 81 #[.agg #[.int .i64 a0_0]] w fun e w'=>e=.returned (.string r)∧Below w.heap.size w w':=by
 have HT0:=Aside0.mk hT
 clear hT
 have hu65:=Tryd.underlying65
 have HB:=Aside0.mk (Below.refl w.heap.size w)
 have H:((strconv_Itoa.f a0_0).bind fun t138=>(if 1 + t138.size≤9223372036854775807 then (some ((⟨#[99]⟩:ByteArray) ++ t138)) else (none)))=some r:=h
 clear h
 replace H:=Option.bind_eq_some_iff.mp H
 obtain ⟨t138,A20,H⟩:=H
 (try dsimp only at H)
 have A2:=Aside0.mk A20
 clear A20
 by_cases c3:1 + t138.size≤9223372036854775807
 ·rw [if_pos c3] at H
  have c3b0:=eq_true c3
  have c3b1:decide (1 + t138.size≤9223372036854775807)=true:=decide_eq_true c3
  try have c3b2:(9223372036854775807 < 1 + t138.size)=False:=eq_false (Nat.not_lt.2 c3)
  obtain rfl:=Option.some.inj H
  go_enter Tryd.func81,Tryd.ntmps81
  go_wp2_with (first|((with_reducible refine gate_dst (N:=1) rfl ?_);refine box_event ?hg (N:=1) ?hd (cs:=#[.int .i64 a0_0]) (t:=65) ?hr ?_;(case hd=>rfl);(case hg=>rfl);(case hr=>first|(go_simp;done)|(go_simp;rfl));intro gb137 hg w4 hbox hb;have n0_:=Aside0.mk (below_step zhb hb);have n1_:=Aside0.mk (hbox);have n2_:=Aside0.mk ((by rw [hg];exact (below_size zhb):w.heap.size≤gb137));have n3_:=Aside0.mk ((by rw [hg];exact (below_size zhb):w.heap.size≤gb137));clear HB;have HB:=n0_;have BK137:=n1_;have GW137:=n2_;have GE137:=n3_;clear n0_ n1_ n2_ n3_;clear hb hbox hg;have hcz5_0:w4.cell? ⟨gb137,0,none⟩=some (.int .i64 a0_0):=(blk_cell BK137.out 0).trans rfl;have hfz5_0:=blk_frozen BK137.out 0)|((with_reducible refine gate_callee (f:=43) rfl ?_);refine goesL_ (some 5) rfl rfl Tryd.func43 (by kernel_rfl) rfl #[.int .i64 a0_0] rfl zar ?_;(with_reducible refine (strconv_Itoa.calls a0_0 t138 _ A2.out).mono ?_);rintro e w6 ⟨rfl,hb⟩;refine ⟨_,rfl,?_⟩;have n0_:=Aside0.mk (blk_below (g:=gb137) (o:=.cells #[.int .i64 a0_0] 65 (0,0)) (by (with_reducible repeat (first|refine blk_drewN ?_ _|refine blk_drew ?_|refine blk_alloc ?_ _));exact BK137.out) hb);have n1_:=Aside0.mk (below_step (by repeat (first|(with_reducible first|exact HB.out|apply below_alloc|apply pw_below_drewN|apply below_drew1|refine below_set ?_ GE137.out)|exact HB.out)) hb);clear BK137;clear HB;have BK137:=n0_;have HB:=n1_;clear n0_ n1_;(try clear hb);(try clear hb2);(try clear hk);(try clear hi)))
  go_ret
  exact ⟨by first|rfl|(simp [errW_none,errW_some] <;> rfl)|(simp [*,errW_none,errW_some] <;> rfl),by repeat (first|(with_reducible first|exact HB.out|apply below_alloc|apply pw_below_drewN|apply below_drew1|refine below_set ?_ GE137.out)|exact HB.out)⟩
 ·rw [if_neg c3] at H
  exact absurd H (by simp)

/-! ### impl_numReckoning_text: function 86 -/
def impl_numReckoning_text.f (a0_0:Int):Option (ByteArray):=(strconv_Itoa.f a0_0).bind fun t140=>(if 1 + t140.size≤9223372036854775807 then (some ((⟨#[35]⟩:ByteArray) ++ t140)) else (none))
set_option maxHeartbeats 8000000 in
set_option maxRecDepth 100000 in
theorem impl_numReckoning_text.calls (a0_0 : Int) (r : ByteArray) (w : World) (h : impl_numReckoning_text.f a0_0 = some r) (hT : Lib.TabIs Tryd.prog w "internal/strconv.uint64pow10" .u64 Lib.pow10Tab := by first | exact TxtW.tab (TxtW.on HT0.out zhs) | exact tab_on HT0.out zhs) :
  Calls Tryd.prog 86 #[.agg #[.int .i64 a0_0]] w fun e w'=>e=.returned (.string r)∧Below w.heap.size w w':=by
 have HT0:=Aside0.mk hT
 clear hT
 have hu67:=Tryd.underlying67
 have HB:=Aside0.mk (Below.refl w.heap.size w)
 have H:((strconv_Itoa.f a0_0).bind fun t140=>(if 1 + t140.size≤9223372036854775807 then (some ((⟨#[35]⟩:ByteArray) ++ t140)) else (none)))=some r:=h
 clear h
 replace H:=Option.bind_eq_some_iff.mp H
 obtain ⟨t140,A20,H⟩:=H
 (try dsimp only at H)
 have A2:=Aside0.mk A20
 clear A20
 by_cases c3:1 + t140.size≤9223372036854775807
 ·rw [if_pos c3] at H
  have c3b0:=eq_true c3
  have c3b1:decide (1 + t140.size≤9223372036854775807)=true:=decide_eq_true c3
  try have c3b2:(9223372036854775807 < 1 + t140.size)=False:=eq_false (Nat.not_lt.2 c3)
  obtain rfl:=Option.some.inj H
  go_enter Tryd.func86,Tryd.ntmps86
  go_wp2_with (first|((with_reducible refine gate_dst (N:=1) rfl ?_);refine box_event ?hg (N:=1) ?hd (cs:=#[.int .i64 a0_0]) (t:=67) ?hr ?_;(case hd=>rfl);(case hg=>rfl);(case hr=>first|(go_simp;done)|(go_simp;rfl));intro gb139 hg w4 hbox hb;have n0_:=Aside0.mk (below_step zhb hb);have n1_:=Aside0.mk (hbox);have n2_:=Aside0.mk ((by rw [hg];exact (below_size zhb):w.heap.size≤gb139));have n3_:=Aside0.mk ((by rw [hg];exact (below_size zhb):w.heap.size≤gb139));clear HB;have HB:=n0_;have BK139:=n1_;have GW139:=n2_;have GE139:=n3_;clear n0_ n1_ n2_ n3_;clear hb hbox hg;have hcz5_0:w4.cell? ⟨gb139,0,none⟩=some (.int .i64 a0_0):=(blk_cell BK139.out 0).trans rfl;have hfz5_0:=blk_frozen BK139.out 0)|((with_reducible refine gate_callee (f:=43) rfl ?_);refine goesL_ (some 5) rfl rfl Tryd.func43 (by kernel_rfl) rfl #[.int .i64 a0_0] rfl zar ?_;(with_reducible refine (strconv_Itoa.calls a0_0 t140 _ A2.out).mono ?_);rintro e w6 ⟨rfl,hb⟩;refine ⟨_,rfl,?_⟩;have n0_:=Aside0.mk (blk_below (g:=gb139) (o:=.cells #[.int .i64 a0_0] 67 (0,0)) (by (with_reducible repeat (first|refine blk_drewN ?_ _|refine blk_drew ?_|refine blk_alloc ?_ _));exact BK139.out) hb);have n1_:=Aside0.mk (below_step (by repeat (first|(with_reducible first|exact HB.out|apply below_alloc|apply pw_below_drewN|apply below_drew1|refine below_set ?_ GE139.out)|exact HB.out)) hb);clear BK139;clear HB;have BK139:=n0_;have HB:=n1_;clear n0_ n1_;(try clear hb);(try clear hb2);(try clear hk);(try clear hi)))
  go_ret
  exact ⟨by first|rfl|(simp [errW_none,errW_some] <;> rfl)|(simp [*,errW_none,errW_some] <;> rfl),by repeat (first|(with_reducible first|exact HB.out|apply below_alloc|apply pw_below_drewN|apply below_drew1|refine below_set ?_ GE139.out)|exact HB.out)⟩
 ·rw [if_neg c3] at H
  exact absurd H (by simp)

/-! ### impl_sumReckoning_text: function 91 -/
def impl_sumReckoning_text.f (a0_0:Int) (a0_1:Int):Option (ByteArray):=(strconv_Itoa.f a0_0).bind fun t142=>(if 1 + t142.size≤9223372036854775807 then (if ((⟨#[99]⟩:ByteArray) ++ t142).size + 2≤9223372036854775807 then ((strconv_Itoa.f a0_1).bind fun t143=>(if (((⟨#[99]⟩:ByteArray) ++ t142) ++ (⟨#[43,99]⟩:ByteArray)).size + t143.size≤9223372036854775807 then (some ((((⟨#[99]⟩:ByteArray) ++ t142) ++ (⟨#[43,99]⟩:ByteArray)) ++ t143)) else (none))) else (none)) else (none))
def impl_sumReckoning_text.T1:Bool × List (List Nat × List Nat):=(true,[([],[]),([0],[0]),([1],[1]),([2],[2]),([3],[3]),([],[]),([5],[5]),([6,2],[6]),([4,7],[4,7]),([8,7,0,1,2,3,4,5,6,7,8],[8])])
def impl_sumReckoning_text.B1:List Nat:=[0,1,3,7,15,0,32,103,255,511]
theorem impl_sumReckoning_text.tab1:rtab .any (opsOf Tryd.f91 1)=impl_sumReckoning_text.T1:=by kernel_rfl
theorem impl_sumReckoning_text.bits1:waitsOk impl_sumReckoning_text.T1.2 impl_sumReckoning_text.B1=true:=by kernel_rfl
set_option maxHeartbeats 8000000 in
set_option maxRecDepth 100000 in
theorem impl_sumReckoning_text.calls (a0_0 : Int) (a0_1 : Int) (r : ByteArray) (w : World) (h : impl_sumReckoning_text.f a0_0 a0_1 = some r) (hT : Lib.TabIs Tryd.prog w "internal/strconv.uint64pow10" .u64 Lib.pow10Tab := by first | exact TxtW.tab (TxtW.on HT0.out zhs) | exact tab_on HT0.out zhs) :
  Calls Tryd.prog 91 #[.agg #[.int .i64 a0_0,.int .i64 a0_1]] w fun e w'=>e=.returned (.string r)∧Below w.heap.size w w':=by
 have HT0:=Aside0.mk hT
 clear hT
 have hu69:=Tryd.underlying69
 have HB:=Aside0.mk (Below.refl w.heap.size w)
 have H:((strconv_Itoa.f a0_0).bind fun t142=>(if 1 + t142.size≤9223372036854775807 then (if ((⟨#[99]⟩:ByteArray) ++ t142).size + 2≤9223372036854775807 then ((strconv_Itoa.f a0_1).bind fun t143=>(if (((⟨#[99]⟩:ByteArray) ++ t142) ++ (⟨#[43,99]⟩:ByteArray)).size + t143.size≤9223372036854775807 then (some ((((⟨#[99]⟩:ByteArray) ++ t142) ++ (⟨#[43,99]⟩:ByteArray)) ++ t143)) else (none))) else (none)) else (none)))=some r:=h
 clear h
 replace H:=Option.bind_eq_some_iff.mp H
 obtain ⟨t142,A20,H⟩:=H
 (try dsimp only at H)
 have A2:=Aside0.mk A20
 clear A20
 by_cases c3:1 + t142.size≤9223372036854775807
 ·rw [if_pos c3] at H
  have c3b0:=eq_true c3
  have c3b1:decide (1 + t142.size≤9223372036854775807)=true:=decide_eq_true c3
  try have c3b2:(9223372036854775807 < 1 + t142.size)=False:=eq_false (Nat.not_lt.2 c3)
  by_cases c4:((⟨#[99]⟩:ByteArray) ++ t142).size + 2≤9223372036854775807
  ·rw [if_pos c4] at H
   have c4b0:=eq_true c4
   have c4b1:decide (((⟨#[99]⟩:ByteArray) ++ t142).size + 2≤9223372036854775807)=true:=decide_eq_true c4
   (try (have c4b3:1 + t142.size + 2≤9223372036854775807:=by have h_:=c4;simp only [ByteArray.size_append] at h_;exact h_))
   (try have c4b4:=eq_true c4b3)
   (try have c4b5:decide (1 + t142.size + 2≤9223372036854775807)=true:=decide_eq_true c4b3)
   (try have c4b6:(9223372036854775807 < 1 + t142.size + 2)=False:=eq_false (Nat.not_lt.2 c4b3))
   try have c4b2:(9223372036854775807 < ((⟨#[99]⟩:ByteArray) ++ t142).size + 2)=False:=eq_false (Nat.not_lt.2 c4)
   replace H:=Option.bind_eq_some_iff.mp H
   obtain ⟨t143,A50,H⟩:=H
   (try dsimp only at H)
   have A5:=Aside0.mk A50
   clear A50
   by_cases c6:(((⟨#[99]⟩:ByteArray) ++ t142) ++ (⟨#[43,99]⟩:ByteArray)).size + t143.size≤9223372036854775807
   ·rw [if_pos c6] at H
    have c6b0:=eq_true c6
    have c6b1:decide ((((⟨#[99]⟩:ByteArray) ++ t142) ++ (⟨#[43,99]⟩:ByteArray)).size + t143.size≤9223372036854775807)=true:=decide_eq_true c6
    (try (have c6b3:1 + t142.size + 2 + t143.size≤9223372036854775807:=by have h_:=c6;simp only [ByteArray.size_append] at h_;exact h_))
    (try have c6b4:=eq_true c6b3)
    (try have c6b5:decide (1 + t142.size + 2 + t143.size≤9223372036854775807)=true:=decide_eq_true c6b3)
    (try have c6b6:(9223372036854775807 < 1 + t142.size + 2 + t143.size)=False:=eq_false (Nat.not_lt.2 c6b3))
    try have c6b2:(9223372036854775807 < (((⟨#[99]⟩:ByteArray) ++ t142) ++ (⟨#[43,99]⟩:ByteArray)).size + t143.size)=False:=eq_false (Nat.not_lt.2 c6)
    obtain rfl:=Option.some.inj H
    go_enter Tryd.func91,Tryd.ntmps91
    try go_wp2_with (first|((with_reducible refine gate_dst (N:=1) rfl ?_);refine box_event ?hg (N:=1) ?hd (cs:=#[.int .i64 a0_0,.int .i64 a0_1]) (t:=69) ?hr ?_;(case hd=>rfl);(case hg=>rfl);(case hr=>first|(go_simp;done)|(go_simp;rfl));intro gb141 hg w7 hbox hb;have n0_:=Aside0.mk (below_step zhb hb);have n1_:=Aside0.mk (hbox);have n2_:=Aside0.mk ((by rw [hg];exact (below_size zhb):w.heap.size≤gb141));have n3_:=Aside0.mk ((by rw [hg];exact (below_size zhb):w.heap.size≤gb141));clear HB;have HB:=n0_;have BK141:=n1_;have GW141:=n2_;have GE141:=n3_;clear n0_ n1_ n2_ n3_;clear hb hbox hg))
    have n0_:=Aside0.mk (blk_drew BK141.out)
    have n1_:=Aside0.mk (below_drew1 HB.out)
    clear BK141
    clear HB
    have BK141:=n0_
    have HB:=n1_
    clear n0_ n1_
    refine start_ (n:=10) (S:=fun w'=>w'.cell? ⟨gb141,0,none⟩=some (.int .i64 a0_0)∧w'.cell? ⟨gb141,1,none⟩=some (.int .i64 a0_1)) (ds:=[]) #[X,X,X,X,X,X,X,X,X,X] (by kernel_rfl) rfl rfl ⟨(blk_cell BK141.out 0).trans rfl,(blk_cell BK141.out 1).trans rfl⟩ (fun hHeld=>?_);refine with_tabW impl_sumReckoning_text.tab1 impl_sumReckoning_text.bits1 (fun HT_ HW_=>?_)
    generalize w7.drew=w8 at BK141 HB hHeld ⊢
    refine pure_ (i:=0) (N:=some 3) (v:=?_) (a':=?_) #[Y,X,X,X,X,X,X,X,X,X] rfl rfl zan (fun _ _ _ h=>h) (Or.inl ⟨by rfl,?_⟩) ?_ ?_
    rotate_left
    ·intro w'
     go_simp
     with_reducible rfl
    rotate_left
    ·simp only [Act.put,zp1,zp2,zp3,i64_w,i32_w]
     rfl
    refine pure_ (i:=5) (N:=some 8) (v:=?_) (a':=?_) #[Y,X,X,X,X,Y,X,X,X,X] rfl rfl zan (fun _ _ _ h=>h) (Or.inl ⟨by rfl,?_⟩) ?_ ?_
    rotate_left
    ·intro w'
     go_simp
     with_reducible rfl
    rotate_left
    ·simp only [Act.put,zp1,zp2,zp3,i64_w,i32_w]
     rfl
    refine take_ (i:=1) (N:=some 4) (v:=?_) (a':=?_) #[Y,Y,X,X,X,Y,X,X,X,X] rfl rfl ztw (fun _ _ _ h=>h) (Or.inl ⟨by rfl,?_⟩) hHeld ?_ ?_
    rotate_left
    ·rintro w' ⟨s0,s1⟩
     go_simp
     with_reducible rfl
    rotate_left
    ·simp only [Act.put,zp1,zp2,zp3,i64_w,i32_w]
     rfl
    refine take_ (i:=6) (N:=some 9) (v:=?_) (a':=?_) #[Y,Y,X,X,X,Y,Y,X,X,X] rfl rfl ztw (fun _ _ _ h=>h) (Or.inl ⟨by rfl,?_⟩) hHeld ?_ ?_
    rotate_left
    ·rintro w' ⟨s0,s1⟩
     go_simp
     with_reducible rfl
    rotate_left
    ·simp only [Act.put,zp1,zp2,zp3,i64_w,i32_w]
     rfl
    refine one_ (i:=2) (N:=some 5) #[Y,Y,Y,X,X,Y,Y,X,X,X] rfl rfl (one_of HT_.out (by kernel_rfl)) (by decide) (fun K hK=>?_)
    refine goes_ Tryd.func43 (by kernel_rfl) rfl #[.int .i64 a0_0] (by rfl) rfl rfl zar ?_
    with_reducible refine (strconv_Itoa.calls a0_0 t142 _ A2.out).mono ?_
    rintro e w9 ⟨rfl,hb⟩
    refine ⟨_,rfl,?_⟩
    have n0_:=Aside0.mk (blk_below (g:=gb141) (o:=.cells #[.int .i64 a0_0,.int .i64 a0_1] 69 (0,0)) (by (with_reducible repeat (first|refine blk_drewN ?_ _|refine blk_drew ?_|refine blk_alloc ?_ _));exact BK141.out) hb)
    have n1_:=Aside0.mk (below_step (by repeat (first|(with_reducible first|exact HB.out|apply below_alloc|apply pw_below_drewN|apply below_drew1|refine below_set ?_ GE141.out)|exact HB.out)) hb)
    clear BK141
    clear HB
    have BK141:=n0_
    have HB:=n1_
    clear n0_ n1_
    (try clear hb)
    (try clear hb2)
    (try clear hk)
    (try clear hi)
    refine hK.out _ _ ⟨(blk_cell BK141.out 0).trans rfl,(blk_cell BK141.out 1).trans rfl⟩ (fun hHeld=>?_)
    clear hK K
    refine norm_ (a':=?_) ?_ ?_
    rotate_left
    ·show Act.put _ (some 5) _=_
     simp only [Act.put,zp1,zp2,zp3,i64_w,i32_w]
     rfl
    refine pure_ (i:=3) (N:=some 6) (v:=?_) (a':=?_) #[Y,Y,Y,Y,X,Y,Y,X,X,X] rfl rfl zan (fun _ _ _ h=>h) (Or.inl ⟨by rfl,?_⟩) ?_ ?_
    rotate_left
    ·intro w'
     go_simp
     with_reducible rfl
    rotate_left
    ·simp only [Act.put,zp1,zp2,zp3,i64_w,i32_w]
     rfl
    refine pure_ (i:=4) (N:=some 7) (v:=?_) (a':=?_) #[Y,Y,Y,Y,Y,Y,Y,X,X,X] rfl rfl zan (fun _ _ _ h=>h) (Or.inl ⟨by rfl,?_⟩) ?_ ?_
    rotate_left
    ·intro w'
     go_simp
     with_reducible rfl
    rotate_left
    ·simp only [Act.put,zp1,zp2,zp3,i64_w,i32_w]
     rfl
    refine one_ (i:=7) (N:=some 10) #[Y,Y,Y,Y,Y,Y,Y,Y,X,X] rfl rfl (one_of HT_.out (by kernel_rfl)) (by decide) (fun K hK=>?_)
    refine goes_ Tryd.func43 (by kernel_rfl) rfl #[.int .i64 a0_1] (by rfl) rfl rfl zar ?_
    with_reducible refine (strconv_Itoa.calls a0_1 t143 _ A5.out).mono ?_
    rintro e w10 ⟨rfl,hb⟩
    refine ⟨_,rfl,?_⟩
    have n0_:=Aside0.mk (blk_below (g:=gb141) (o:=.cells #[.int .i64 a0_0,.int .i64 a0_1] 69 (0,0)) (by (with_reducible repeat (first|refine blk_drewN ?_ _|refine blk_drew ?_|refine blk_alloc ?_ _));exact BK141.out) hb)
    have n1_:=Aside0.mk (below_step (by repeat (first|(with_reducible first|exact HB.out|apply below_alloc|apply pw_below_drewN|apply below_drew1|refine below_set ?_ GE141.out)|exact HB.out)) hb)
    clear BK141
    clear HB
    have BK141:=n0_
    have HB:=n1_
    clear n0_ n1_
    (try clear hb)
    (try clear hb2)
    (try clear hk)
    (try clear hi)
    refine hK.out _ _ ⟨(blk_cell BK141.out 0).trans rfl,(blk_cell BK141.out 1).trans rfl⟩ (fun hHeld=>?_)
    clear hK K
    refine norm_ (a':=?_) ?_ ?_
    rotate_left
    ·show Act.put _ (some 10) _=_
     simp only [Act.put,zp1,zp2,zp3,i64_w,i32_w]
     rfl
    refine pure_ (i:=8) (N:=some 11) (v:=?_) (a':=?_) #[Y,Y,Y,Y,Y,Y,Y,Y,Y,X] rfl rfl zan (fun _ _ _ h=>h) (Or.inl ⟨by rfl,?_⟩) ?_ ?_
    rotate_left
    ·intro w'
     go_simp
     with_reducible rfl
    rotate_left
    ·simp only [Act.put,zp1,zp2,zp3,i64_w,i32_w]
     rfl
    refine pure_ (i:=9) (N:=some 2) (v:=?_) (a':=?_) #[Y,Y,Y,Y,Y,Y,Y,Y,Y,Y] rfl rfl zan (fun _ _ _ h=>h) (Or.inl ⟨by rfl,?_⟩) ?_ ?_
    rotate_left
    ·intro w'
     go_simp
     with_reducible rfl
    rotate_left
    ·simp only [Act.put,zp1,zp2,zp3,i64_w,i32_w]
     rfl
    refine done_ (done_of HT_.out (by kernel_rfl)) ?_
    try go_wp2
    go_ret
    exact ⟨by first|rfl|(simp [errW_none,errW_some] <;> rfl)|(simp [*,errW_none,errW_some] <;> rfl),by repeat (first|(with_reducible first|exact HB.out|apply below_alloc|apply pw_below_drewN|apply below_drew1|refine below_set ?_ GE141.out)|exact HB.out)⟩
   ·rw [if_neg c6] at H
    exact absurd H (by simp)
  ·rw [if_neg c4] at H
   exact absurd H (by simp)
 ·rw [if_neg c3] at H
  exact absurd H (by simp)

/-! ### impl_CellText: function 19 (by hand) -/
def impl_CellText.f (a0_0:Int) (a0_1:Int) (a0_2:Int) (a0_3:Int):Option ByteArray :=
 (impl_CellOk.f a0_0 a0_1 a0_2 a0_3 6).bind fun ok=>if ok=true then (if a0_0=1 then impl_colReckoning_text.f a0_1 else if a0_0=2 then impl_numReckoning_text.f a0_3 else if a0_0=3 then impl_sumReckoning_text.f a0_1 a0_2 else none) else some ByteArray.empty
set_option maxHeartbeats 8000000 in
set_option maxRecDepth 100000 in
theorem cellText_no (k a b n:Int) (w:World) (hok:impl_CellOk.f k a b n 6=some false):Calls Tryd.prog 19 #[.agg #[.int .i64 k,.int .i64 a,.int .i64 b,.int .i64 n]] w fun e w'=>e=.returned (.string ByteArray.empty)∧Below w.heap.size w w':=by
 have OK:=Aside0.mk (fun w'=>impl_CellOk.calls k a b n 6 false w' hok)
 have HB:=Aside0.mk (Below.refl w.heap.size w)
 clear hok
 go_enter Tryd.func19,Tryd.ntmps19
 go_wp2_with (first|(go_at_call 26;refine (OK.out _).mono ?_;rintro e w1 ⟨rfl,hb⟩;have B1:=Aside0.mk (below_step (below_alloc HB.out _) hb);clear hb))
 go_ret
 exact ⟨rfl,B1.out⟩
set_option maxHeartbeats 8000000 in
set_option maxRecDepth 100000 in
theorem cellText_col (a b n : Int) (r : ByteArray) (w : World) (hok : impl_CellOk.f 1 a b n 6 = some true) (h : impl_colReckoning_text.f a = some r) (hT : Lib.TabIs Tryd.prog w "internal/strconv.uint64pow10" .u64 Lib.pow10Tab) : Calls Tryd.prog 19 #[.agg #[.int .i64 1, .int .i64 a, .int .i64 b, .int .i64 n]] w fun e w' => e = .returned (.string r) ∧ Below w.heap.size w w' := by
 have OK:=Aside0.mk (fun w'=>impl_CellOk.calls 1 a b n 6 true w' hok)
 have HB:=Aside0.mk (Below.refl w.heap.size w)
 have RK:=impl_reckoningOf.calls 1 a b n
 rw [show rkVal 1 a b n=.iface 65 (.agg #[.int .i64 a]) from rfl] at RK
 have HR:=Aside0.mk RK
 have TX:=Aside0.mk (fun w' hT'=>impl_colReckoning_text.calls a r w' h hT')
 have HT:=Aside0.mk hT
 have mo : ∀ W : World, (method 218 65 (.agg #[.int .i64 a]) "loop.example/milldam/impl.text").run Tryd.prog W = .ok (81, .agg #[.int .i64 a]) W := fun _ => by kernel_rfl
 clear hok h hT RK
 go_enter Tryd.func19,Tryd.ntmps19
 go_wp2_with (first
  | (go_at_call 26;refine (OK.out _).mono ?_;rintro e w1 ⟨rfl,hb⟩;have B1:=Aside0.mk (below_step (below_alloc HB.out _) hb);have c0:w1.cell? ⟨w.heap.size,0,none⟩=some (.int .i64 1):=(hb.cell (p:=⟨w.heap.size,0,none⟩) (by simp)).trans (by simp);have c1:w1.cell? ⟨w.heap.size,1,none⟩=some (.int .i64 a):=(hb.cell (p:=⟨w.heap.size,1,none⟩) (by simp)).trans (by simp);have c2:w1.cell? ⟨w.heap.size,2,none⟩=some (.int .i64 b):=(hb.cell (p:=⟨w.heap.size,2,none⟩) (by simp)).trans (by simp);have c3:w1.cell? ⟨w.heap.size,3,none⟩=some (.int .i64 n):=(hb.cell (p:=⟨w.heap.size,3,none⟩) (by simp)).trans (by simp);clear hb)
  | (go_at_call 27;refine (HR.out _).mono ?_;rintro e w2 ⟨rfl,hb⟩;have B2:=Aside0.mk (below_step B1.out hb);clear hb c0 c1 c2 c3)
  | (go_at_call 81;refine (TX.out _ (tab_on HT.out B2.out)).mono ?_;rintro e w3 ⟨rfl,hb⟩;have B3:=Aside0.mk (below_step B2.out hb);clear hb))
 go_ret
 exact ⟨rfl,B3.out⟩
set_option maxHeartbeats 8000000 in
set_option maxRecDepth 100000 in
theorem cellText_num (a b n : Int) (r : ByteArray) (w : World) (hok : impl_CellOk.f 2 a b n 6 = some true) (h : impl_numReckoning_text.f n = some r) (hT : Lib.TabIs Tryd.prog w "internal/strconv.uint64pow10" .u64 Lib.pow10Tab) : Calls Tryd.prog 19 #[.agg #[.int .i64 2, .int .i64 a, .int .i64 b, .int .i64 n]] w fun e w' => e = .returned (.string r) ∧ Below w.heap.size w w' := by
 have OK:=Aside0.mk (fun w'=>impl_CellOk.calls 2 a b n 6 true w' hok)
 have HB:=Aside0.mk (Below.refl w.heap.size w)
 have RK:=impl_reckoningOf.calls 2 a b n
 rw [show rkVal 2 a b n=.iface 67 (.agg #[.int .i64 n]) from rfl] at RK
 have HR:=Aside0.mk RK
 have TX:=Aside0.mk (fun w' hT'=>impl_numReckoning_text.calls n r w' h hT')
 have HT:=Aside0.mk hT
 have mo : ∀ W : World, (method 218 67 (.agg #[.int .i64 n]) "loop.example/milldam/impl.text").run Tryd.prog W = .ok (86, .agg #[.int .i64 n]) W := fun _ => by kernel_rfl
 clear hok h hT RK
 go_enter Tryd.func19,Tryd.ntmps19
 go_wp2_with (first
  | (go_at_call 26;refine (OK.out _).mono ?_;rintro e w1 ⟨rfl,hb⟩;have B1:=Aside0.mk (below_step (below_alloc HB.out _) hb);have c0:w1.cell? ⟨w.heap.size,0,none⟩=some (.int .i64 2):=(hb.cell (p:=⟨w.heap.size,0,none⟩) (by simp)).trans (by simp);have c1:w1.cell? ⟨w.heap.size,1,none⟩=some (.int .i64 a):=(hb.cell (p:=⟨w.heap.size,1,none⟩) (by simp)).trans (by simp);have c2:w1.cell? ⟨w.heap.size,2,none⟩=some (.int .i64 b):=(hb.cell (p:=⟨w.heap.size,2,none⟩) (by simp)).trans (by simp);have c3:w1.cell? ⟨w.heap.size,3,none⟩=some (.int .i64 n):=(hb.cell (p:=⟨w.heap.size,3,none⟩) (by simp)).trans (by simp);clear hb)
  | (go_at_call 27;refine (HR.out _).mono ?_;rintro e w2 ⟨rfl,hb⟩;have B2:=Aside0.mk (below_step B1.out hb);clear hb c0 c1 c2 c3)
  | (go_at_call 86;refine (TX.out _ (tab_on HT.out B2.out)).mono ?_;rintro e w3 ⟨rfl,hb⟩;have B3:=Aside0.mk (below_step B2.out hb);clear hb))
 go_ret
 exact ⟨rfl,B3.out⟩
set_option maxHeartbeats 8000000 in
set_option maxRecDepth 100000 in
theorem cellText_sum (a b n : Int) (r : ByteArray) (w : World) (hok : impl_CellOk.f 3 a b n 6 = some true) (h : impl_sumReckoning_text.f a b = some r) (hT : Lib.TabIs Tryd.prog w "internal/strconv.uint64pow10" .u64 Lib.pow10Tab) : Calls Tryd.prog 19 #[.agg #[.int .i64 3, .int .i64 a, .int .i64 b, .int .i64 n]] w fun e w' => e = .returned (.string r) ∧ Below w.heap.size w w' := by
 have OK:=Aside0.mk (fun w'=>impl_CellOk.calls 3 a b n 6 true w' hok)
 have HB:=Aside0.mk (Below.refl w.heap.size w)
 have RK:=impl_reckoningOf.calls 3 a b n
 rw [show rkVal 3 a b n=.iface 69 (.agg #[.int .i64 a,.int .i64 b]) from rfl] at RK
 have HR:=Aside0.mk RK
 have TX:=Aside0.mk (fun w' hT'=>impl_sumReckoning_text.calls a b r w' h hT')
 have HT:=Aside0.mk hT
 have mo : ∀ W : World, (method 218 69 (.agg #[.int .i64 a, .int .i64 b]) "loop.example/milldam/impl.text").run Tryd.prog W = .ok (91, .agg #[.int .i64 a, .int .i64 b]) W := fun _ => by kernel_rfl
 clear hok h hT RK
 go_enter Tryd.func19,Tryd.ntmps19
 go_wp2_with (first
  | (go_at_call 26;refine (OK.out _).mono ?_;rintro e w1 ⟨rfl,hb⟩;have B1:=Aside0.mk (below_step (below_alloc HB.out _) hb);have c0:w1.cell? ⟨w.heap.size,0,none⟩=some (.int .i64 3):=(hb.cell (p:=⟨w.heap.size,0,none⟩) (by simp)).trans (by simp);have c1:w1.cell? ⟨w.heap.size,1,none⟩=some (.int .i64 a):=(hb.cell (p:=⟨w.heap.size,1,none⟩) (by simp)).trans (by simp);have c2:w1.cell? ⟨w.heap.size,2,none⟩=some (.int .i64 b):=(hb.cell (p:=⟨w.heap.size,2,none⟩) (by simp)).trans (by simp);have c3:w1.cell? ⟨w.heap.size,3,none⟩=some (.int .i64 n):=(hb.cell (p:=⟨w.heap.size,3,none⟩) (by simp)).trans (by simp);clear hb)
  | (go_at_call 27;refine (HR.out _).mono ?_;rintro e w2 ⟨rfl,hb⟩;have B2:=Aside0.mk (below_step B1.out hb);clear hb c0 c1 c2 c3)
  | (go_at_call 91;refine (TX.out _ (tab_on HT.out B2.out)).mono ?_;rintro e w3 ⟨rfl,hb⟩;have B3:=Aside0.mk (below_step B2.out hb);clear hb))
 go_ret
 exact ⟨rfl,B3.out⟩
theorem impl_CellText.calls (a0_0 : Int) (a0_1 : Int) (a0_2 : Int) (a0_3 : Int) (r : ByteArray) (w : World) (h : impl_CellText.f a0_0 a0_1 a0_2 a0_3 = some r) (hT : Lib.TabIs Tryd.prog w "internal/strconv.uint64pow10" .u64 Lib.pow10Tab := by first | exact TxtW.tab (TxtW.on HT0.out zhs) | exact tab_on HT0.out zhs) :
  Calls Tryd.prog 19 #[.agg #[.int .i64 a0_0,.int .i64 a0_1,.int .i64 a0_2,.int .i64 a0_3]] w fun e w'=>e=.returned (.string r)∧Below w.heap.size w w':=by
 unfold impl_CellText.f at h
 obtain ⟨ok,h1,h2⟩:=Option.bind_eq_some_iff.1 h
 clear h
 cases ok with
 | false =>
  obtain rfl:=Option.some.inj h2
  exact cellText_no _ _ _ _ w h1
 | true =>
  rw [if_pos rfl] at h2
  by_cases k1:a0_0=1
  ·subst k1
   rw [if_pos rfl] at h2
   exact cellText_col _ _ _ r w h1 h2 hT
  rw [if_neg k1] at h2
  by_cases k2:a0_0=2
  ·subst k2
   rw [if_pos rfl] at h2
   exact cellText_num _ _ _ r w h1 h2 hT
  rw [if_neg k2] at h2
  by_cases k3:a0_0=3
  ·subst k3
   rw [if_pos rfl] at h2
   exact cellText_sum _ _ _ r w h1 h2 hT
  rw [if_neg k3] at h2
  cases h2

end Go.Proofs.YthmcbekemnabdaaDoor.PFnExactTestRead
