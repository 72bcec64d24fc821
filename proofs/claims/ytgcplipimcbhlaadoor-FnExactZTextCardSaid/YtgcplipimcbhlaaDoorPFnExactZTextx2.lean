-- Written by wip/tools/pp.py, a program of this session over the kit's printer: not the kit's own print
import Derived.Test.YtgcplipimcbhlaaDoorPFnExactZTextx0
namespace Go.Proofs.YtgcplipimcbhlaaDoor.PFnExactZText
open Go.RowKit Go.Proofs.YtgcplipimcbhlaaDoorW.PrintWords Go.Proofs.YtgcplipimcbhlaaDoorW.PrintLast Go.Proofs.YtgcplipimcbhlaaDoorW.PrintMore
attribute [local go_sem] max2_int min2_int max_two min_two max_three min_three max_four min_four   -- for this text's walks alone
set_option linter.unusedVariables false
set_option linter.unusedSimpArgs false

/-! ### spec_l12Dec: function 43 -/
mutual
def spec_l12Dec.l0:Nat→Int→ByteArray→Option (ByteArray)
 | 0,_,_=>none
 | k + 1,x0,x3=>if x0 > 9 then ((some (([(wrap64 (48 + (Int.tmod x0 10))) % 256]:List Int):List Int)).bind fun y114=>(if (strOfNums y114).size + x3.size≤9223372036854775807 then (spec_l12Dec.l0 k (wrap64 (Int.tdiv x0 10)) ((strOfNums y114) ++ x3)) else (none))) else ((some (([(wrap64 (48 + x0)) % 256]:List Int):List Int)).bind fun y117=>(if (strOfNums y117).size + x3.size≤9223372036854775807 then (some ((strOfNums y117) ++ x3)) else (none)))
def spec_l12Dec.f:Nat→Int→Option (ByteArray)
 | 0,_=>none
 | k + 1,a0=>if a0 < (-9223372036854775807) then (some (⟨#[45,57,50,50,51,51,55,50,48,51,54,56,53,52,55,55,53,56,48,56]⟩:ByteArray)) else (if a0 < 0 then ((spec_l12Dec.f k (wrap64 (-a0))).bind fun t113=>(if 1 + t113.size≤9223372036854775807 then (some ((⟨#[45]⟩:ByteArray) ++ t113)) else (none))) else (spec_l12Dec.l0 k a0 (⟨#[]⟩:ByteArray)))
end
theorem spec_l12Dec.mono_l : ∀ k,(∀ y0,LeO (spec_l12Dec.f k y0) (spec_l12Dec.f (k + 1) y0))∧(∀ y0 y1,LeO (spec_l12Dec.l0 k y0 y1) (spec_l12Dec.l0 (k + 1) y0 y1))
 | 0=>⟨fun _ r h=>by simp [spec_l12Dec.f] at h,fun _ _ r h=>by simp [spec_l12Dec.l0] at h⟩
 | k + 1=>by
  obtain ⟨ih0,ih1⟩:=spec_l12Dec.mono_l k
  refine ⟨?_,?_⟩
  ·intro y0
   unfold spec_l12Dec.f
   repeat' first
   | (with_reducible exact ih0 _)
   | (with_reducible exact ih1 _ _)
   | (with_reducible exact LeO.refl _)
   | (with_reducible exact LeO.none _)
   | (with_reducible refine LeO.ite ?_ ?_)
   | (with_reducible refine LeO.bind ?_ (fun _=>?_))
   | exact LeO.none _
   | refine LeO.ite ?_ ?_
   | refine LeO.bind ?_ (fun _=>?_)
  ·intro y0 y1
   unfold spec_l12Dec.l0
   repeat' first
   | (with_reducible exact ih0 _)
   | (with_reducible exact ih1 _ _)
   | (with_reducible exact LeO.refl _)
   | (with_reducible exact LeO.none _)
   | (with_reducible refine LeO.ite ?_ ?_)
   | (with_reducible refine LeO.bind ?_ (fun _=>?_))
   | exact LeO.none _
   | refine LeO.ite ?_ ?_
   | refine LeO.bind ?_ (fun _=>?_)
theorem spec_l12Dec.mono : ∀ a0 k,LeO (spec_l12Dec.f k a0) (spec_l12Dec.f (k + 1) a0):=by
 intro a0 k
 obtain ⟨ih0,ih1⟩:=spec_l12Dec.mono_l k
 exact ih0 a0
set_option maxHeartbeats 8000000 in
set_option maxRecDepth 100000 in
theorem spec_l12Dec.calls (k:Nat) : ∀ (a0:Int) (r:ByteArray) (w:World) (h:spec_l12Dec.f k a0=some r),
  Calls Tryd.prog 43 #[.int .i64 a0] w fun e w'=>e=.returned (.string r)∧Below w.heap.size w w':=by
 induction k using Nat.strongRecOn with
 | _ k ih =>
 intro a0 r w h
 cases k with
 | zero=>exact absurd h (by simp [spec_l12Dec.f])
 | succ k =>
 simp only [spec_l12Dec.f] at h
 have HB:=Aside0.mk (Below.refl w.heap.size w)
 have H:(if a0 < (-9223372036854775807) then (some (⟨#[45,57,50,50,51,51,55,50,48,51,54,56,53,52,55,55,53,56,48,56]⟩:ByteArray)) else (if a0 < 0 then ((spec_l12Dec.f k (wrap64 (-a0))).bind fun t113=>(if 1 + t113.size≤9223372036854775807 then (some ((⟨#[45]⟩:ByteArray) ++ t113)) else (none))) else (spec_l12Dec.l0 k a0 (⟨#[]⟩:ByteArray))))=some r:=h
 clear h
 by_cases c2:a0 < (-9223372036854775807)
 ·rw [if_pos c2] at H
  have c2b0:decide (a0 < (-9223372036854775807))=true:=decide_eq_true c2
  clear c2
  obtain rfl:=Option.some.inj H
  go_enter Tryd.func43,Tryd.ntmps43
  go_wp2
  go_ret
  exact ⟨by first|rfl|(simp [errW_none,errW_some] <;> rfl)|(simp [*,errW_none,errW_some] <;> rfl),zhb⟩
 ·rw [if_neg c2] at H
  have c2b0:decide (a0 < (-9223372036854775807))=false:=decide_eq_false c2
  clear c2
  by_cases c3:a0 < 0
  ·rw [if_pos c3] at H
   have c3b0:decide (a0 < 0)=true:=decide_eq_true c3
   clear c3
   replace H:=Option.bind_eq_some_iff.mp H
   obtain ⟨t113,A40,H⟩:=H
   (try dsimp only at H)
   have A4:=Aside0.mk A40
   clear A40
   by_cases c5:1 + t113.size≤9223372036854775807
   ·rw [if_pos c5] at H
    have c5b0:=eq_true c5
    have c5b1:decide (1 + t113.size≤9223372036854775807)=true:=decide_eq_true c5
    try have c5b2:(9223372036854775807 < 1 + t113.size)=False:=eq_false (Nat.not_lt.2 c5)
    obtain rfl:=Option.some.inj H
    go_enter Tryd.func43,Tryd.ntmps43
    go_wp2_with (first|((with_reducible refine gate_callee (f:=43) rfl ?_);refine goesL_ (some 10) rfl rfl Tryd.func43 (by kernel_rfl) rfl #[.int .i64 (wrap64 (-a0))] rfl zar ?_;(with_reducible refine (ih k (by omega) (wrap64 (-a0)) t113 _ A4.out).mono ?_);rintro e w6 ⟨rfl,hb⟩;refine ⟨_,rfl,?_⟩;have n0_:=Aside0.mk (below_step zhb hb);clear HB;have HB:=n0_;clear n0_;(try clear hb);(try clear hb2);(try clear hk);(try clear hi)))
    go_ret
    exact ⟨by first|rfl|(simp [errW_none,errW_some] <;> rfl)|(simp [*,errW_none,errW_some] <;> rfl),zhb⟩
   ·rw [if_neg c5] at H
    exact absurd H (by simp)
  ·rw [if_neg c3] at H
   have c3b0:decide (a0 < 0)=false:=decide_eq_false c3
   clear c3
   have H':=Aside0.mk H
   clear H
   go_enter Tryd.func43,Tryd.ntmps43
   go_wp2
   go_loopg [0,3] k (fun kq v0 v3 w'=>∃ (x0_1:Int) (x3_1:ByteArray),v0=.int .i64 x0_1∧v3=.string x3_1∧Aside0 (spec_l12Dec.l0 kq x0_1 x3_1=some r)∧Aside0 (kq≤k)∧Aside0 (Below w.heap.size w w'))
   case atStart=>exact ⟨(a0),((⟨#[]⟩:ByteArray)),(by first|rfl|(simp;done)|(simp [*];done)),(by first|rfl|(simp;done)|(simp [*];done)),H',⟨Nat.le_refl _⟩,⟨zhb⟩⟩
   case round =>
    clear H'
    try clear c2
    try clear c2b0
    try clear p2
    try clear c3
    try clear c3b0
    try clear c4
    try clear c5
    try clear c5b0
    try clear c5b1
    try clear c5b2
    try clear p6
    obtain ⟨x0_1,x3_1,rfl,rfl,HA,HK1,HB⟩:=hrel
    cases gk with
    | zero=>exact absurd HA.out (by simp [spec_l12Dec.l0])
    | succ k1 =>
     have H:=HA.out
     clear HA
     simp only [spec_l12Dec.l0] at H
     by_cases c7:x0_1 > 9
     ·rw [if_pos c7] at H
      have c7b0:decide (9 < x0_1)=true:=decide_eq_true c7
      clear c7
      obtain ⟨y114,hy114⟩ : ∃ y_:List Int,y_=(([(wrap64 (48 + (Int.tmod x0_1 10))) % 256]:List Int)):=⟨_,rfl⟩
      replace H:(if (strOfNums y114).size + x3_1.size≤9223372036854775807 then (spec_l12Dec.l0 k1 (wrap64 (Int.tdiv x0_1 10)) ((strOfNums y114) ++ x3_1)) else (none))=some r:=by first|(rw [hy114];with_reducible exact H)|(have H2_:=(Option.bind_some _ _).symm.trans H;rw [hy114];with_reducible exact H2_)|(have H2_:=(Option.bind_some _ _).symm.trans H;with_reducible exact H2_)|with_reducible exact H|(rw [hy114];exact H)|exact H
      have Ny114:=Aside0.mk hy114
      clear hy114
      by_cases c8:(strOfNums y114).size + x3_1.size≤9223372036854775807
      ·rw [if_pos c8] at H
       have c8b0:=eq_true c8
       have c8b1:decide ((strOfNums y114).size + x3_1.size≤9223372036854775807)=true:=decide_eq_true c8
       try have c8b2:(9223372036854775807 < (strOfNums y114).size + x3_1.size)=False:=eq_false (Nat.not_lt.2 c8)
       have H':=Aside0.mk H
       clear H
       go_wp2_with (first|((with_reducible refine gate_dst (N:=18) rfl ?_);refine Kd.R_lit (Kd.int .u8) _ 5 ?hg (N:=18) ?hd (xs:=([(wrap64 (48 + (Int.tmod x0_1 10))) % 256]:List Int)) (inner:=[.int .u8 ((wrap64 (48 + (Int.tmod x0_1 10))) % 256)]) (ok:=fun _=>True) (okp:=fun _=>True) ?hr ?hp (fun _ hk=>hk) trivial (Below.refl _ _) (Nat.le_refl _) (by simp) ?_;(case hd=>rfl);(case hg=>rfl);(case hr=>first|(go_simp;done)|(go_simp;rfl));(case hp=>exact (Reps.one (show Kd.M (Kd.int .u8) _ _ _ ((wrap64 (48 + (Int.tmod x0_1 10))) % 256) [.int .u8 ((wrap64 (48 + (Int.tmod x0_1 10))) % 256)] from rfl) (Reps.none _ _)));intro v115 w9 ho10 hb hg_ hnew_;clear hg_ hnew_;(first|rw [← Ny114.out] at ho10|(simp only [Int.reduceToNat] at ho10;rw [← Ny114.out] at ho10));have n0_:=Aside0.mk (Kd.R_lower ho10 (below_size zhb));have n1_:=Aside0.mk (below_step zhb hb);clear HB;have HO116:=n0_;have HB:=n1_;clear n0_ n1_;clear hb ho10;have hcv11:=own_string (P:=Tryd.prog) Tryd.underlying38 Tryd.underlying5 Tryd.underlying9 (Kd.own_of_R HO116.out)))
       go_roundg k1
       case measure=>have:=HK1.out;omega
       case rel=>exact ⟨(wrap64 (Int.tdiv x0_1 10)),((strOfNums y114) ++ x3_1),(by first|rfl|(simp;done)|(simp [*];done)),(by first|rfl|(simp;done)|(simp [*];done)),H',⟨by have:=HK1.out;omega⟩,⟨zhb⟩⟩
      ·rw [if_neg c8] at H
       exact absurd H (by simp)
     ·rw [if_neg c7] at H
      have c7b0:decide (9 < x0_1)=false:=decide_eq_false c7
      clear c7
      obtain ⟨y117,hy117⟩ : ∃ y_:List Int,y_=(([(wrap64 (48 + x0_1)) % 256]:List Int)):=⟨_,rfl⟩
      replace H:(if (strOfNums y117).size + x3_1.size≤9223372036854775807 then (some ((strOfNums y117) ++ x3_1)) else (none))=some r:=by first|(rw [hy117];with_reducible exact H)|(have H2_:=(Option.bind_some _ _).symm.trans H;rw [hy117];with_reducible exact H2_)|(have H2_:=(Option.bind_some _ _).symm.trans H;with_reducible exact H2_)|with_reducible exact H|(rw [hy117];exact H)|exact H
      have Ny117:=Aside0.mk hy117
      clear hy117
      by_cases c12:(strOfNums y117).size + x3_1.size≤9223372036854775807
      ·rw [if_pos c12] at H
       have c12b0:=eq_true c12
       have c12b1:decide ((strOfNums y117).size + x3_1.size≤9223372036854775807)=true:=decide_eq_true c12
       try have c12b2:(9223372036854775807 < (strOfNums y117).size + x3_1.size)=False:=eq_false (Nat.not_lt.2 c12)
       obtain rfl:=Option.some.inj H
       go_wp2_with (first|((with_reducible refine gate_dst (N:=27) rfl ?_);refine Kd.R_lit (Kd.int .u8) _ 5 ?hg (N:=27) ?hd (xs:=([(wrap64 (48 + x0_1)) % 256]:List Int)) (inner:=[.int .u8 ((wrap64 (48 + x0_1)) % 256)]) (ok:=fun _=>True) (okp:=fun _=>True) ?hr ?hp (fun _ hk=>hk) trivial (Below.refl _ _) (Nat.le_refl _) (by simp) ?_;(case hd=>rfl);(case hg=>rfl);(case hr=>first|(go_simp;done)|(go_simp;rfl));(case hp=>exact (Reps.one (show Kd.M (Kd.int .u8) _ _ _ ((wrap64 (48 + x0_1)) % 256) [.int .u8 ((wrap64 (48 + x0_1)) % 256)] from rfl) (Reps.none _ _)));intro v118 w13 ho14 hb hg_ hnew_;clear hg_ hnew_;(first|rw [← Ny117.out] at ho14|(simp only [Int.reduceToNat] at ho14;rw [← Ny117.out] at ho14));have n0_:=Aside0.mk (Kd.R_lower ho14 (below_size zhb));have n1_:=Aside0.mk (below_step zhb hb);clear HB;have HO119:=n0_;have HB:=n1_;clear n0_ n1_;clear hb ho14;have hcv15:=own_string (P:=Tryd.prog) Tryd.underlying38 Tryd.underlying5 Tryd.underlying9 (Kd.own_of_R HO119.out)))
       go_ret
       exact ⟨by first|rfl|(simp [errW_none,errW_some] <;> rfl)|(simp [*,errW_none,errW_some] <;> rfl),zhb⟩
      ·rw [if_neg c12] at H
       exact absurd H (by simp)

/-! ### spec_RowText: function 14 -/
def spec_RowText.l0:Nat→List Int→ByteArray→Int→Option (ByteArray)
 | 0,_,_,_=>none
 | k + 1,x0,x3,x4=>if x4 < (x0.length:Int) then (if x4 > 0 then (if x3.size + 1≤9223372036854775807 then (if 0≤x4 then ((spec_l12Dec.f k (rd x0 x4)).bind fun t121=>(if (x3 ++ (⟨#[44]⟩:ByteArray)).size + t121.size≤9223372036854775807 then (spec_RowText.l0 k x0 ((x3 ++ (⟨#[44]⟩:ByteArray)) ++ t121) (wrap64 (x4 + 1))) else (none))) else (none)) else (none)) else (if 0≤x4 then ((spec_l12Dec.f k (rd x0 x4)).bind fun t123=>(if x3.size + t123.size≤9223372036854775807 then (spec_RowText.l0 k x0 (x3 ++ t123) (wrap64 (x4 + 1))) else (none))) else (none))) else (some x3)
def spec_RowText.f (k:Nat) (l0:List Int):Option (ByteArray):=spec_RowText.l0 k l0 (⟨#[]⟩:ByteArray) 0
theorem spec_RowText.mono_l : ∀ k,(∀ y0 y1 y2,LeO (spec_RowText.l0 k y0 y1 y2) (spec_RowText.l0 (k + 1) y0 y1 y2))
 | 0=>fun _ _ _ r h=>by simp [spec_RowText.l0] at h
 | k + 1=>by
  have ih0:=spec_RowText.mono_l k
  ·intro y0 y1 y2
   unfold spec_RowText.l0
   repeat' first
   | (with_reducible exact ih0 _ _ _)
   | (with_reducible exact spec_l12Dec.mono _ _)
   | (with_reducible exact LeO.refl _)
   | (with_reducible exact LeO.none _)
   | (with_reducible refine LeO.ite ?_ ?_)
   | (with_reducible refine LeO.bind ?_ (fun _=>?_))
   | exact LeO.none _
   | refine LeO.ite ?_ ?_
   | refine LeO.bind ?_ (fun _=>?_)
theorem spec_RowText.mono : ∀ a0 k,LeO (spec_RowText.f k a0) (spec_RowText.f (k + 1) a0):=by
 intro a0 k
 have ih0:=spec_RowText.mono_l k
 unfold spec_RowText.f
 repeat' first
   | (with_reducible exact ih0 _ _ _)
   | (with_reducible exact spec_l12Dec.mono _ _)
   | (with_reducible exact LeO.refl _)
   | (with_reducible exact LeO.none _)
   | (with_reducible refine LeO.ite ?_ ?_)
   | (with_reducible refine LeO.bind ?_ (fun _=>?_))
   | exact LeO.none _
   | refine LeO.ite ?_ ?_
   | refine LeO.bind ?_ (fun _=>?_)
set_option maxHeartbeats 8000000 in
set_option maxRecDepth 100000 in
theorem spec_RowText.calls (k:Nat) (A0:Option Addr) (c0:Nat) (l0:List Int) (r:ByteArray) (w:World) (hr0:Kd.C (Kd.int .i64) w A0 l0.length l0) (hc0:l0.length≤c0) (h:spec_RowText.f k l0=some r) :
  Calls Tryd.prog 14 #[.slice A0 l0.length c0] w fun e w'=>e=.returned (.string r)∧Below w.heap.size w w':=by
 have HR0:=Aside0.mk hr0
 have HC0:=Aside0.mk hc0
 clear hr0 hc0
 have HB:=Aside0.mk (Below.refl w.heap.size w)
 have H:(spec_RowText.l0 k l0 (⟨#[]⟩:ByteArray) 0)=some r:=h
 clear h
 have H':=Aside0.mk H
 clear H
 go_enter Tryd.func14,Tryd.ntmps14
 go_wp2
 go_loopg [3,4] k (fun kq v3 v4 w'=>∃ (x3_1:ByteArray) (x4_1:Int),v3=.string x3_1∧v4=.int .i64 x4_1∧Aside0 (spec_RowText.l0 kq l0 x3_1 x4_1=some r)∧Aside0 (kq≤k)∧Aside0 (Below w.heap.size w w'))
 case atStart=>exact ⟨((⟨#[]⟩:ByteArray)),(0),(by first|rfl|(simp;done)|(simp [*];done)),(by first|rfl|(simp;done)|(simp [*];done)),H',⟨Nat.le_refl _⟩,⟨zhb⟩⟩
 case round =>
  clear H'
  try clear c1
  obtain ⟨x3_1,x4_1,rfl,rfl,HA,HK1,HB⟩:=hrel
  cases gk with
  | zero=>exact absurd HA.out (by simp [spec_RowText.l0])
  | succ k1 =>
   have H:=HA.out
   clear HA
   simp only [spec_RowText.l0] at H
   by_cases c2:x4_1 < (l0.length:Int)
   ·rw [if_pos c2] at H
    have c2b0:decide (x4_1 < (l0.length:Int))=true:=decide_eq_true c2
    clear c2
    by_cases c3:x4_1 > 0
    ·rw [if_pos c3] at H
     have c3b0:decide (0 < x4_1)=true:=decide_eq_true c3
     clear c3
     by_cases c4:x3_1.size + 1≤9223372036854775807
     ·rw [if_pos c4] at H
      have c4b0:=eq_true c4
      have c4b1:decide (x3_1.size + 1≤9223372036854775807)=true:=decide_eq_true c4
      try have c4b2:(9223372036854775807 < x3_1.size + 1)=False:=eq_false (Nat.not_lt.2 c4)
      by_cases c5:0≤x4_1
      ·rw [if_pos c5] at H
       have c5b0:decide (0≤x4_1)=true:=decide_eq_true c5
       clear c5
       replace H:=Option.bind_eq_some_iff.mp H
       obtain ⟨t121,A60,H⟩:=H
       (try dsimp only at H)
       have A6:=Aside0.mk A60
       clear A60
       by_cases c7:(x3_1 ++ (⟨#[44]⟩:ByteArray)).size + t121.size≤9223372036854775807
       ·rw [if_pos c7] at H
        have c7b0:=eq_true c7
        have c7b1:decide ((x3_1 ++ (⟨#[44]⟩:ByteArray)).size + t121.size≤9223372036854775807)=true:=decide_eq_true c7
        (try (have c7b3:x3_1.size + 1 + t121.size≤9223372036854775807:=by have h_:=c7;simp only [ByteArray.size_append] at h_;exact h_))
        (try have c7b4:=eq_true c7b3)
        (try have c7b5:decide (x3_1.size + 1 + t121.size≤9223372036854775807)=true:=decide_eq_true c7b3)
        (try have c7b6:(9223372036854775807 < x3_1.size + 1 + t121.size)=False:=eq_false (Nat.not_lt.2 c7b3))
        try have c7b2:(9223372036854775807 < (x3_1 ++ (⟨#[44]⟩:ByteArray)).size + t121.size)=False:=eq_false (Nat.not_lt.2 c7)
        have H':=Aside0.mk H
        clear H
        have p120:0≤(x4_1:Int):=zod
        have q120:x4_1 < (l0.length:Int):=zod
        obtain ⟨ad120,e120,hx120_0⟩:=Kd.at_int HR0.out x4_1 p120 q120
        cases e120
        replace hx120_0:=(HB.out.cell (World.block_lt_of_cell? w _ hx120_0)).trans hx120_0
        replace p120:=eq_true p120
        replace q120:=eq_true q120
        go_wp2_with (first|((with_reducible refine gate_callee (f:=43) rfl ?_);refine goesL_ (some 20) rfl rfl Tryd.func43 (by kernel_rfl) rfl #[.int .i64 (rd l0 x4_1)] rfl zar ?_;(with_reducible refine (spec_l12Dec.calls k1 (rd l0 x4_1) t121 _ A6.out).mono ?_);rintro e w8 ⟨rfl,hb⟩;refine ⟨_,rfl,?_⟩;have n0_:=Aside0.mk (below_step zhb hb);clear HB;have HB:=n0_;clear n0_;(try clear hb);(try clear hb2);(try clear hk);(try clear hi)))
        go_roundg k1
        case measure=>have:=HK1.out;omega
        case rel=>exact ⟨((x3_1 ++ (⟨#[44]⟩:ByteArray)) ++ t121),(wrap64 (x4_1 + 1)),(by first|rfl|(simp;done)|(simp [*];done)),(by first|rfl|(simp;done)|(simp [*];done)),H',⟨by have:=HK1.out;omega⟩,⟨zhb⟩⟩
       ·rw [if_neg c7] at H
        exact absurd H (by simp)
      ·rw [if_neg c5] at H
       exact absurd H (by simp)
     ·rw [if_neg c4] at H
      exact absurd H (by simp)
    ·rw [if_neg c3] at H
     have c3b0:decide (0 < x4_1)=false:=decide_eq_false c3
     clear c3
     by_cases c9:0≤x4_1
     ·rw [if_pos c9] at H
      have c9b0:decide (0≤x4_1)=true:=decide_eq_true c9
      clear c9
      replace H:=Option.bind_eq_some_iff.mp H
      obtain ⟨t123,A100,H⟩:=H
      (try dsimp only at H)
      have A10:=Aside0.mk A100
      clear A100
      by_cases c11:x3_1.size + t123.size≤9223372036854775807
      ·rw [if_pos c11] at H
       have c11b0:=eq_true c11
       have c11b1:decide (x3_1.size + t123.size≤9223372036854775807)=true:=decide_eq_true c11
       try have c11b2:(9223372036854775807 < x3_1.size + t123.size)=False:=eq_false (Nat.not_lt.2 c11)
       have H':=Aside0.mk H
       clear H
       have p122:0≤(x4_1:Int):=zod
       have q122:x4_1 < (l0.length:Int):=zod
       obtain ⟨ad122,e122,hx122_0⟩:=Kd.at_int HR0.out x4_1 p122 q122
       cases e122
       replace hx122_0:=(HB.out.cell (World.block_lt_of_cell? w _ hx122_0)).trans hx122_0
       replace p122:=eq_true p122
       replace q122:=eq_true q122
       go_wp2_with (first|((with_reducible refine gate_callee (f:=43) rfl ?_);refine goesL_ (some 20) rfl rfl Tryd.func43 (by kernel_rfl) rfl #[.int .i64 (rd l0 x4_1)] rfl zar ?_;(with_reducible refine (spec_l12Dec.calls k1 (rd l0 x4_1) t123 _ A10.out).mono ?_);rintro e w12 ⟨rfl,hb⟩;refine ⟨_,rfl,?_⟩;have n0_:=Aside0.mk (below_step zhb hb);clear HB;have HB:=n0_;clear n0_;(try clear hb);(try clear hb2);(try clear hk);(try clear hi)))
       go_roundg k1
       case measure=>have:=HK1.out;omega
       case rel=>exact ⟨(x3_1 ++ t123),(wrap64 (x4_1 + 1)),(by first|rfl|(simp;done)|(simp [*];done)),(by first|rfl|(simp;done)|(simp [*];done)),H',⟨by have:=HK1.out;omega⟩,⟨zhb⟩⟩
      ·rw [if_neg c11] at H
       exact absurd H (by simp)
     ·rw [if_neg c9] at H
      exact absurd H (by simp)
   ·rw [if_neg c2] at H
    have c2b0:decide (x4_1 < (l0.length:Int))=false:=decide_eq_false c2
    clear c2
    obtain rfl:=Option.some.inj H
    go_wp2
    go_ret
    exact ⟨by first|rfl|(simp [errW_none,errW_some] <;> rfl)|(simp [*,errW_none,errW_some] <;> rfl),zhb⟩

/-! ### spec_ZText: function 19 -/
def spec_ZText.l0:Nat→List (S53)→ByteArray→Int→Option (ByteArray)
 | 0,_,_,_=>none
 | k + 1,x0,x3,x4=>if x4 < (x0.length:Int) then (if x4 > 0 then (if x3.size + 1≤9223372036854775807 then (if 0≤x4 then ((spec_RowText.f k ((rd_T53 x0 x4).f0)).bind fun t125=>(if (x3 ++ (⟨#[32]⟩:ByteArray)).size + t125.size≤9223372036854775807 then (if ((x3 ++ (⟨#[32]⟩:ByteArray)) ++ t125).size + 1≤9223372036854775807 then ((spec_l12Dec.f k ((rd_T53 x0 x4).f1)).bind fun t127=>(if (((x3 ++ (⟨#[32]⟩:ByteArray)) ++ t125) ++ (⟨#[42]⟩:ByteArray)).size + t127.size≤9223372036854775807 then (spec_ZText.l0 k x0 ((((x3 ++ (⟨#[32]⟩:ByteArray)) ++ t125) ++ (⟨#[42]⟩:ByteArray)) ++ t127) (wrap64 (x4 + 1))) else (none))) else (none)) else (none))) else (none)) else (none)) else (if 0≤x4 then ((spec_RowText.f k ((rd_T53 x0 x4).f0)).bind fun t129=>(if x3.size + t129.size≤9223372036854775807 then (if (x3 ++ t129).size + 1≤9223372036854775807 then ((spec_l12Dec.f k ((rd_T53 x0 x4).f1)).bind fun t131=>(if ((x3 ++ t129) ++ (⟨#[42]⟩:ByteArray)).size + t131.size≤9223372036854775807 then (spec_ZText.l0 k x0 (((x3 ++ t129) ++ (⟨#[42]⟩:ByteArray)) ++ t131) (wrap64 (x4 + 1))) else (none))) else (none)) else (none))) else (none))) else (some x3)
def spec_ZText.f (k:Nat) (l0:List (S53)):Option (ByteArray):=spec_ZText.l0 k l0 (⟨#[]⟩:ByteArray) 0
theorem spec_ZText.mono_l : ∀ k,(∀ y0 y1 y2,LeO (spec_ZText.l0 k y0 y1 y2) (spec_ZText.l0 (k + 1) y0 y1 y2))
 | 0=>fun _ _ _ r h=>by simp [spec_ZText.l0] at h
 | k + 1=>by
  have ih0:=spec_ZText.mono_l k
  ·intro y0 y1 y2
   unfold spec_ZText.l0
   repeat' first
   | (with_reducible exact ih0 _ _ _)
   | (with_reducible exact spec_RowText.mono _ _)
   | (with_reducible exact spec_l12Dec.mono _ _)
   | (with_reducible exact LeO.refl _)
   | (with_reducible exact LeO.none _)
   | (with_reducible refine LeO.ite ?_ ?_)
   | (with_reducible refine LeO.bind ?_ (fun _=>?_))
   | exact LeO.none _
   | refine LeO.ite ?_ ?_
   | refine LeO.bind ?_ (fun _=>?_)
theorem spec_ZText.mono : ∀ a0 k,LeO (spec_ZText.f k a0) (spec_ZText.f (k + 1) a0):=by
 intro a0 k
 have ih0:=spec_ZText.mono_l k
 unfold spec_ZText.f
 repeat' first
   | (with_reducible exact ih0 _ _ _)
   | (with_reducible exact spec_RowText.mono _ _)
   | (with_reducible exact spec_l12Dec.mono _ _)
   | (with_reducible exact LeO.refl _)
   | (with_reducible exact LeO.none _)
   | (with_reducible refine LeO.ite ?_ ?_)
   | (with_reducible refine LeO.bind ?_ (fun _=>?_))
   | exact LeO.none _
   | refine LeO.ite ?_ ?_
   | refine LeO.bind ?_ (fun _=>?_)
def spec_ZText.T7:Bool × List (List Nat × List Nat):=(true,[([],[]),([],[]),([],[]),([1,2],[1,2]),([3],[3]),([4],[4]),([5],[5]),([0,6],[0,6]),([7],[7]),([],[]),([],[]),([9,10],[9,10]),([11],[11]),([12],[12]),([13,6],[13]),([8,14],[8,14]),([15,14,0,1,2,3,4,5,6,7,8,9,10,11,12,13,14,15],[0,15])])
def spec_ZText.B7:List Nat:=[0,0,0,6,14,30,62,127,255,0,0,1536,3584,7680,15998,32767,65535]
theorem spec_ZText.tab7:rtab .any (opsOf Tryd.f19 7)=spec_ZText.T7:=by kernel_rfl
theorem spec_ZText.bits7:waitsOk spec_ZText.T7.2 spec_ZText.B7=true:=by kernel_rfl
set_option maxHeartbeats 8000000 in
set_option maxRecDepth 100000 in
theorem spec_ZText.calls (k:Nat) (A0:Option Addr) (c0:Nat) (l0:List (S53)) (r:ByteArray) (w:World) (hr0:Kd.C k53 w A0 l0.length l0) (hc0:l0.length≤c0) (h:spec_ZText.f k l0=some r) :
  Calls Tryd.prog 19 #[.slice A0 l0.length c0] w fun e w'=>e=.returned (.string r)∧Below w.heap.size w w':=by
 have HR0:=Aside0.mk hr0
 have HC0:=Aside0.mk hc0
 clear hr0 hc0
 have HB:=Aside0.mk (Below.refl w.heap.size w)
 have H:(spec_ZText.l0 k l0 (⟨#[]⟩:ByteArray) 0)=some r:=h
 clear h
 have H':=Aside0.mk H
 clear H
 go_enter Tryd.func19,Tryd.ntmps19
 go_wp2
 go_loopg [3,4] k (fun kq v3 v4 w'=>∃ (x3_1:ByteArray) (x4_1:Int),v3=.string x3_1∧v4=.int .i64 x4_1∧Aside0 (spec_ZText.l0 kq l0 x3_1 x4_1=some r)∧Aside0 (kq≤k)∧Aside0 (Below w.heap.size w w'))
 case atStart=>exact ⟨((⟨#[]⟩:ByteArray)),(0),(by first|rfl|(simp;done)|(simp [*];done)),(by first|rfl|(simp;done)|(simp [*];done)),H',⟨Nat.le_refl _⟩,⟨zhb⟩⟩
 case round =>
  clear H'
  try clear c1
  obtain ⟨x3_1,x4_1,rfl,rfl,HA,HK1,HB⟩:=hrel
  cases gk with
  | zero=>exact absurd HA.out (by simp [spec_ZText.l0])
  | succ k1 =>
   have H:=HA.out
   clear HA
   simp only [spec_ZText.l0] at H
   by_cases c2:x4_1 < (l0.length:Int)
   ·rw [if_pos c2] at H
    have c2b0:decide (x4_1 < (l0.length:Int))=true:=decide_eq_true c2
    clear c2
    by_cases c3:x4_1 > 0
    ·rw [if_pos c3] at H
     have c3b0:decide (0 < x4_1)=true:=decide_eq_true c3
     clear c3
     by_cases c4:x3_1.size + 1≤9223372036854775807
     ·rw [if_pos c4] at H
      have c4b0:=eq_true c4
      have c4b1:decide (x3_1.size + 1≤9223372036854775807)=true:=decide_eq_true c4
      try have c4b2:(9223372036854775807 < x3_1.size + 1)=False:=eq_false (Nat.not_lt.2 c4)
      by_cases c5:0≤x4_1
      ·rw [if_pos c5] at H
       have c5b0:decide (0≤x4_1)=true:=decide_eq_true c5
       clear c5
       replace H:=Option.bind_eq_some_iff.mp H
       obtain ⟨t125,A60,H⟩:=H
       (try dsimp only at H)
       have A6:=Aside0.mk A60
       clear A60
       by_cases c7:(x3_1 ++ (⟨#[32]⟩:ByteArray)).size + t125.size≤9223372036854775807
       ·rw [if_pos c7] at H
        have c7b0:=eq_true c7
        have c7b1:decide ((x3_1 ++ (⟨#[32]⟩:ByteArray)).size + t125.size≤9223372036854775807)=true:=decide_eq_true c7
        (try (have c7b3:x3_1.size + 1 + t125.size≤9223372036854775807:=by have h_:=c7;simp only [ByteArray.size_append] at h_;exact h_))
        (try have c7b4:=eq_true c7b3)
        (try have c7b5:decide (x3_1.size + 1 + t125.size≤9223372036854775807)=true:=decide_eq_true c7b3)
        (try have c7b6:(9223372036854775807 < x3_1.size + 1 + t125.size)=False:=eq_false (Nat.not_lt.2 c7b3))
        try have c7b2:(9223372036854775807 < (x3_1 ++ (⟨#[32]⟩:ByteArray)).size + t125.size)=False:=eq_false (Nat.not_lt.2 c7)
        by_cases c8:((x3_1 ++ (⟨#[32]⟩:ByteArray)) ++ t125).size + 1≤9223372036854775807
        ·rw [if_pos c8] at H
         have c8b0:=eq_true c8
         have c8b1:decide (((x3_1 ++ (⟨#[32]⟩:ByteArray)) ++ t125).size + 1≤9223372036854775807)=true:=decide_eq_true c8
         (try (have c8b3:x3_1.size + 1 + t125.size + 1≤9223372036854775807:=by have h_:=c8;simp only [ByteArray.size_append] at h_;exact h_))
         (try have c8b4:=eq_true c8b3)
         (try have c8b5:decide (x3_1.size + 1 + t125.size + 1≤9223372036854775807)=true:=decide_eq_true c8b3)
         (try have c8b6:(9223372036854775807 < x3_1.size + 1 + t125.size + 1)=False:=eq_false (Nat.not_lt.2 c8b3))
         try have c8b2:(9223372036854775807 < ((x3_1 ++ (⟨#[32]⟩:ByteArray)) ++ t125).size + 1)=False:=eq_false (Nat.not_lt.2 c8)
         replace H:=Option.bind_eq_some_iff.mp H
         obtain ⟨t127,A90,H⟩:=H
         (try dsimp only at H)
         have A9:=Aside0.mk A90
         clear A90
         by_cases c10:(((x3_1 ++ (⟨#[32]⟩:ByteArray)) ++ t125) ++ (⟨#[42]⟩:ByteArray)).size + t127.size≤9223372036854775807
         ·rw [if_pos c10] at H
          have c10b0:=eq_true c10
          have c10b1:decide ((((x3_1 ++ (⟨#[32]⟩:ByteArray)) ++ t125) ++ (⟨#[42]⟩:ByteArray)).size + t127.size≤9223372036854775807)=true:=decide_eq_true c10
          (try (have c10b3:x3_1.size + 1 + t125.size + 1 + t127.size≤9223372036854775807:=by have h_:=c10;simp only [ByteArray.size_append] at h_;exact h_))
          (try have c10b4:=eq_true c10b3)
          (try have c10b5:decide (x3_1.size + 1 + t125.size + 1 + t127.size≤9223372036854775807)=true:=decide_eq_true c10b3)
          (try have c10b6:(9223372036854775807 < x3_1.size + 1 + t125.size + 1 + t127.size)=False:=eq_false (Nat.not_lt.2 c10b3))
          try have c10b2:(9223372036854775807 < (((x3_1 ++ (⟨#[32]⟩:ByteArray)) ++ t125) ++ (⟨#[42]⟩:ByteArray)).size + t127.size)=False:=eq_false (Nat.not_lt.2 c10)
          have H':=Aside0.mk H
          clear H
          try go_wp2
          have n0_:=Aside0.mk (below_drew1 HB.out)
          clear HB
          have HB:=n0_
          clear n0_
          have p124:0≤(x4_1:Int):=zod
          have q124:x4_1 < (l0.length:Int):=zod
          obtain ⟨ad124,A124_0,c124_0,e124,hx124_0,hx124_1,hl124_0,hi124_0⟩:=at_T53 HR0.out x4_1 p124 q124
          have hw124_1:=hx124_1
          have hw124_0:=hx124_0
          cases e124
          replace hx124_0:=(HB.out.cell (World.block_lt_of_cell? w _ hx124_0)).trans hx124_0
          replace hx124_1:=(HB.out.cell (World.block_lt_of_cell? w _ hx124_1)).trans hx124_1
          have HR124_0:=Aside0.mk hi124_0
          have HC124_0:=Aside0.mk hl124_0
          clear hi124_0 hl124_0
          replace p124:=eq_true p124
          replace q124:=eq_true q124
          have p126:0≤(x4_1:Int):=zod
          have q126:x4_1 < (l0.length:Int):=zod
          obtain ⟨ad126,A126_0,c126_0,e126,hx126_0,hx126_1,hl126_0,hi126_0⟩:=at_T53 HR0.out x4_1 p126 q126
          have hw126_1:=hx126_1
          have hw126_0:=hx126_0
          obtain rfl:ad124=ad126:=(by injection e126)
          replace hx126_0:=(HB.out.cell (World.block_lt_of_cell? w _ hx126_0)).trans hx126_0
          replace hx126_1:=(HB.out.cell (World.block_lt_of_cell? w _ hx126_1)).trans hx126_1
          have HR126_0:=Aside0.mk hi126_0
          have HC126_0:=Aside0.mk hl126_0
          clear hi126_0 hl126_0
          replace p126:=eq_true p126
          replace q126:=eq_true q126
          have ea_:=Option.some.inj (hx124_0.symm.trans hx126_0)
          injection ea_ with ea_ en_ ec_
          subst ea_
          subst ec_
          clear en_
          refine start_ (n:=17) (S:=fun w'=>w'.cell? (ad124.add ((x4_1).toNat * 2))=some (.slice A124_0 ((rd_T53 l0 x4_1).f0).length c124_0)∧w'.cell? ⟨(ad124.add ((x4_1).toNat * 2)).block,(ad124.add ((x4_1).toNat * 2)).off + 1,none⟩=some (.int .i64 ((rd_T53 l0 x4_1).f1))∧w'.cell? (ad124.add ((x4_1).toNat * 2))=some (.slice A124_0 ((rd_T53 l0 x4_1).f0).length c124_0)∧w'.cell? ⟨(ad124.add ((x4_1).toNat * 2)).block,(ad124.add ((x4_1).toNat * 2)).off + 1,none⟩=some (.int .i64 ((rd_T53 l0 x4_1).f1))) (ds:=[]) #[X,X,X,X,X,X,X,X,X,X,X,X,X,X,X,X,X] (by kernel_rfl) rfl rfl ⟨((HB.out.cell (World.block_lt_of_cell? w _ hw124_0)).trans hw124_0),((HB.out.cell (World.block_lt_of_cell? w _ hw124_1)).trans hw124_1),((HB.out.cell (World.block_lt_of_cell? w _ hw126_0)).trans hw126_0),((HB.out.cell (World.block_lt_of_cell? w _ hw126_1)).trans hw126_1)⟩ (fun hHeld=>?_);refine with_tabW spec_ZText.tab7 spec_ZText.bits7 (fun HT_ HW_=>?_)
          generalize wr.drew=w11 at HB HR124_0 HR126_0 hx124_0 hx124_1 hx126_0 hx126_1 hHeld ⊢
          refine pure_ (i:=0) (N:=some 15) (v:=?_) (a':=?_) #[Y,X,X,X,X,X,X,X,X,X,X,X,X,X,X,X,X] rfl rfl zan (fun _ _ _ h=>h) (Or.inl ⟨by rfl,?_⟩) ?_ ?_
          rotate_left
          ·intro w'
           go_simp
           with_reducible rfl
          rotate_left
          ·simp only [Act.put,zp1,zp2,zp3,i64_w,i32_w]
           rfl
          refine pure_ (i:=1) (N:=some 16) (v:=?_) (a':=?_) #[Y,Y,X,X,X,X,X,X,X,X,X,X,X,X,X,X,X] rfl rfl zan (fun _ _ _ h=>h) (Or.inl ⟨by rfl,?_⟩) ?_ ?_
          rotate_left
          ·intro w'
           go_simp
           with_reducible rfl
          rotate_left
          ·simp only [Act.put,zp1,zp2,zp3,i64_w,i32_w]
           rfl
          refine pure_ (i:=2) (N:=some 17) (v:=?_) (a':=?_) #[Y,Y,Y,X,X,X,X,X,X,X,X,X,X,X,X,X,X] rfl rfl zan (fun _ _ _ h=>h) (Or.inl ⟨by rfl,?_⟩) ?_ ?_
          rotate_left
          ·intro w'
           go_simp
           with_reducible rfl
          rotate_left
          ·simp only [Act.put,zp1,zp2,zp3,i64_w,i32_w]
           rfl
          refine pure_ (i:=3) (N:=some 18) (v:=?_) (a':=?_) #[Y,Y,Y,Y,X,X,X,X,X,X,X,X,X,X,X,X,X] rfl rfl zan (fun _ _ _ h=>h) (Or.inl ⟨by rfl,?_⟩) ?_ ?_
          rotate_left
          ·intro w'
           go_simp
           with_reducible rfl
          rotate_left
          ·simp only [Act.put,zp1,zp2,zp3,i64_w,i32_w]
           rfl
          refine pure_ (i:=4) (N:=some 19) (v:=?_) (a':=?_) #[Y,Y,Y,Y,Y,X,X,X,X,X,X,X,X,X,X,X,X] rfl rfl zan (fun _ _ _ h=>h) (Or.inl ⟨by rfl,?_⟩) ?_ ?_
          rotate_left
          ·intro w'
           go_simp
           with_reducible rfl
          rotate_left
          ·simp only [Act.put,zp1,zp2,zp3,i64_w,i32_w]
           rfl
          refine pure_ (i:=9) (N:=some 24) (v:=?_) (a':=?_) #[Y,Y,Y,Y,Y,X,X,X,X,Y,X,X,X,X,X,X,X] rfl rfl zan (fun _ _ _ h=>h) (Or.inl ⟨by rfl,?_⟩) ?_ ?_
          rotate_left
          ·intro w'
           go_simp
           with_reducible rfl
          rotate_left
          ·simp only [Act.put,zp1,zp2,zp3,i64_w,i32_w]
           rfl
          refine pure_ (i:=10) (N:=some 25) (v:=?_) (a':=?_) #[Y,Y,Y,Y,Y,X,X,X,X,Y,Y,X,X,X,X,X,X] rfl rfl zan (fun _ _ _ h=>h) (Or.inl ⟨by rfl,?_⟩) ?_ ?_
          rotate_left
          ·intro w'
           go_simp
           with_reducible rfl
          rotate_left
          ·simp only [Act.put,zp1,zp2,zp3,i64_w,i32_w]
           rfl
          refine pure_ (i:=11) (N:=some 26) (v:=?_) (a':=?_) #[Y,Y,Y,Y,Y,X,X,X,X,Y,Y,Y,X,X,X,X,X] rfl rfl zan (fun _ _ _ h=>h) (Or.inl ⟨by rfl,?_⟩) ?_ ?_
          rotate_left
          ·intro w'
           go_simp
           with_reducible rfl
          rotate_left
          ·simp only [Act.put,zp1,zp2,zp3,i64_w,i32_w]
           rfl
          refine pure_ (i:=12) (N:=some 27) (v:=?_) (a':=?_) #[Y,Y,Y,Y,Y,X,X,X,X,Y,Y,Y,Y,X,X,X,X] rfl rfl zan (fun _ _ _ h=>h) (Or.inl ⟨by rfl,?_⟩) ?_ ?_
          rotate_left
          ·intro w'
           go_simp
           with_reducible rfl
          rotate_left
          ·simp only [Act.put,zp1,zp2,zp3,i64_w,i32_w]
           rfl
          refine take_ (i:=5) (N:=some 20) (v:=?_) (a':=?_) #[Y,Y,Y,Y,Y,Y,X,X,X,Y,Y,Y,Y,X,X,X,X] rfl rfl ztw (fun _ _ _ h=>h) (Or.inl ⟨by rfl,?_⟩) hHeld ?_ ?_
          rotate_left
          ·rintro w' ⟨s0,s1,s2,s3⟩
           go_simp
           with_reducible rfl
          rotate_left
          ·simp only [Act.put,zp1,zp2,zp3,i64_w,i32_w]
           rfl
          refine take_ (i:=13) (N:=some 28) (v:=?_) (a':=?_) #[Y,Y,Y,Y,Y,Y,X,X,X,Y,Y,Y,Y,Y,X,X,X] rfl rfl ztw (fun _ _ _ h=>h) (Or.inl ⟨by rfl,?_⟩) hHeld ?_ ?_
          rotate_left
          ·rintro w' ⟨s0,s1,s2,s3⟩
           go_simp
           with_reducible rfl
          rotate_left
          ·simp only [Act.put,zp1,zp2,zp3,i64_w,i32_w]
           rfl
          refine one_ (i:=6) (N:=some 21) #[Y,Y,Y,Y,Y,Y,Y,X,X,Y,Y,Y,Y,Y,X,X,X] rfl rfl (one_of HT_.out (by kernel_rfl)) (by decide) (fun K hK=>?_)
          refine goes_ Tryd.func14 (by kernel_rfl) rfl #[.slice A124_0 ((rd_T53 l0 x4_1).f0).length c124_0] (by rfl) rfl rfl zar ?_
          with_reducible refine (spec_RowText.calls k1 _ _ ((rd_T53 l0 x4_1).f0) t125 _ ?side1 ?side2 A6.out).mono ?_
          (case side1=>exact zC (Kd.C_below HR124_0.out HB.out))
          (case side2=>exact HC124_0.out)
          rintro e w12 ⟨rfl,hb⟩
          refine ⟨_,rfl,?_⟩
          have n0_:=Aside0.mk (below_step zhb hb)
          clear HB
          have HB:=n0_
          clear n0_
          (try clear hb)
          (try clear hb2)
          (try clear hk)
          (try clear hi)
          refine hK.out _ _ ⟨((HB.out.cell (World.block_lt_of_cell? w _ hw124_0)).trans hw124_0),((HB.out.cell (World.block_lt_of_cell? w _ hw124_1)).trans hw124_1),((HB.out.cell (World.block_lt_of_cell? w _ hw126_0)).trans hw126_0),((HB.out.cell (World.block_lt_of_cell? w _ hw126_1)).trans hw126_1)⟩ (fun hHeld=>?_)
          clear hK K
          refine norm_ (a':=?_) ?_ ?_
          rotate_left
          ·show Act.put _ (some 21) _=_
           simp only [Act.put,zp1,zp2,zp3,i64_w,i32_w]
           rfl
          refine pure_ (i:=7) (N:=some 22) (v:=?_) (a':=?_) #[Y,Y,Y,Y,Y,Y,Y,Y,X,Y,Y,Y,Y,Y,X,X,X] rfl rfl zan (fun _ _ _ h=>h) (Or.inl ⟨by rfl,?_⟩) ?_ ?_
          rotate_left
          ·intro w'
           go_simp
           with_reducible rfl
          rotate_left
          ·simp only [Act.put,zp1,zp2,zp3,i64_w,i32_w]
           rfl
          refine pure_ (i:=8) (N:=some 23) (v:=?_) (a':=?_) #[Y,Y,Y,Y,Y,Y,Y,Y,Y,Y,Y,Y,Y,Y,X,X,X] rfl rfl zan (fun _ _ _ h=>h) (Or.inl ⟨by rfl,?_⟩) ?_ ?_
          rotate_left
          ·intro w'
           go_simp
           with_reducible rfl
          rotate_left
          ·simp only [Act.put,zp1,zp2,zp3,i64_w,i32_w]
           rfl
          refine one_ (i:=14) (N:=some 29) #[Y,Y,Y,Y,Y,Y,Y,Y,Y,Y,Y,Y,Y,Y,Y,X,X] rfl rfl (one_of HT_.out (by kernel_rfl)) (by decide) (fun K hK=>?_)
          refine goes_ Tryd.func43 (by kernel_rfl) rfl #[.int .i64 ((rd_T53 l0 x4_1).f1)] (by rfl) rfl rfl zar ?_
          with_reducible refine (spec_l12Dec.calls k1 ((rd_T53 l0 x4_1).f1) t127 _ A9.out).mono ?_
          rintro e w13 ⟨rfl,hb⟩
          refine ⟨_,rfl,?_⟩
          have n0_:=Aside0.mk (below_step zhb hb)
          clear HB
          have HB:=n0_
          clear n0_
          (try clear hb)
          (try clear hb2)
          (try clear hk)
          (try clear hi)
          refine hK.out _ _ ⟨((HB.out.cell (World.block_lt_of_cell? w _ hw124_0)).trans hw124_0),((HB.out.cell (World.block_lt_of_cell? w _ hw124_1)).trans hw124_1),((HB.out.cell (World.block_lt_of_cell? w _ hw126_0)).trans hw126_0),((HB.out.cell (World.block_lt_of_cell? w _ hw126_1)).trans hw126_1)⟩ (fun hHeld=>?_)
          clear hK K
          refine norm_ (a':=?_) ?_ ?_
          rotate_left
          ·show Act.put _ (some 29) _=_
           simp only [Act.put,zp1,zp2,zp3,i64_w,i32_w]
           rfl
          refine pure_ (i:=15) (N:=some 30) (v:=?_) (a':=?_) #[Y,Y,Y,Y,Y,Y,Y,Y,Y,Y,Y,Y,Y,Y,Y,Y,X] rfl rfl zan (fun _ _ _ h=>h) (Or.inl ⟨by rfl,?_⟩) ?_ ?_
          rotate_left
          ·intro w'
           go_simp
           with_reducible rfl
          rotate_left
          ·simp only [Act.put,zp1,zp2,zp3,i64_w,i32_w]
           rfl
          refine pure_ (i:=16) (N:=some 3) (v:=?_) (a':=?_) #[Y,Y,Y,Y,Y,Y,Y,Y,Y,Y,Y,Y,Y,Y,Y,Y,Y] rfl rfl zan (fun _ _ _ h=>h) (Or.inl ⟨by rfl,?_⟩) ?_ ?_
          rotate_left
          ·intro w'
           go_simp
           with_reducible rfl
          rotate_left
          ·simp only [Act.put,zp1,zp2,zp3,i64_w,i32_w]
           rfl
          refine done_ (done_of HT_.out (by kernel_rfl)) ?_
          try go_wp2
          go_roundg k1
          case measure=>have:=HK1.out;omega
          case rel=>exact ⟨((((x3_1 ++ (⟨#[32]⟩:ByteArray)) ++ t125) ++ (⟨#[42]⟩:ByteArray)) ++ t127),(wrap64 (x4_1 + 1)),(by first|rfl|(simp;done)|(simp [*];done)),(by first|rfl|(simp;done)|(simp [*];done)),H',⟨by have:=HK1.out;omega⟩,⟨zhb⟩⟩
         ·rw [if_neg c10] at H
          exact absurd H (by simp)
        ·rw [if_neg c8] at H
         exact absurd H (by simp)
       ·rw [if_neg c7] at H
        exact absurd H (by simp)
      ·rw [if_neg c5] at H
       exact absurd H (by simp)
     ·rw [if_neg c4] at H
      exact absurd H (by simp)
    ·rw [if_neg c3] at H
     have c3b0:decide (0 < x4_1)=false:=decide_eq_false c3
     clear c3
     by_cases c14:0≤x4_1
     ·rw [if_pos c14] at H
      have c14b0:decide (0≤x4_1)=true:=decide_eq_true c14
      clear c14
      replace H:=Option.bind_eq_some_iff.mp H
      obtain ⟨t129,A150,H⟩:=H
      (try dsimp only at H)
      have A15:=Aside0.mk A150
      clear A150
      by_cases c16:x3_1.size + t129.size≤9223372036854775807
      ·rw [if_pos c16] at H
       have c16b0:=eq_true c16
       have c16b1:decide (x3_1.size + t129.size≤9223372036854775807)=true:=decide_eq_true c16
       try have c16b2:(9223372036854775807 < x3_1.size + t129.size)=False:=eq_false (Nat.not_lt.2 c16)
       by_cases c17:(x3_1 ++ t129).size + 1≤9223372036854775807
       ·rw [if_pos c17] at H
        have c17b0:=eq_true c17
        have c17b1:decide ((x3_1 ++ t129).size + 1≤9223372036854775807)=true:=decide_eq_true c17
        (try (have c17b3:x3_1.size + t129.size + 1≤9223372036854775807:=by have h_:=c17;simp only [ByteArray.size_append] at h_;exact h_))
        (try have c17b4:=eq_true c17b3)
        (try have c17b5:decide (x3_1.size + t129.size + 1≤9223372036854775807)=true:=decide_eq_true c17b3)
        (try have c17b6:(9223372036854775807 < x3_1.size + t129.size + 1)=False:=eq_false (Nat.not_lt.2 c17b3))
        try have c17b2:(9223372036854775807 < (x3_1 ++ t129).size + 1)=False:=eq_false (Nat.not_lt.2 c17)
        replace H:=Option.bind_eq_some_iff.mp H
        obtain ⟨t131,A180,H⟩:=H
        (try dsimp only at H)
        have A18:=Aside0.mk A180
        clear A180
        by_cases c19:((x3_1 ++ t129) ++ (⟨#[42]⟩:ByteArray)).size + t131.size≤9223372036854775807
        ·rw [if_pos c19] at H
         have c19b0:=eq_true c19
         have c19b1:decide (((x3_1 ++ t129) ++ (⟨#[42]⟩:ByteArray)).size + t131.size≤9223372036854775807)=true:=decide_eq_true c19
         (try (have c19b3:x3_1.size + t129.size + 1 + t131.size≤9223372036854775807:=by have h_:=c19;simp only [ByteArray.size_append] at h_;exact h_))
         (try have c19b4:=eq_true c19b3)
         (try have c19b5:decide (x3_1.size + t129.size + 1 + t131.size≤9223372036854775807)=true:=decide_eq_true c19b3)
         (try have c19b6:(9223372036854775807 < x3_1.size + t129.size + 1 + t131.size)=False:=eq_false (Nat.not_lt.2 c19b3))
         try have c19b2:(9223372036854775807 < ((x3_1 ++ t129) ++ (⟨#[42]⟩:ByteArray)).size + t131.size)=False:=eq_false (Nat.not_lt.2 c19)
         have H':=Aside0.mk H
         clear H
         try go_wp2
         have n0_:=Aside0.mk (below_drew1 HB.out)
         clear HB
         have HB:=n0_
         clear n0_
         have p128:0≤(x4_1:Int):=zod
         have q128:x4_1 < (l0.length:Int):=zod
         obtain ⟨ad128,A128_0,c128_0,e128,hx128_0,hx128_1,hl128_0,hi128_0⟩:=at_T53 HR0.out x4_1 p128 q128
         have hw128_1:=hx128_1
         have hw128_0:=hx128_0
         cases e128
         replace hx128_0:=(HB.out.cell (World.block_lt_of_cell? w _ hx128_0)).trans hx128_0
         replace hx128_1:=(HB.out.cell (World.block_lt_of_cell? w _ hx128_1)).trans hx128_1
         have HR128_0:=Aside0.mk hi128_0
         have HC128_0:=Aside0.mk hl128_0
         clear hi128_0 hl128_0
         replace p128:=eq_true p128
         replace q128:=eq_true q128
         have p130:0≤(x4_1:Int):=zod
         have q130:x4_1 < (l0.length:Int):=zod
         obtain ⟨ad130,A130_0,c130_0,e130,hx130_0,hx130_1,hl130_0,hi130_0⟩:=at_T53 HR0.out x4_1 p130 q130
         have hw130_1:=hx130_1
         have hw130_0:=hx130_0
         obtain rfl:ad128=ad130:=(by injection e130)
         replace hx130_0:=(HB.out.cell (World.block_lt_of_cell? w _ hx130_0)).trans hx130_0
         replace hx130_1:=(HB.out.cell (World.block_lt_of_cell? w _ hx130_1)).trans hx130_1
         have HR130_0:=Aside0.mk hi130_0
         have HC130_0:=Aside0.mk hl130_0
         clear hi130_0 hl130_0
         replace p130:=eq_true p130
         replace q130:=eq_true q130
         have ea_:=Option.some.inj (hx128_0.symm.trans hx130_0)
         injection ea_ with ea_ en_ ec_
         subst ea_
         subst ec_
         clear en_
         refine start_ (n:=17) (S:=fun w'=>w'.cell? (ad128.add ((x4_1).toNat * 2))=some (.slice A128_0 ((rd_T53 l0 x4_1).f0).length c128_0)∧w'.cell? ⟨(ad128.add ((x4_1).toNat * 2)).block,(ad128.add ((x4_1).toNat * 2)).off + 1,none⟩=some (.int .i64 ((rd_T53 l0 x4_1).f1))∧w'.cell? (ad128.add ((x4_1).toNat * 2))=some (.slice A128_0 ((rd_T53 l0 x4_1).f0).length c128_0)∧w'.cell? ⟨(ad128.add ((x4_1).toNat * 2)).block,(ad128.add ((x4_1).toNat * 2)).off + 1,none⟩=some (.int .i64 ((rd_T53 l0 x4_1).f1))) (ds:=[]) #[X,X,X,X,X,X,X,X,X,X,X,X,X,X,X,X,X] (by kernel_rfl) rfl rfl ⟨((HB.out.cell (World.block_lt_of_cell? w _ hw128_0)).trans hw128_0),((HB.out.cell (World.block_lt_of_cell? w _ hw128_1)).trans hw128_1),((HB.out.cell (World.block_lt_of_cell? w _ hw130_0)).trans hw130_0),((HB.out.cell (World.block_lt_of_cell? w _ hw130_1)).trans hw130_1)⟩ (fun hHeld=>?_);refine with_tabW spec_ZText.tab7 spec_ZText.bits7 (fun HT_ HW_=>?_)
         generalize wr.drew=w20 at HB HR128_0 HR130_0 hx128_0 hx128_1 hx130_0 hx130_1 hHeld ⊢
         refine pure_ (i:=0) (N:=some 15) (v:=?_) (a':=?_) #[Y,X,X,X,X,X,X,X,X,X,X,X,X,X,X,X,X] rfl rfl zan (fun _ _ _ h=>h) (Or.inl ⟨by rfl,?_⟩) ?_ ?_
         rotate_left
         ·intro w'
          go_simp
          with_reducible rfl
         rotate_left
         ·simp only [Act.put,zp1,zp2,zp3,i64_w,i32_w]
          rfl
         refine pure_ (i:=1) (N:=some 16) (v:=?_) (a':=?_) #[Y,Y,X,X,X,X,X,X,X,X,X,X,X,X,X,X,X] rfl rfl zan (fun _ _ _ h=>h) (Or.inl ⟨by rfl,?_⟩) ?_ ?_
         rotate_left
         ·intro w'
          go_simp
          with_reducible rfl
         rotate_left
         ·simp only [Act.put,zp1,zp2,zp3,i64_w,i32_w]
          rfl
         refine pure_ (i:=2) (N:=some 17) (v:=?_) (a':=?_) #[Y,Y,Y,X,X,X,X,X,X,X,X,X,X,X,X,X,X] rfl rfl zan (fun _ _ _ h=>h) (Or.inl ⟨by rfl,?_⟩) ?_ ?_
         rotate_left
         ·intro w'
          go_simp
          with_reducible rfl
         rotate_left
         ·simp only [Act.put,zp1,zp2,zp3,i64_w,i32_w]
          rfl
         refine pure_ (i:=3) (N:=some 18) (v:=?_) (a':=?_) #[Y,Y,Y,Y,X,X,X,X,X,X,X,X,X,X,X,X,X] rfl rfl zan (fun _ _ _ h=>h) (Or.inl ⟨by rfl,?_⟩) ?_ ?_
         rotate_left
         ·intro w'
          go_simp
          with_reducible rfl
         rotate_left
         ·simp only [Act.put,zp1,zp2,zp3,i64_w,i32_w]
          rfl
         refine pure_ (i:=4) (N:=some 19) (v:=?_) (a':=?_) #[Y,Y,Y,Y,Y,X,X,X,X,X,X,X,X,X,X,X,X] rfl rfl zan (fun _ _ _ h=>h) (Or.inl ⟨by rfl,?_⟩) ?_ ?_
         rotate_left
         ·intro w'
          go_simp
          with_reducible rfl
         rotate_left
         ·simp only [Act.put,zp1,zp2,zp3,i64_w,i32_w]
          rfl
         refine pure_ (i:=9) (N:=some 24) (v:=?_) (a':=?_) #[Y,Y,Y,Y,Y,X,X,X,X,Y,X,X,X,X,X,X,X] rfl rfl zan (fun _ _ _ h=>h) (Or.inl ⟨by rfl,?_⟩) ?_ ?_
         rotate_left
         ·intro w'
          go_simp
          with_reducible rfl
         rotate_left
         ·simp only [Act.put,zp1,zp2,zp3,i64_w,i32_w]
          rfl
         refine pure_ (i:=10) (N:=some 25) (v:=?_) (a':=?_) #[Y,Y,Y,Y,Y,X,X,X,X,Y,Y,X,X,X,X,X,X] rfl rfl zan (fun _ _ _ h=>h) (Or.inl ⟨by rfl,?_⟩) ?_ ?_
         rotate_left
         ·intro w'
          go_simp
          with_reducible rfl
         rotate_left
         ·simp only [Act.put,zp1,zp2,zp3,i64_w,i32_w]
          rfl
         refine pure_ (i:=11) (N:=some 26) (v:=?_) (a':=?_) #[Y,Y,Y,Y,Y,X,X,X,X,Y,Y,Y,X,X,X,X,X] rfl rfl zan (fun _ _ _ h=>h) (Or.inl ⟨by rfl,?_⟩) ?_ ?_
         rotate_left
         ·intro w'
          go_simp
          with_reducible rfl
         rotate_left
         ·simp only [Act.put,zp1,zp2,zp3,i64_w,i32_w]
          rfl
         refine pure_ (i:=12) (N:=some 27) (v:=?_) (a':=?_) #[Y,Y,Y,Y,Y,X,X,X,X,Y,Y,Y,Y,X,X,X,X] rfl rfl zan (fun _ _ _ h=>h) (Or.inl ⟨by rfl,?_⟩) ?_ ?_
         rotate_left
         ·intro w'
          go_simp
          with_reducible rfl
         rotate_left
         ·simp only [Act.put,zp1,zp2,zp3,i64_w,i32_w]
          rfl
         refine take_ (i:=5) (N:=some 20) (v:=?_) (a':=?_) #[Y,Y,Y,Y,Y,Y,X,X,X,Y,Y,Y,Y,X,X,X,X] rfl rfl ztw (fun _ _ _ h=>h) (Or.inl ⟨by rfl,?_⟩) hHeld ?_ ?_
         rotate_left
         ·rintro w' ⟨s0,s1,s2,s3⟩
          go_simp
          with_reducible rfl
         rotate_left
         ·simp only [Act.put,zp1,zp2,zp3,i64_w,i32_w]
          rfl
         refine take_ (i:=13) (N:=some 28) (v:=?_) (a':=?_) #[Y,Y,Y,Y,Y,Y,X,X,X,Y,Y,Y,Y,Y,X,X,X] rfl rfl ztw (fun _ _ _ h=>h) (Or.inl ⟨by rfl,?_⟩) hHeld ?_ ?_
         rotate_left
         ·rintro w' ⟨s0,s1,s2,s3⟩
          go_simp
          with_reducible rfl
         rotate_left
         ·simp only [Act.put,zp1,zp2,zp3,i64_w,i32_w]
          rfl
         refine one_ (i:=6) (N:=some 21) #[Y,Y,Y,Y,Y,Y,Y,X,X,Y,Y,Y,Y,Y,X,X,X] rfl rfl (one_of HT_.out (by kernel_rfl)) (by decide) (fun K hK=>?_)
         refine goes_ Tryd.func14 (by kernel_rfl) rfl #[.slice A128_0 ((rd_T53 l0 x4_1).f0).length c128_0] (by rfl) rfl rfl zar ?_
         with_reducible refine (spec_RowText.calls k1 _ _ ((rd_T53 l0 x4_1).f0) t129 _ ?side1 ?side2 A15.out).mono ?_
         (case side1=>exact zC (Kd.C_below HR128_0.out HB.out))
         (case side2=>exact HC128_0.out)
         rintro e w21 ⟨rfl,hb⟩
         refine ⟨_,rfl,?_⟩
         have n0_:=Aside0.mk (below_step zhb hb)
         clear HB
         have HB:=n0_
         clear n0_
         (try clear hb)
         (try clear hb2)
         (try clear hk)
         (try clear hi)
         refine hK.out _ _ ⟨((HB.out.cell (World.block_lt_of_cell? w _ hw128_0)).trans hw128_0),((HB.out.cell (World.block_lt_of_cell? w _ hw128_1)).trans hw128_1),((HB.out.cell (World.block_lt_of_cell? w _ hw130_0)).trans hw130_0),((HB.out.cell (World.block_lt_of_cell? w _ hw130_1)).trans hw130_1)⟩ (fun hHeld=>?_)
         clear hK K
         refine norm_ (a':=?_) ?_ ?_
         rotate_left
         ·show Act.put _ (some 21) _=_
          simp only [Act.put,zp1,zp2,zp3,i64_w,i32_w]
          rfl
         refine pure_ (i:=7) (N:=some 22) (v:=?_) (a':=?_) #[Y,Y,Y,Y,Y,Y,Y,Y,X,Y,Y,Y,Y,Y,X,X,X] rfl rfl zan (fun _ _ _ h=>h) (Or.inl ⟨by rfl,?_⟩) ?_ ?_
         rotate_left
         ·intro w'
          go_simp
          with_reducible rfl
         rotate_left
         ·simp only [Act.put,zp1,zp2,zp3,i64_w,i32_w]
          rfl
         refine pure_ (i:=8) (N:=some 23) (v:=?_) (a':=?_) #[Y,Y,Y,Y,Y,Y,Y,Y,Y,Y,Y,Y,Y,Y,X,X,X] rfl rfl zan (fun _ _ _ h=>h) (Or.inl ⟨by rfl,?_⟩) ?_ ?_
         rotate_left
         ·intro w'
          go_simp
          with_reducible rfl
         rotate_left
         ·simp only [Act.put,zp1,zp2,zp3,i64_w,i32_w]
          rfl
         refine one_ (i:=14) (N:=some 29) #[Y,Y,Y,Y,Y,Y,Y,Y,Y,Y,Y,Y,Y,Y,Y,X,X] rfl rfl (one_of HT_.out (by kernel_rfl)) (by decide) (fun K hK=>?_)
         refine goes_ Tryd.func43 (by kernel_rfl) rfl #[.int .i64 ((rd_T53 l0 x4_1).f1)] (by rfl) rfl rfl zar ?_
         with_reducible refine (spec_l12Dec.calls k1 ((rd_T53 l0 x4_1).f1) t131 _ A18.out).mono ?_
         rintro e w22 ⟨rfl,hb⟩
         refine ⟨_,rfl,?_⟩
         have n0_:=Aside0.mk (below_step zhb hb)
         clear HB
         have HB:=n0_
         clear n0_
         (try clear hb)
         (try clear hb2)
         (try clear hk)
         (try clear hi)
         refine hK.out _ _ ⟨((HB.out.cell (World.block_lt_of_cell? w _ hw128_0)).trans hw128_0),((HB.out.cell (World.block_lt_of_cell? w _ hw128_1)).trans hw128_1),((HB.out.cell (World.block_lt_of_cell? w _ hw130_0)).trans hw130_0),((HB.out.cell (World.block_lt_of_cell? w _ hw130_1)).trans hw130_1)⟩ (fun hHeld=>?_)
         clear hK K
         refine norm_ (a':=?_) ?_ ?_
         rotate_left
         ·show Act.put _ (some 29) _=_
          simp only [Act.put,zp1,zp2,zp3,i64_w,i32_w]
          rfl
         refine pure_ (i:=15) (N:=some 30) (v:=?_) (a':=?_) #[Y,Y,Y,Y,Y,Y,Y,Y,Y,Y,Y,Y,Y,Y,Y,Y,X] rfl rfl zan (fun _ _ _ h=>h) (Or.inl ⟨by rfl,?_⟩) ?_ ?_
         rotate_left
         ·intro w'
          go_simp
          with_reducible rfl
         rotate_left
         ·simp only [Act.put,zp1,zp2,zp3,i64_w,i32_w]
          rfl
         refine pure_ (i:=16) (N:=some 3) (v:=?_) (a':=?_) #[Y,Y,Y,Y,Y,Y,Y,Y,Y,Y,Y,Y,Y,Y,Y,Y,Y] rfl rfl zan (fun _ _ _ h=>h) (Or.inl ⟨by rfl,?_⟩) ?_ ?_
         rotate_left
         ·intro w'
          go_simp
          with_reducible rfl
         rotate_left
         ·simp only [Act.put,zp1,zp2,zp3,i64_w,i32_w]
          rfl
         refine done_ (done_of HT_.out (by kernel_rfl)) ?_
         try go_wp2
         go_roundg k1
         case measure=>have:=HK1.out;omega
         case rel=>exact ⟨(((x3_1 ++ t129) ++ (⟨#[42]⟩:ByteArray)) ++ t131),(wrap64 (x4_1 + 1)),(by first|rfl|(simp;done)|(simp [*];done)),(by first|rfl|(simp;done)|(simp [*];done)),H',⟨by have:=HK1.out;omega⟩,⟨zhb⟩⟩
        ·rw [if_neg c19] at H
         exact absurd H (by simp)
       ·rw [if_neg c17] at H
        exact absurd H (by simp)
      ·rw [if_neg c16] at H
       exact absurd H (by simp)
     ·rw [if_neg c14] at H
      exact absurd H (by simp)
   ·rw [if_neg c2] at H
    have c2b0:decide (x4_1 < (l0.length:Int))=false:=decide_eq_false c2
    clear c2
    obtain rfl:=Option.some.inj H
    go_wp2
    go_ret
    exact ⟨by first|rfl|(simp [errW_none,errW_some] <;> rfl)|(simp [*,errW_none,errW_some] <;> rfl),zhb⟩

end Go.Proofs.YtgcplipimcbhlaaDoor.PFnExactZText
