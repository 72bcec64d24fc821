-- Written by wip/tools/pp.py, a program of this session over the kit's printer: not the kit's own print
import Derived.Test.YtgcplipimcbhlaaDoorPFnRowx0
namespace Go.Proofs.YtgcplipimcbhlaaDoor.PFnRow
open Go.RowKit Go.Proofs.YtgcplipimcbhlaaDoorW.PrintWords Go.Proofs.YtgcplipimcbhlaaDoorW.PrintLast Go.Proofs.YtgcplipimcbhlaaDoorW.PrintMore
attribute [local go_sem] max2_int min2_int max_two min_two max_three min_three max_four min_four   -- for this text's walks alone
set_option linter.unusedVariables false
set_option linter.unusedSimpArgs false

/-! ### spec_l12Dec: function 43 -/
mutual
def spec_l12Dec.l0:Nat→Int→ByteArray→Option (ByteArray)
 | 0,_,_=>none
 | k + 1,x0,x3=>if x0 > 9 then ((some (([(wrap64 (48 + (Int.tmod x0 10))) % 256]:List Int):List Int)).bind fun y102=>(if (strOfNums y102).size + x3.size≤9223372036854775807 then (spec_l12Dec.l0 k (wrap64 (Int.tdiv x0 10)) ((strOfNums y102) ++ x3)) else (none))) else ((some (([(wrap64 (48 + x0)) % 256]:List Int):List Int)).bind fun y105=>(if (strOfNums y105).size + x3.size≤9223372036854775807 then (some ((strOfNums y105) ++ x3)) else (none)))
def spec_l12Dec.f:Nat→Int→Option (ByteArray)
 | 0,_=>none
 | k + 1,a0=>if a0 < (-9223372036854775807) then (some (⟨#[45,57,50,50,51,51,55,50,48,51,54,56,53,52,55,55,53,56,48,56]⟩:ByteArray)) else (if a0 < 0 then ((spec_l12Dec.f k (wrap64 (-a0))).bind fun t101=>(if 1 + t101.size≤9223372036854775807 then (some ((⟨#[45]⟩:ByteArray) ++ t101)) else (none))) else (spec_l12Dec.l0 k a0 (⟨#[]⟩:ByteArray)))
end
theorem spec_l12Dec.mono_l : ∀ k,(∀ y0,LeO (spec_l12Dec.f k y0) (spec_l12Dec.f (k + 1) y0))∧(∀ y0 y1,LeO (spec_l12Dec.l0 k y0 y1) (spec_l12Dec.l0 (k + 1) y0 y1))
 | 0=>⟨fun _ r h=>by simp [spec_l12Dec.f] at h,fun _ _ r h=>by simp [spec_l12Dec.l0] at h⟩
 | k + 1=>by
  obtain ⟨ih0,ih1⟩:=spec_l12Dec.mono_l k
  refine ⟨?_,?_⟩
  ·intro y0
   unfold spec_l12Dec.f
   repeat' first
   | (with_reducible exact ih0 _)
   | (with_reducible exact ih1 _ _)
   | (with_reducible exact LeO.refl _)
   | (with_reducible exact LeO.none _)
   | (with_reducible refine LeO.ite ?_ ?_)
   | (with_reducible refine LeO.bind ?_ (fun _=>?_))
   | exact LeO.none _
   | refine LeO.ite ?_ ?_
   | refine LeO.bind ?_ (fun _=>?_)
  ·intro y0 y1
   unfold spec_l12Dec.l0
   repeat' first
   | (with_reducible exact ih0 _)
   | (with_reducible exact ih1 _ _)
   | (with_reducible exact LeO.refl _)
   | (with_reducible exact LeO.none _)
   | (with_reducible refine LeO.ite ?_ ?_)
   | (with_reducible refine LeO.bind ?_ (fun _=>?_))
   | exact LeO.none _
   | refine LeO.ite ?_ ?_
   | refine LeO.bind ?_ (fun _=>?_)
theorem spec_l12Dec.mono : ∀ a0 k,LeO (spec_l12Dec.f k a0) (spec_l12Dec.f (k + 1) a0):=by
 intro a0 k
 obtain ⟨ih0,ih1⟩:=spec_l12Dec.mono_l k
 exact ih0 a0
set_option maxHeartbeats 8000000 in
set_option maxRecDepth 100000 in
theorem spec_l12Dec.calls (k:Nat) : ∀ (a0:Int) (r:ByteArray) (w:World) (h:spec_l12Dec.f k a0=some r),
  Calls Tryd.prog 43 #[.int .i64 a0] w fun e w'=>e=.returned (.string r)∧Below w.heap.size w w':=by
 induction k using Nat.strongRecOn with
 | _ k ih =>
 intro a0 r w h
 cases k with
 | zero=>exact absurd h (by simp [spec_l12Dec.f])
 | succ k =>
 simp only [spec_l12Dec.f] at h
 have HB:=Aside0.mk (Below.refl w.heap.size w)
 have H:(if a0 < (-9223372036854775807) then (some (⟨#[45,57,50,50,51,51,55,50,48,51,54,56,53,52,55,55,53,56,48,56]⟩:ByteArray)) else (if a0 < 0 then ((spec_l12Dec.f k (wrap64 (-a0))).bind fun t101=>(if 1 + t101.size≤9223372036854775807 then (some ((⟨#[45]⟩:ByteArray) ++ t101)) else (none))) else (spec_l12Dec.l0 k a0 (⟨#[]⟩:ByteArray))))=some r:=h
 clear h
 by_cases c2:a0 < (-9223372036854775807)
 ·rw [if_pos c2] at H
  have c2b0:decide (a0 < (-9223372036854775807))=true:=decide_eq_true c2
  clear c2
  obtain rfl:=Option.some.inj H
  go_enter Tryd.func43,Tryd.ntmps43
  go_wp2
  go_ret
  exact ⟨by first|rfl|(simp [errW_none,errW_some] <;> rfl)|(simp [*,errW_none,errW_some] <;> rfl),zhb⟩
 ·rw [if_neg c2] at H
  have c2b0:decide (a0 < (-9223372036854775807))=false:=decide_eq_false c2
  clear c2
  by_cases c3:a0 < 0
  ·rw [if_pos c3] at H
   have c3b0:decide (a0 < 0)=true:=decide_eq_true c3
   clear c3
   replace H:=Option.bind_eq_some_iff.mp H
   obtain ⟨t101,A40,H⟩:=H
   (try dsimp only at H)
   have A4:=Aside0.mk A40
   clear A40
   by_cases c5:1 + t101.size≤9223372036854775807
   ·rw [if_pos c5] at H
    have c5b0:=eq_true c5
    have c5b1:decide (1 + t101.size≤9223372036854775807)=true:=decide_eq_true c5
    try have c5b2:(9223372036854775807 < 1 + t101.size)=False:=eq_false (Nat.not_lt.2 c5)
    obtain rfl:=Option.some.inj H
    go_enter Tryd.func43,Tryd.ntmps43
    go_wp2_with (first|((with_reducible refine gate_callee (f:=43) rfl ?_);refine goesL_ (some 10) rfl rfl Tryd.func43 (by kernel_rfl) rfl #[.int .i64 (wrap64 (-a0))] rfl zar ?_;(with_reducible refine (ih k (by omega) (wrap64 (-a0)) t101 _ A4.out).mono ?_);rintro e w6 ⟨rfl,hb⟩;refine ⟨_,rfl,?_⟩;have n0_:=Aside0.mk (below_step zhb hb);clear HB;have HB:=n0_;clear n0_;(try clear hb);(try clear hb2);(try clear hk);(try clear hi)))
    go_ret
    exact ⟨by first|rfl|(simp [errW_none,errW_some] <;> rfl)|(simp [*,errW_none,errW_some] <;> rfl),zhb⟩
   ·rw [if_neg c5] at H
    exact absurd H (by simp)
  ·rw [if_neg c3] at H
   have c3b0:decide (a0 < 0)=false:=decide_eq_false c3
   clear c3
   have H':=Aside0.mk H
   clear H
   go_enter Tryd.func43,Tryd.ntmps43
   go_wp2
   go_loopg [0,3] k (fun kq v0 v3 w'=>∃ (x0_1:Int) (x3_1:ByteArray),v0=.int .i64 x0_1∧v3=.string x3_1∧Aside0 (spec_l12Dec.l0 kq x0_1 x3_1=some r)∧Aside0 (kq≤k)∧Aside0 (Below w.heap.size w w'))
   case atStart=>exact ⟨(a0),((⟨#[]⟩:ByteArray)),(by first|rfl|(simp;done)|(simp [*];done)),(by first|rfl|(simp;done)|(simp [*];done)),H',⟨Nat.le_refl _⟩,⟨zhb⟩⟩
   case round =>
    clear H'
    try clear c2
    try clear c2b0
    try clear p2
    try clear c3
    try clear c3b0
    try clear c4
    try clear c5
    try clear c5b0
    try clear c5b1
    try clear c5b2
    try clear p6
    obtain ⟨x0_1,x3_1,rfl,rfl,HA,HK1,HB⟩:=hrel
    cases gk with
    | zero=>exact absurd HA.out (by simp [spec_l12Dec.l0])
    | succ k1 =>
     have H:=HA.out
     clear HA
     simp only [spec_l12Dec.l0] at H
     by_cases c7:x0_1 > 9
     ·rw [if_pos c7] at H
      have c7b0:decide (9 < x0_1)=true:=decide_eq_true c7
      clear c7
      obtain ⟨y102,hy102⟩ : ∃ y_:List Int,y_=(([(wrap64 (48 + (Int.tmod x0_1 10))) % 256]:List Int)):=⟨_,rfl⟩
      replace H:(if (strOfNums y102).size + x3_1.size≤9223372036854775807 then (spec_l12Dec.l0 k1 (wrap64 (Int.tdiv x0_1 10)) ((strOfNums y102) ++ x3_1)) else (none))=some r:=by first|(rw [hy102];with_reducible exact H)|(have H2_:=(Option.bind_some _ _).symm.trans H;rw [hy102];with_reducible exact H2_)|(have H2_:=(Option.bind_some _ _).symm.trans H;with_reducible exact H2_)|with_reducible exact H|(rw [hy102];exact H)|exact H
      have Ny102:=Aside0.mk hy102
      clear hy102
      by_cases c8:(strOfNums y102).size + x3_1.size≤9223372036854775807
      ·rw [if_pos c8] at H
       have c8b0:=eq_true c8
       have c8b1:decide ((strOfNums y102).size + x3_1.size≤9223372036854775807)=true:=decide_eq_true c8
       try have c8b2:(9223372036854775807 < (strOfNums y102).size + x3_1.size)=False:=eq_false (Nat.not_lt.2 c8)
       have H':=Aside0.mk H
       clear H
       go_wp2_with (first|((with_reducible refine gate_dst (N:=18) rfl ?_);refine Kd.R_lit (Kd.int .u8) _ 5 ?hg (N:=18) ?hd (xs:=([(wrap64 (48 + (Int.tmod x0_1 10))) % 256]:List Int)) (inner:=[.int .u8 ((wrap64 (48 + (Int.tmod x0_1 10))) % 256)]) (ok:=fun _=>True) (okp:=fun _=>True) ?hr ?hp (fun _ hk=>hk) trivial (Below.refl _ _) (Nat.le_refl _) (by simp) ?_;(case hd=>rfl);(case hg=>rfl);(case hr=>first|(go_simp;done)|(go_simp;rfl));(case hp=>exact (Reps.one (show Kd.M (Kd.int .u8) _ _ _ ((wrap64 (48 + (Int.tmod x0_1 10))) % 256) [.int .u8 ((wrap64 (48 + (Int.tmod x0_1 10))) % 256)] from rfl) (Reps.none _ _)));intro v103 w9 ho10 hb hg_ hnew_;clear hg_ hnew_;(first|rw [← Ny102.out] at ho10|(simp only [Int.reduceToNat] at ho10;rw [← Ny102.out] at ho10));have n0_:=Aside0.mk (Kd.R_lower ho10 (below_size zhb));have n1_:=Aside0.mk (below_step zhb hb);clear HB;have HO104:=n0_;have HB:=n1_;clear n0_ n1_;clear hb ho10;have hcv11:=own_string (P:=Tryd.prog) Tryd.underlying38 Tryd.underlying5 Tryd.underlying9 (Kd.own_of_R HO104.out)))
       go_roundg k1
       case measure=>have:=HK1.out;omega
       case rel=>exact ⟨(wrap64 (Int.tdiv x0_1 10)),((strOfNums y102) ++ x3_1),(by first|rfl|(simp;done)|(simp [*];done)),(by first|rfl|(simp;done)|(simp [*];done)),H',⟨by have:=HK1.out;omega⟩,⟨zhb⟩⟩
      ·rw [if_neg c8] at H
       exact absurd H (by simp)
     ·rw [if_neg c7] at H
      have c7b0:decide (9 < x0_1)=false:=decide_eq_false c7
      clear c7
      obtain ⟨y105,hy105⟩ : ∃ y_:List Int,y_=(([(wrap64 (48 + x0_1)) % 256]:List Int)):=⟨_,rfl⟩
      replace H:(if (strOfNums y105).size + x3_1.size≤9223372036854775807 then (some ((strOfNums y105) ++ x3_1)) else (none))=some r:=by first|(rw [hy105];with_reducible exact H)|(have H2_:=(Option.bind_some _ _).symm.trans H;rw [hy105];with_reducible exact H2_)|(have H2_:=(Option.bind_some _ _).symm.trans H;with_reducible exact H2_)|with_reducible exact H|(rw [hy105];exact H)|exact H
      have Ny105:=Aside0.mk hy105
      clear hy105
      by_cases c12:(strOfNums y105).size + x3_1.size≤9223372036854775807
      ·rw [if_pos c12] at H
       have c12b0:=eq_true c12
       have c12b1:decide ((strOfNums y105).size + x3_1.size≤9223372036854775807)=true:=decide_eq_true c12
       try have c12b2:(9223372036854775807 < (strOfNums y105).size + x3_1.size)=False:=eq_false (Nat.not_lt.2 c12)
       obtain rfl:=Option.some.inj H
       go_wp2_with (first|((with_reducible refine gate_dst (N:=27) rfl ?_);refine Kd.R_lit (Kd.int .u8) _ 5 ?hg (N:=27) ?hd (xs:=([(wrap64 (48 + x0_1)) % 256]:List Int)) (inner:=[.int .u8 ((wrap64 (48 + x0_1)) % 256)]) (ok:=fun _=>True) (okp:=fun _=>True) ?hr ?hp (fun _ hk=>hk) trivial (Below.refl _ _) (Nat.le_refl _) (by simp) ?_;(case hd=>rfl);(case hg=>rfl);(case hr=>first|(go_simp;done)|(go_simp;rfl));(case hp=>exact (Reps.one (show Kd.M (Kd.int .u8) _ _ _ ((wrap64 (48 + x0_1)) % 256) [.int .u8 ((wrap64 (48 + x0_1)) % 256)] from rfl) (Reps.none _ _)));intro v106 w13 ho14 hb hg_ hnew_;clear hg_ hnew_;(first|rw [← Ny105.out] at ho14|(simp only [Int.reduceToNat] at ho14;rw [← Ny105.out] at ho14));have n0_:=Aside0.mk (Kd.R_lower ho14 (below_size zhb));have n1_:=Aside0.mk (below_step zhb hb);clear HB;have HO107:=n0_;have HB:=n1_;clear n0_ n1_;clear hb ho14;have hcv15:=own_string (P:=Tryd.prog) Tryd.underlying38 Tryd.underlying5 Tryd.underlying9 (Kd.own_of_R HO107.out)))
       go_ret
       exact ⟨by first|rfl|(simp [errW_none,errW_some] <;> rfl)|(simp [*,errW_none,errW_some] <;> rfl),zhb⟩
      ·rw [if_neg c12] at H
       exact absurd H (by simp)

/-! ### spec_RowText: function 14 -/
def spec_RowText.l0:Nat→List Int→ByteArray→Int→Option (ByteArray)
 | 0,_,_,_=>none
 | k + 1,x0,x3,x4=>if x4 < (x0.length:Int) then (if x4 > 0 then (if x3.size + 1≤9223372036854775807 then (if 0≤x4 then ((spec_l12Dec.f k (rd x0 x4)).bind fun t109=>(if (x3 ++ (⟨#[44]⟩:ByteArray)).size + t109.size≤9223372036854775807 then (spec_RowText.l0 k x0 ((x3 ++ (⟨#[44]⟩:ByteArray)) ++ t109) (wrap64 (x4 + 1))) else (none))) else (none)) else (none)) else (if 0≤x4 then ((spec_l12Dec.f k (rd x0 x4)).bind fun t111=>(if x3.size + t111.size≤9223372036854775807 then (spec_RowText.l0 k x0 (x3 ++ t111) (wrap64 (x4 + 1))) else (none))) else (none))) else (some x3)
def spec_RowText.f (k:Nat) (l0:List Int):Option (ByteArray):=spec_RowText.l0 k l0 (⟨#[]⟩:ByteArray) 0
theorem spec_RowText.mono_l : ∀ k,(∀ y0 y1 y2,LeO (spec_RowText.l0 k y0 y1 y2) (spec_RowText.l0 (k + 1) y0 y1 y2))
 | 0=>fun _ _ _ r h=>by simp [spec_RowText.l0] at h
 | k + 1=>by
  have ih0:=spec_RowText.mono_l k
  ·intro y0 y1 y2
   unfold spec_RowText.l0
   repeat' first
   | (with_reducible exact ih0 _ _ _)
   | (with_reducible exact spec_l12Dec.mono _ _)
   | (with_reducible exact LeO.refl _)
   | (with_reducible exact LeO.none _)
   | (with_reducible refine LeO.ite ?_ ?_)
   | (with_reducible refine LeO.bind ?_ (fun _=>?_))
   | exact LeO.none _
   | refine LeO.ite ?_ ?_
   | refine LeO.bind ?_ (fun _=>?_)
theorem spec_RowText.mono : ∀ a0 k,LeO (spec_RowText.f k a0) (spec_RowText.f (k + 1) a0):=by
 intro a0 k
 have ih0:=spec_RowText.mono_l k
 unfold spec_RowText.f
 repeat' first
   | (with_reducible exact ih0 _ _ _)
   | (with_reducible exact spec_l12Dec.mono _ _)
   | (with_reducible exact LeO.refl _)
   | (with_reducible exact LeO.none _)
   | (with_reducible refine LeO.ite ?_ ?_)
   | (with_reducible refine LeO.bind ?_ (fun _=>?_))
   | exact LeO.none _
   | refine LeO.ite ?_ ?_
   | refine LeO.bind ?_ (fun _=>?_)
set_option maxHeartbeats 8000000 in
set_option maxRecDepth 100000 in
theorem spec_RowText.calls (k:Nat) (A0:Option Addr) (c0:Nat) (l0:List Int) (r:ByteArray) (w:World) (hr0:Kd.C (Kd.int .i64) w A0 l0.length l0) (hc0:l0.length≤c0) (h:spec_RowText.f k l0=some r) :
  Calls Tryd.prog 14 #[.slice A0 l0.length c0] w fun e w'=>e=.returned (.string r)∧Below w.heap.size w w':=by
 have HR0:=Aside0.mk hr0
 have HC0:=Aside0.mk hc0
 clear hr0 hc0
 have HB:=Aside0.mk (Below.refl w.heap.size w)
 have H:(spec_RowText.l0 k l0 (⟨#[]⟩:ByteArray) 0)=some r:=h
 clear h
 have H':=Aside0.mk H
 clear H
 go_enter Tryd.func14,Tryd.ntmps14
 go_wp2
 go_loopg [3,4] k (fun kq v3 v4 w'=>∃ (x3_1:ByteArray) (x4_1:Int),v3=.string x3_1∧v4=.int .i64 x4_1∧Aside0 (spec_RowText.l0 kq l0 x3_1 x4_1=some r)∧Aside0 (kq≤k)∧Aside0 (Below w.heap.size w w'))
 case atStart=>exact ⟨((⟨#[]⟩:ByteArray)),(0),(by first|rfl|(simp;done)|(simp [*];done)),(by first|rfl|(simp;done)|(simp [*];done)),H',⟨Nat.le_refl _⟩,⟨zhb⟩⟩
 case round =>
  clear H'
  try clear c1
  obtain ⟨x3_1,x4_1,rfl,rfl,HA,HK1,HB⟩:=hrel
  cases gk with
  | zero=>exact absurd HA.out (by simp [spec_RowText.l0])
  | succ k1 =>
   have H:=HA.out
   clear HA
   simp only [spec_RowText.l0] at H
   by_cases c2:x4_1 < (l0.length:Int)
   ·rw [if_pos c2] at H
    have c2b0:decide (x4_1 < (l0.length:Int))=true:=decide_eq_true c2
    clear c2
    by_cases c3:x4_1 > 0
    ·rw [if_pos c3] at H
     have c3b0:decide (0 < x4_1)=true:=decide_eq_true c3
     clear c3
     by_cases c4:x3_1.size + 1≤9223372036854775807
     ·rw [if_pos c4] at H
      have c4b0:=eq_true c4
      have c4b1:decide (x3_1.size + 1≤9223372036854775807)=true:=decide_eq_true c4
      try have c4b2:(9223372036854775807 < x3_1.size + 1)=False:=eq_false (Nat.not_lt.2 c4)
      by_cases c5:0≤x4_1
      ·rw [if_pos c5] at H
       have c5b0:decide (0≤x4_1)=true:=decide_eq_true c5
       clear c5
       replace H:=Option.bind_eq_some_iff.mp H
       obtain ⟨t109,A60,H⟩:=H
       (try dsimp only at H)
       have A6:=Aside0.mk A60
       clear A60
       by_cases c7:(x3_1 ++ (⟨#[44]⟩:ByteArray)).size + t109.size≤9223372036854775807
       ·rw [if_pos c7] at H
        have c7b0:=eq_true c7
        have c7b1:decide ((x3_1 ++ (⟨#[44]⟩:ByteArray)).size + t109.size≤9223372036854775807)=true:=decide_eq_true c7
        (try (have c7b3:x3_1.size + 1 + t109.size≤9223372036854775807:=by have h_:=c7;simp only [ByteArray.size_append] at h_;exact h_))
        (try have c7b4:=eq_true c7b3)
        (try have c7b5:decide (x3_1.size + 1 + t109.size≤9223372036854775807)=true:=decide_eq_true c7b3)
        (try have c7b6:(9223372036854775807 < x3_1.size + 1 + t109.size)=False:=eq_false (Nat.not_lt.2 c7b3))
        try have c7b2:(9223372036854775807 < (x3_1 ++ (⟨#[44]⟩:ByteArray)).size + t109.size)=False:=eq_false (Nat.not_lt.2 c7)
        have H':=Aside0.mk H
        clear H
        have p108:0≤(x4_1:Int):=zod
        have q108:x4_1 < (l0.length:Int):=zod
        obtain ⟨ad108,e108,hx108_0⟩:=Kd.at_int HR0.out x4_1 p108 q108
        cases e108
        replace hx108_0:=(HB.out.cell (World.block_lt_of_cell? w _ hx108_0)).trans hx108_0
        replace p108:=eq_true p108
        replace q108:=eq_true q108
        go_wp2_with (first|((with_reducible refine gate_callee (f:=43) rfl ?_);refine goesL_ (some 20) rfl rfl Tryd.func43 (by kernel_rfl) rfl #[.int .i64 (rd l0 x4_1)] rfl zar ?_;(with_reducible refine (spec_l12Dec.calls k1 (rd l0 x4_1) t109 _ A6.out).mono ?_);rintro e w8 ⟨rfl,hb⟩;refine ⟨_,rfl,?_⟩;have n0_:=Aside0.mk (below_step zhb hb);clear HB;have HB:=n0_;clear n0_;(try clear hb);(try clear hb2);(try clear hk);(try clear hi)))
        go_roundg k1
        case measure=>have:=HK1.out;omega
        case rel=>exact ⟨((x3_1 ++ (⟨#[44]⟩:ByteArray)) ++ t109),(wrap64 (x4_1 + 1)),(by first|rfl|(simp;done)|(simp [*];done)),(by first|rfl|(simp;done)|(simp [*];done)),H',⟨by have:=HK1.out;omega⟩,⟨zhb⟩⟩
       ·rw [if_neg c7] at H
        exact absurd H (by simp)
      ·rw [if_neg c5] at H
       exact absurd H (by simp)
     ·rw [if_neg c4] at H
      exact absurd H (by simp)
    ·rw [if_neg c3] at H
     have c3b0:decide (0 < x4_1)=false:=decide_eq_false c3
     clear c3
     by_cases c9:0≤x4_1
     ·rw [if_pos c9] at H
      have c9b0:decide (0≤x4_1)=true:=decide_eq_true c9
      clear c9
      replace H:=Option.bind_eq_some_iff.mp H
      obtain ⟨t111,A100,H⟩:=H
      (try dsimp only at H)
      have A10:=Aside0.mk A100
      clear A100
      by_cases c11:x3_1.size + t111.size≤9223372036854775807
      ·rw [if_pos c11] at H
       have c11b0:=eq_true c11
       have c11b1:decide (x3_1.size + t111.size≤9223372036854775807)=true:=decide_eq_true c11
       try have c11b2:(9223372036854775807 < x3_1.size + t111.size)=False:=eq_false (Nat.not_lt.2 c11)
       have H':=Aside0.mk H
       clear H
       have p110:0≤(x4_1:Int):=zod
       have q110:x4_1 < (l0.length:Int):=zod
       obtain ⟨ad110,e110,hx110_0⟩:=Kd.at_int HR0.out x4_1 p110 q110
       cases e110
       replace hx110_0:=(HB.out.cell (World.block_lt_of_cell? w _ hx110_0)).trans hx110_0
       replace p110:=eq_true p110
       replace q110:=eq_true q110
       go_wp2_with (first|((with_reducible refine gate_callee (f:=43) rfl ?_);refine goesL_ (some 20) rfl rfl Tryd.func43 (by kernel_rfl) rfl #[.int .i64 (rd l0 x4_1)] rfl zar ?_;(with_reducible refine (spec_l12Dec.calls k1 (rd l0 x4_1) t111 _ A10.out).mono ?_);rintro e w12 ⟨rfl,hb⟩;refine ⟨_,rfl,?_⟩;have n0_:=Aside0.mk (below_step zhb hb);clear HB;have HB:=n0_;clear n0_;(try clear hb);(try clear hb2);(try clear hk);(try clear hi)))
       go_roundg k1
       case measure=>have:=HK1.out;omega
       case rel=>exact ⟨(x3_1 ++ t111),(wrap64 (x4_1 + 1)),(by first|rfl|(simp;done)|(simp [*];done)),(by first|rfl|(simp;done)|(simp [*];done)),H',⟨by have:=HK1.out;omega⟩,⟨zhb⟩⟩
      ·rw [if_neg c11] at H
       exact absurd H (by simp)
     ·rw [if_neg c9] at H
      exact absurd H (by simp)
   ·rw [if_neg c2] at H
    have c2b0:decide (x4_1 < (l0.length:Int))=false:=decide_eq_false c2
    clear c2
    obtain rfl:=Option.some.inj H
    go_wp2
    go_ret
    exact ⟨by first|rfl|(simp [errW_none,errW_some] <;> rfl)|(simp [*,errW_none,errW_some] <;> rfl),zhb⟩

/-! ### impl_RowText: function 16 (by hand) -/
theorem tab_on {P:Program} {w w':World} {nm:String} {k:IntKind} {zs:List Int} (h:Lib.TabIs P w nm k zs) (hb:Below w.heap.size w w'):Lib.TabIs P w' nm k zs:=Lib.tabBelow_of_tabIs h w' hb
theorem var_on {P:Program} {w w':World} {nm:String} {cs:Array Value} (h:w.var? P nm=some cs) (hb:Below w.heap.size w w'):w'.var? P nm=some cs:=by
 unfold World.var? at *
 cases hg:P.globalNamed nm with
 | none=>simp [hg] at h
 | some g =>
  simp only [hg,Option.bind_some] at h ⊢
  have hlt:g < w.heap.size:=by
   rcases Nat.lt_or_ge g w.heap.size with h'|h'
   ·exact h'
   ·rw [Array.getElem?_eq_none h'] at h;simp at h
  rw [hb.block g hlt]
  exact h
/-- what the texts' functions find in the library's variables -/
def TxtW (w : World) : Prop := Lib.TabIs Tryd.prog w "internal/strconv.uint64pow10" .u64 Lib.pow10Tab ∧ (∃ tp p, w.var? Tryd.prog "strconv.ErrSyntax" = some #[.iface tp p]) ∧ (∃ tp p, w.var? Tryd.prog "strconv.ErrRange" = some #[.iface tp p])
theorem TxtW.tab {w : World} (h : TxtW w) : Lib.TabIs Tryd.prog w "internal/strconv.uint64pow10" .u64 Lib.pow10Tab := h.1
theorem TxtW.on {w w':World} (h:TxtW w) (hb:Below w.heap.size w w'):TxtW w':=by
 obtain ⟨h1,⟨t1,p1,h2⟩,⟨t2,p2,h3⟩⟩:=h
 exact ⟨Lib.tabBelow_of_tabIs h1 w' hb,⟨t1,p1,var_on h2 hb⟩,⟨t2,p2,var_on h3 hb⟩⟩
/-- a row's text: the numerals, with a comma between -/
def tailB (l:List Int):List UInt8:=(l.map (fun x=>44 :: Lib.itoa x)).flatten
def rowB:List Int→List UInt8
 | []=>[]
 | x :: l=>Lib.itoa x ++ tailB l
theorem rowB_snoc (l:List Int) (x:Int):rowB (l ++ [x])=rowB l ++ ((if l = [] then [] else [44]) ++ Lib.itoa x):=by
 cases l with
 | nil=>simp [rowB,tailB]
 | cons y l=>simp [rowB,tailB,List.append_assoc]
def okI (x:Int):Bool:=decide (-9223372036854775808≤x) && decide (x≤9223372036854775807)
theorem okI_iff {x:Int}:okI x=true ↔ (-9223372036854775808≤x∧x≤9223372036854775807):=by unfold okI;simp
theorem tailB_len (l:List Int) (h : ∀ x ∈ l,okI x=true):(tailB l).length≤22 * l.length:=by
 induction l with
 | nil=>simp [tailB]
 | cons x l ih =>
  have h1:=okI_iff.1 (h x List.mem_cons_self)
  have h2:=Lib.itoa_length_le x h1.1 h1.2
  have h3:=ih (fun y hy=>h y (List.mem_cons_of_mem _ hy))
  have e:(tailB (x :: l)).length=1 + (Lib.itoa x).length + (tailB l).length:=by simp [tailB];omega
  rw [e,List.length_cons]
  omega
theorem rowB_len (l:List Int) (h : ∀ x ∈ l,okI x=true):(rowB l).length≤22 * l.length:=by
 cases l with
 | nil=>simp [rowB]
 | cons x l =>
  have h1:=okI_iff.1 (h x List.mem_cons_self)
  have h2:=Lib.itoa_length_le x h1.1 h1.2
  have h3:=tailB_len l (fun y hy=>h y (List.mem_cons_of_mem _ hy))
  rw [rowB,List.length_append,List.length_cons]
  omega
def impl_RowText.f (l0:List Int):Option ByteArray:=if l0.length≤1048576 then (if l0.all okI=true then some ⟨(rowB l0).toArray⟩ else none) else none
theorem intOf_k (k:Nat):(intOf (.int .i64 (k:Int))).toNat=k:=by simp [intOf]
theorem infoByte:(Tryd.prog.info? 5).map (fun i=>(i.zero,i.size,i.bytes))=some (some (.int .u8 0),1,1):=by kernel_rfl
set_option maxHeartbeats 8000000 in
set_option maxRecDepth 100000 in
theorem impl_RowText.calls (A0 : Option Addr) (c0 : Nat) (l0 : List Int) (r : ByteArray) (w : World) (hr0 : Kd.C (Kd.int .i64) w A0 l0.length l0) (hc0 : l0.length ≤ c0) (h : impl_RowText.f l0 = some r) (hT : Lib.TabIs Tryd.prog w "internal/strconv.uint64pow10" .u64 Lib.pow10Tab := by first | exact TxtW.tab (TxtW.on HT0.out zhb) | exact tab_on HT0.out zhb) :
  Calls Tryd.prog 16 #[.slice A0 l0.length c0] w fun e w'=>e=.returned (.string r)∧Below w.heap.size w w':=by
 unfold impl_RowText.f at h
 by_cases hl:l0.length≤1048576
 case neg=>rw [if_neg hl] at h;cases h
 rw [if_pos hl] at h
 by_cases ha:l0.all okI=true
 case neg=>rw [if_neg ha] at h;cases h
 rw [if_pos ha] at h
 obtain rfl:=Option.some.inj h
 clear h
 have hok : ∀ x ∈ l0,okI x=true:=List.all_eq_true.1 ha
 obtain ⟨i0,hi,hz0,hz1,hz2⟩:=info_parts infoByte
 have HR:=Aside0.mk hr0
 have HL:=Aside0.mk hl
 have HOK:=Aside0.mk hok
 have HTB:=Aside0.mk (Lib.tabBelow_of_tabIs hT)
 clear hr0 hl hok ha hT hc0
 go_enter Tryd.func16,Tryd.ntmps16
 go_wp2
 go_loopw [3,8] (fun v i wr=>∃ k:Nat,k≤l0.length∧i=.int .i64 k∧wr.ownsRow w.heap.size 5 1 v (rowB (l0.take k)).length (Lib.byteCells (rowB (l0.take k)))∧Below w.heap.size w wr)
  (fun _ i _=>l0.length - (intOf i).toNat)
 case atStart=>exact ⟨0,Nat.zero_le _,rfl,World.ownsRow_nil _ _ _ _,Below.refl _ _⟩
 case round =>
  obtain ⟨k,hk,rfl,hown,hnx⟩:=hrel
  have HOW:=Aside0.mk hown
  have HNX:=Aside0.mk hnx
  clear hown hnx
  by_cases hlt:k < l0.length
  case neg =>
   have hkl:k=l0.length:=by omega
   have f0:decide ((k:Int) < (l0.length:Int))=false:=decide_eq_false (by omega)
   have f1:decide (k < l0.length)=false:=decide_eq_false (by omega)
   subst hkl
   have hown:=HOW.out
   rw [List.take_length] at hown
   obtain ⟨l,hl⟩ : ∃ l,l=rowB l0:=⟨_,rfl⟩
   rw [← hl] at hown
   have HLL:=Aside0.mk hl
   clear hl HOW hk hlt
   rcases hown.2 with ⟨hv,h0⟩|⟨g,cap,cur,rfl,-,-,-,-,-,-⟩
   ·subst hv
    have h1:=hown.1
    have e1:l = []:=List.eq_nil_of_length_eq_zero (by omega)
    subst e1
    have hcv:=run_convert_bytes_nil (P:=Tryd.prog) wr 38 5 Tryd.underlying38 Tryd.underlying5 0 0 9 Tryd.underlying9
    clear hown h0 h1
    go_wp2
    go_ret
    refine ⟨?_,HNX.out⟩
    rw [← HLL.out]
    rfl
   ·have hcv:=run_convert_bytes_back (P:=Tryd.prog) wr 38 9 5 ⟨g,0,none⟩ cap l Tryd.underlying38 Tryd.underlying5 Tryd.underlying9 (fun j hj=>hown.cells (g:=g) rfl j _ (by simp [Lib.byteCells,hj]))
    clear hown
    go_wp2
    go_ret
    have hl:=HLL.out
    subst hl
    exact ⟨rfl,HNX.out⟩
  have f0:decide ((k:Int) < (l0.length:Int))=true:=decide_eq_true (by omega)
  have f1:decide (k < l0.length)=true:=decide_eq_true (by omega)
  obtain ⟨ad,rfl,hcell⟩:=Kd.at_int HR.out (k:Int) (by omega) (by omega)
  obtain ⟨x,hx⟩ : ∃ x,x=rd l0 (k:Int):=⟨_,rfl⟩
  rw [← hx] at hcell
  have hxl:x=l0[k]:=by rw [hx];show l0.getD k 0=_;rw [List.getD_eq_getElem?_getD,List.getElem?_eq_getElem hlt];rfl
  have hxo:=okI_iff.1 (HOK.out x (by rw [hxl];exact List.getElem_mem hlt))
  have hcell1:wr.cell? (ad.add k)=some (.int .i64 x):=by
   have h1:=HNX.out.cell (World.block_lt_of_cell? _ _ hcell)
   exact h1.trans hcell
  have HX:=Aside0.mk hxl
  have HXO:=Aside0.mk hxo
  clear hcell hx hxl hxo
  have HLT:=Aside0.mk hlt
  have HK:=Aside0.mk (show (rowB (l0.take k)).length≤22 * k by
   have h1:=rowB_len (l0.take k) (fun y hy=>HOK.out y (List.mem_of_mem_take hy))
   rw [List.length_take] at h1
   omega)
  have HE:=Aside0.mk (show rowB (l0.take (k + 1))=rowB (l0.take k) ++ ((if l0.take k = [] then [] else [44]) ++ Lib.itoa x) by
   rw [List.take_succ_eq_append_getElem hlt,← HX.out,rowB_snoc])
  have HS:=Aside0.mk (HNX.out.size)
  have HW:=Aside0.mk (show wrap64 ((k:Int) + 1)=((k + 1:Nat):Int) by have:=HL.out;unfold wrap64;omega)
  clear HX
  by_cases h0:k=0
  ·have g0:decide (0 < (k:Int))=false:=decide_eq_false (by omega)
   have g1:decide (0 < k)=false:=decide_eq_false (by omega)
   have H0:=Aside0.mk h0
   clear h0 hk
   go_wp2_with (go_at_call 44;refine (Tryd.strconv_AppendInt_10 w.heap.size _ x HXO.out.1 HXO.out.2 u3 _ wr HOW.out HS.out (by have:=HL.out;have:=HLT.out;have:=HK.out;omega) (HTB.out.on HNX.out)).mono ?_;rintro e w1 ⟨v1,rfl,hown1,hnx1,-⟩;refine Hid.out ?_)
   refine Lib.hid ?_
   have HOW1:=Aside0.mk hown1
   have HNX1:=Aside0.mk (HNX.out.trans hnx1)
   clear hown1 hnx1
   go_wp2
   go_roundw
   case rel =>
    refine ⟨k + 1,HLT.out,by rw [HW.out],?_,HNX1.out⟩
    have h1:=HOW1.out
    have e0:l0.take k = []:=by rw [H0.out];rfl
    rw [HE.out,if_pos e0,List.nil_append,e0]
    rw [e0,← Lib.byteCells_append,← List.length_append] at h1
    exact h1
   case measure=>have:=HLT.out;rw [HW.out];simp only [intOf];omega
  ·have g0:decide (0 < (k:Int))=true:=decide_eq_true (by omega)
   have g1:decide (0 < k)=true:=decide_eq_true (by omega)
   have H0:=Aside0.mk h0
   clear h0 hk
   go_wp2_with (at_builtin;refine wpList_append_own _ rfl _ _ 38 rfl w.heap.size 5 i0 (.int .u8 0) 1 1 Tryd.underlying38 hi hz0 hz1 hz2 rfl (by decide) _ _ _ rfl (HOW.out.alloc _) ⟨wr.heap.size,0,none⟩ 1 1 [Value.int .u8 44] rfl rfl (by intro j u' hj;match j,hj with|0,hj=>simp at hj;subst hj;simp [Addr.add]) (by intro u' hu';simp at hu';subst hu';rfl) (by have:=HL.out;have:=HLT.out;have:=HK.out;unfold maxLen;omega) (by have:=HL.out;have:=HLT.out;have:=HK.out;omega) (by have:=HS.out;simp;omega) ?_)
   intro v2 w2 hown2 hgrow _
   have hnx2:Below w.heap.size w w2:=(HNX.out.alloc (by have:=HS.out;omega) _).grown hgrow (by have:=HS.out;simp;omega) (fun k_ hk_=>(HOW.out.lt k_ hk_).1)
   have HOW2:=Aside0.mk hown2
   have HNX2:=Aside0.mk hnx2
   clear hown2 hgrow hnx2
   go_wp2_with (go_at_call 44;refine (Tryd.strconv_AppendInt_10 w.heap.size _ x HXO.out.1 HXO.out.2 v2 _ w2 HOW2.out HNX2.out.size (by have:=HL.out;have:=HLT.out;have:=HK.out;omega) (HTB.out.on HNX2.out)).mono ?_;rintro e w1 ⟨v1,rfl,hown1,hnx1,-⟩;refine Hid.out ?_)
   refine Lib.hid ?_
   have HOW1:=Aside0.mk hown1
   have HNX1:=Aside0.mk (HNX2.out.trans hnx1)
   clear hown1 hnx1
   go_wp2
   go_roundw
   case rel =>
    refine ⟨k + 1,HLT.out,by rw [HW.out],?_,HNX1.out⟩
    have h1:=HOW1.out
    have e0:l0.take k≠[]:=by
     intro e
     have:=congrArg List.length e
     rw [List.length_take] at this
     have h2:=H0.out;have h3:=HLT.out
     rw [List.length_nil] at this
     omega
    rw [HE.out,if_neg e0,← List.append_assoc,Lib.byteCells_append,Lib.byteCells_append,List.length_append,List.length_append]
    exact h1
   case measure=>have:=HLT.out;rw [HW.out];simp only [intOf];omega

/-! ### spec_l1Cell: function 63 -/
def spec_l1Cell.f (a0:Int):Option (Bool):=if a0 ≥ (-1000000000) then (some (decide (a0≤1000000000))) else (some false)
set_option maxHeartbeats 8000000 in
set_option maxRecDepth 100000 in
theorem spec_l1Cell.calls (a0:Int) (r:Bool) (w:World) (h:spec_l1Cell.f a0=some r) :
  Calls Tryd.prog 63 #[.int .i64 a0] w fun e w'=>e=.returned (.bool r)∧Drawn0 w w':=by
 have H:(if a0 ≥ (-1000000000) then (some (decide (a0≤1000000000))) else (some false))=some r:=h
 clear h
 by_cases c2:a0 ≥ (-1000000000)
 ·rw [if_pos c2] at H
  have c2b0:decide ((-1000000000)≤a0)=true:=decide_eq_true c2
  clear c2
  obtain rfl:=Option.some.inj H
  go_enter Tryd.func63,Tryd.ntmps63
  go_wp2
  go_ret
  exact ⟨by first|rfl|(simp;done)|(simp [*];done),zdw⟩
 ·rw [if_neg c2] at H
  have c2b0:decide ((-1000000000)≤a0)=false:=decide_eq_false c2
  clear c2
  obtain rfl:=Option.some.inj H
  go_enter Tryd.func63,Tryd.ntmps63
  go_wp2
  go_ret
  exact ⟨by first|rfl|(simp;done)|(simp [*];done),zdw⟩

/-! ### spec_RowOk: function 33 -/
def spec_RowOk.l0:Nat→List Int→Int→Option (Bool)
 | 0,_,_=>none
 | k + 1,x0,x3=>if x3 < (x0.length:Int) then (if 0≤x3 then ((spec_l1Cell.f (rd x0 x3)).bind fun t113=>(if t113=true then (spec_RowOk.l0 k x0 (wrap64 (x3 + 1))) else (some false))) else (none)) else (if (x0.length:Int) ≥ 1 then (some (decide ((x0.length:Int)≤6))) else (some false))
def spec_RowOk.f (k:Nat) (l0:List Int):Option (Bool):=spec_RowOk.l0 k l0 0
theorem spec_RowOk.mono_l : ∀ k,(∀ y0 y1,LeO (spec_RowOk.l0 k y0 y1) (spec_RowOk.l0 (k + 1) y0 y1))
 | 0=>fun _ _ r h=>by simp [spec_RowOk.l0] at h
 | k + 1=>by
  have ih0:=spec_RowOk.mono_l k
  ·intro y0 y1
   unfold spec_RowOk.l0
   repeat' first
   | (with_reducible exact ih0 _ _)
   | (with_reducible exact LeO.refl _)
   | (with_reducible exact LeO.none _)
   | (with_reducible refine LeO.ite ?_ ?_)
   | (with_reducible refine LeO.bind ?_ (fun _=>?_))
   | exact LeO.none _
   | refine LeO.ite ?_ ?_
   | refine LeO.bind ?_ (fun _=>?_)
theorem spec_RowOk.mono : ∀ a0 k,LeO (spec_RowOk.f k a0) (spec_RowOk.f (k + 1) a0):=by
 intro a0 k
 have ih0:=spec_RowOk.mono_l k
 unfold spec_RowOk.f
 repeat' first
   | (with_reducible exact ih0 _ _)
   | (with_reducible exact LeO.refl _)
   | (with_reducible exact LeO.none _)
   | (with_reducible refine LeO.ite ?_ ?_)
   | (with_reducible refine LeO.bind ?_ (fun _=>?_))
   | exact LeO.none _
   | refine LeO.ite ?_ ?_
   | refine LeO.bind ?_ (fun _=>?_)
set_option maxHeartbeats 8000000 in
set_option maxRecDepth 100000 in
theorem spec_RowOk.calls (k:Nat) (A0:Option Addr) (c0:Nat) (l0:List Int) (r:Bool) (w:World) (hr0:Kd.C (Kd.int .i64) w A0 l0.length l0) (hc0:l0.length≤c0) (h:spec_RowOk.f k l0=some r) :
  Calls Tryd.prog 33 #[.slice A0 l0.length c0] w fun e w'=>e=.returned (.bool r)∧Drawn0 w w':=by
 have HR0:=Aside0.mk hr0
 have HC0:=Aside0.mk hc0
 clear hr0 hc0
 have H:(spec_RowOk.l0 k l0 0)=some r:=h
 clear h
 have H':=Aside0.mk H
 clear H
 go_enter Tryd.func33,Tryd.ntmps33
 go_wp2
 go_loopg [3] k (fun kq v3 w'=>∃ (x3_1:Int),v3=.int .i64 x3_1∧Aside0 (spec_RowOk.l0 kq l0 x3_1=some r)∧Aside0 (kq≤k)∧Drawn0 w w')
 case atStart=>exact ⟨(0),(by first|rfl|(simp;done)|(simp [*];done)),H',⟨Nat.le_refl _⟩,zdw⟩
 case round =>
  clear H'
  obtain ⟨x3_1,rfl,HA,HK1,⟨m1,rfl⟩⟩:=hrel
  cases gk with
  | zero=>exact absurd HA.out (by simp [spec_RowOk.l0])
  | succ k1 =>
   have H:=HA.out
   clear HA
   simp only [spec_RowOk.l0] at H
   by_cases c2:x3_1 < (l0.length:Int)
   ·rw [if_pos c2] at H
    have c2b0:decide (x3_1 < (l0.length:Int))=true:=decide_eq_true c2
    clear c2
    by_cases c3:0≤x3_1
    ·rw [if_pos c3] at H
     have c3b0:decide (0≤x3_1)=true:=decide_eq_true c3
     clear c3
     replace H:=Option.bind_eq_some_iff.mp H
     obtain ⟨t113,A40,H⟩:=H
     (try dsimp only at H)
     have A4:=Aside0.mk A40
     clear A40
     by_cases c5:t113=true
     ·subst c5
      have H1:(spec_RowOk.l0 k1 l0 (wrap64 (x3_1 + 1)))=some r:=by rw [if_pos rfl] at H;exact H
      clear H
      have H:=H1
      clear H1
      have H':=Aside0.mk H
      clear H
      have p112:0≤(x3_1:Int):=zod
      have q112:x3_1 < (l0.length:Int):=zod
      obtain ⟨ad112,e112,hx112_0⟩:=Kd.at_int HR0.out x3_1 p112 q112
      cases e112
      replace p112:=eq_true p112
      replace q112:=eq_true q112
      go_wp2_with (first|((with_reducible refine gate_callee (f:=63) rfl ?_);refine goesL_ (some 14) rfl rfl Tryd.func63 (by kernel_rfl) rfl #[.int .i64 (rd l0 x3_1)] rfl zar ?_;(with_reducible refine (spec_l1Cell.calls (rd l0 x3_1) true _ A4.out).mono ?_);rintro e w' ⟨rfl,⟨nd,rfl⟩⟩;refine ⟨_,rfl,?_⟩))
      go_roundg k1
      case measure=>have:=HK1.out;omega
      case rel=>exact ⟨(wrap64 (x3_1 + 1)),(by first|rfl|(simp;done)|(simp [*];done)),H',⟨by have:=HK1.out;omega⟩,zdw⟩
     ·replace c5:=Bool.eq_false_iff.mpr c5
      subst c5
      have H1:(some false)=some r:=by rw [if_neg (show ¬ (false=true) by decide)] at H;exact H
      clear H
      have H:=H1
      clear H1
      obtain rfl:=Option.some.inj H
      have p112:0≤(x3_1:Int):=zod
      have q112:x3_1 < (l0.length:Int):=zod
      obtain ⟨ad112,e112,hx112_0⟩:=Kd.at_int HR0.out x3_1 p112 q112
      cases e112
      replace p112:=eq_true p112
      replace q112:=eq_true q112
      go_wp2_with (first|((with_reducible refine gate_callee (f:=63) rfl ?_);refine goesL_ (some 14) rfl rfl Tryd.func63 (by kernel_rfl) rfl #[.int .i64 (rd l0 x3_1)] rfl zar ?_;(with_reducible refine (spec_l1Cell.calls (rd l0 x3_1) false _ A4.out).mono ?_);rintro e w' ⟨rfl,⟨nd,rfl⟩⟩;refine ⟨_,rfl,?_⟩))
      go_ret
      exact ⟨by first|rfl|(simp;done)|(simp [*];done),zdw⟩
    ·rw [if_neg c3] at H
     exact absurd H (by simp)
   ·rw [if_neg c2] at H
    have c2b0:decide (x3_1 < (l0.length:Int))=false:=decide_eq_false c2
    clear c2
    by_cases c6:(l0.length:Int) ≥ 1
    ·rw [if_pos c6] at H
     have c6b0:decide (1≤(l0.length:Int))=true:=decide_eq_true c6
     have c6b1:decide (1≤l0.length)=true:=decide_eq_true (by omega)
     clear c6
     obtain rfl:=Option.some.inj H
     go_wp2
     go_ret
     exact ⟨by first|rfl|(simp;done)|(simp [*];done),zdw⟩
    ·rw [if_neg c6] at H
     have c6b0:decide (1≤(l0.length:Int))=false:=decide_eq_false c6
     have c6b1:decide (1≤l0.length)=false:=decide_eq_false (by omega)
     clear c6
     obtain rfl:=Option.some.inj H
     go_wp2
     go_ret
     exact ⟨by first|rfl|(simp;done)|(simp [*];done),zdw⟩

/-! ### spec_l12Cut: function 36 -/
def spec_l12Cut.l0:Nat→ByteArray→Int→List ByteArray→Int→Int→Option (List ByteArray)
 | 0,_,_,_,_,_=>none
 | k + 1,x0,x1,x5,x6,x7=>if x7≤(x0.size:Int) then (if x7=(x0.size:Int) then (if 0≤x6 then (if x6≤x7 then (if x5.length < 8796093022208 then (spec_l12Cut.l0 k x0 x1 (x5 ++ [x0.extract (x6:Int).toNat (x7:Int).toNat]) (wrap64 (x7 + 1)) (wrap64 (x7 + 1))) else (none)) else (none)) else (none)) else (if 0≤x7 then (if x7 < (x0.size:Int) then (if (bt x0 x7)=x1 then (if 0≤x6 then (if x6≤x7 then (if x5.length < 8796093022208 then (spec_l12Cut.l0 k x0 x1 (x5 ++ [x0.extract (x6:Int).toNat (x7:Int).toNat]) (wrap64 (x7 + 1)) (wrap64 (x7 + 1))) else (none)) else (none)) else (none)) else (spec_l12Cut.l0 k x0 x1 x5 x6 (wrap64 (x7 + 1)))) else (none)) else (none))) else (some x5)
def spec_l12Cut.f (k:Nat) (a0:ByteArray) (a1:Int):Option (List ByteArray):=spec_l12Cut.l0 k a0 a1 (([]:List ByteArray)) 0 0
theorem spec_l12Cut.mono_l : ∀ k,(∀ y0 y1 y2 y3 y4,LeO (spec_l12Cut.l0 k y0 y1 y2 y3 y4) (spec_l12Cut.l0 (k + 1) y0 y1 y2 y3 y4))
 | 0=>fun _ _ _ _ _ r h=>by simp [spec_l12Cut.l0] at h
 | k + 1=>by
  have ih0:=spec_l12Cut.mono_l k
  ·intro y0 y1 y2 y3 y4
   unfold spec_l12Cut.l0
   repeat' first
   | (with_reducible exact ih0 _ _ _ _ _)
   | (with_reducible exact LeO.refl _)
   | (with_reducible exact LeO.none _)
   | (with_reducible refine LeO.ite ?_ ?_)
   | (with_reducible refine LeO.bind ?_ (fun _=>?_))
   | exact LeO.none _
   | refine LeO.ite ?_ ?_
   | refine LeO.bind ?_ (fun _=>?_)
theorem spec_l12Cut.mono : ∀ a0 a1 k,LeO (spec_l12Cut.f k a0 a1) (spec_l12Cut.f (k + 1) a0 a1):=by
 intro a0 a1 k
 have ih0:=spec_l12Cut.mono_l k
 unfold spec_l12Cut.f
 repeat' first
   | (with_reducible exact ih0 _ _ _ _ _)
   | (with_reducible exact LeO.refl _)
   | (with_reducible exact LeO.none _)
   | (with_reducible refine LeO.ite ?_ ?_)
   | (with_reducible refine LeO.bind ?_ (fun _=>?_))
   | exact LeO.none _
   | refine LeO.ite ?_ ?_
   | refine LeO.bind ?_ (fun _=>?_)
set_option maxHeartbeats 8000000 in
set_option maxRecDepth 100000 in
theorem spec_l12Cut.calls (k:Nat) (a0:ByteArray) (a1:Int) (r:List ByteArray) (w:World) (h:spec_l12Cut.f k a0 a1=some r) :
  Calls Tryd.prog 36 #[.string a0,.int .u8 a1] w fun e w'=>∃ v0_:Value,e=.returned (v0_)∧Kd.R Kd.string 9 w' w.heap.size (fun _=>True) v0_ r∧Below w.heap.size w w':=by
 have HB:=Aside0.mk (Below.refl w.heap.size w)
 have H:(spec_l12Cut.l0 k a0 a1 (([]:List ByteArray)) 0 0)=some r:=h
 clear h
 obtain ⟨y114,hy114⟩ : ∃ y_:List ByteArray,y_=(([]:List ByteArray)):=⟨_,rfl⟩
 replace H:(spec_l12Cut.l0 k a0 a1 y114 0 0)=some r:=by first|(rw [hy114];with_reducible exact H)|(have H2_:=(Option.bind_some _ _).symm.trans H;rw [hy114];with_reducible exact H2_)|(have H2_:=(Option.bind_some _ _).symm.trans H;with_reducible exact H2_)|with_reducible exact H|(rw [hy114];exact H)|exact H
 have Ny114:=Aside0.mk hy114
 clear hy114
 have H':=Aside0.mk H
 clear H
 go_enter Tryd.func36,Tryd.ntmps36
 go_wp2_with (first|((with_reducible refine gate_dst (N:=8) rfl ?_);refine Kd.R_lit Kd.string _ 9 ?hg (N:=8) ?hd (xs:=([]:List ByteArray)) (inner:=[]) (ok:=fun _=>True) (okp:=fun _=>True) ?hr ?hp (fun _ hk=>hk) trivial (Below.refl _ _) (Nat.le_refl _) (by simp) ?_;(case hd=>rfl);(case hg=>rfl);(case hr=>first|(go_simp;done)|(go_simp;rfl));(case hp=>exact (Reps.none _ _));intro v115 w3 ho4 hb hg_ hnew_;clear hg_ hnew_;(first|rw [← Ny114.out] at ho4|(simp only [Int.reduceToNat] at ho4;rw [← Ny114.out] at ho4));have n0_:=Aside0.mk (Kd.R_lower ho4 (below_size zhb));have n1_:=Aside0.mk (below_step zhb hb);clear HB;have HO116:=n0_;have HB:=n1_;clear n0_ n1_;clear hb ho4))
 go_loopg [5,6,7] k (fun kq v5 v6 v7 w'=>∃ (x5_1:List ByteArray) (x6_1:Int) (x7_1:Int),v6=.int .i64 x6_1∧v7=.int .i64 x7_1∧Aside0 (spec_l12Cut.l0 kq a0 a1 x5_1 x6_1 x7_1=some r)∧Aside0 (kq≤k)∧Aside0 (Kd.R Kd.string 9 w' w.heap.size (fun _=>True) v5 x5_1)∧Aside0 (Below w.heap.size w w'))
 case atStart=>exact ⟨(y114),(0),(0),(by first|rfl|(simp;done)|(simp [*];done)),(by first|rfl|(simp;done)|(simp [*];done)),H',⟨Nat.le_refl _⟩,⟨by (with_reducible repeat (first|apply Kd.R_alloc|apply Kd.R_drewN|apply Kd.R_drew));exact HO116.out⟩,⟨zhb⟩⟩
 case round =>
  clear H'
  try clear p2
  try clear c3
  obtain ⟨x5_1,x6_1,x7_1,rfl,rfl,HA,HK1,HO_5,HB⟩:=hrel
  cases gk with
  | zero=>exact absurd HA.out (by simp [spec_l12Cut.l0])
  | succ k1 =>
   have H:=HA.out
   clear HA
   simp only [spec_l12Cut.l0] at H
   by_cases c5:x7_1≤(a0.size:Int)
   ·rw [if_pos c5] at H
    have c5b0:decide (x7_1≤(a0.size:Int))=true:=decide_eq_true c5
    clear c5
    by_cases c6:x7_1=(a0.size:Int)
    ·rw [if_pos c6] at H
     have c6b0:(x7_1 == (a0.size:Int))=true:=beq_iff_eq.mpr c6
     have c6b1:(x7_1 != (a0.size:Int))=false:=bne_eq_false_iff_eq.mpr c6
     clear c6
     by_cases c7:0≤x6_1
     ·rw [if_pos c7] at H
      have c7b0:=eq_true c7
      have c7b1:decide (0≤x6_1)=true:=decide_eq_true c7
      clear c7
      by_cases c8:x6_1≤x7_1
      ·rw [if_pos c8] at H
       have c8b0:=eq_true c8
       have c8b1:decide (x6_1≤x7_1)=true:=decide_eq_true c8
       clear c8
       have c9b0:=eq_true (zod:x7_1≤(a0.size:Int))
       by_cases c10:x5_1.length < 8796093022208
       ·rw [if_pos c10] at H
        have LMc10:=Aside0.mk c10
        clear c10
        obtain ⟨y117,hy117⟩ : ∃ y_:List ByteArray,y_=(x5_1 ++ [a0.extract (x6_1:Int).toNat (x7_1:Int).toNat]):=⟨_,rfl⟩
        replace H:(spec_l12Cut.l0 k1 a0 a1 y117 (wrap64 (x7_1 + 1)) (wrap64 (x7_1 + 1)))=some r:=by first|(rw [hy117];with_reducible exact H)|(have H2_:=(Option.bind_some _ _).symm.trans H;rw [hy117];with_reducible exact H2_)|(have H2_:=(Option.bind_some _ _).symm.trans H;with_reducible exact H2_)|with_reducible exact H|(rw [hy117];exact H)|exact H
        have Ny117:=Aside0.mk hy117
        clear hy117
        have H':=Aside0.mk H
        clear H
        go_wp2_with (first|((with_reducible refine gate_builtin (b:=.append) (xs:=#[.tmp 26,.tmp 31]) rfl ?_);at_builtin;refine Kd.R_append Kd.string (w0:=w) w.heap.size rfl (.tmp 26) (.tmp 31) 50 9 (.string ⟨#[]⟩) 16 rfl Tryd.underlying50 info9 rfl (by decide) (by omega) u5 x5_1 (a0.extract (x6_1:Int).toNat (x7_1:Int).toNat) [.string (a0.extract (x6_1:Int).toNat (x7_1:Int).toNat)] (fun _=>True) (fun _=>False) rfl rfl ?aP (fun _ hk=>hk.elim) ?aF ?aO ?aB ?aS ?aL ?_;(case aP=>exact rfl);(case aB=>exact zhb);(case aF=>exact (fun _ _=>trivial));(case aO=>exact (by (with_reducible repeat (first|apply Kd.R_alloc|apply Kd.R_drewN|apply Kd.R_drew));exact HO_5.out));(case aS=>exact (below_size zhb));(case aL=>have:=LMc10.out;omega);intro v118 w11 ho hb hg hat;rw [← Ny117.out] at ho;have n0_:=Aside0.mk (hb);have n1_:=Aside0.mk (ho);clear HB;clear HO_5;have HB:=n0_;have HO119:=n1_;clear n0_ n1_;clear ho hb hg hat))
        go_roundg k1
        case measure=>have:=HK1.out;omega
        case rel=>exact ⟨(y117),(wrap64 (x7_1 + 1)),(wrap64 (x7_1 + 1)),(by first|rfl|(simp;done)|(simp [*];done)),(by first|rfl|(simp;done)|(simp [*];done)),H',⟨by have:=HK1.out;omega⟩,⟨by (with_reducible repeat (first|apply Kd.R_alloc|apply Kd.R_drewN|apply Kd.R_drew));exact HO119.out⟩,⟨zhb⟩⟩
       ·rw [if_neg c10] at H
        exact absurd H (by simp)
      ·rw [if_neg c8] at H
       exact absurd H (by simp)
     ·rw [if_neg c7] at H
      exact absurd H (by simp)
    ·rw [if_neg c6] at H
     have c6b0:(x7_1 == (a0.size:Int))=false:=beq_eq_false_iff_ne.mpr c6
     have c6b1:(x7_1 != (a0.size:Int))=true:=bne_iff_ne.mpr c6
     by_cases c12:0≤x7_1
     ·rw [if_pos c12] at H
      have c12b0:decide (0≤x7_1)=true:=decide_eq_true c12
      clear c12
      by_cases c13:x7_1 < (a0.size:Int)
      ·rw [if_pos c13] at H
       have c13b0:decide (x7_1 < (a0.size:Int))=true:=decide_eq_true c13
       clear c13
       by_cases c15:(bt a0 x7_1)=a1
       ·rw [if_pos c15] at H
        have c15b0:((bt a0 x7_1) == a1)=true:=beq_iff_eq.mpr c15
        have c15b1:((bt a0 x7_1) != a1)=false:=bne_eq_false_iff_eq.mpr c15
        clear c15
        by_cases c16:0≤x6_1
        ·rw [if_pos c16] at H
         have c16b0:=eq_true c16
         have c16b1:decide (0≤x6_1)=true:=decide_eq_true c16
         clear c16
         by_cases c17:x6_1≤x7_1
         ·rw [if_pos c17] at H
          have c17b0:=eq_true c17
          have c17b1:decide (x6_1≤x7_1)=true:=decide_eq_true c17
          clear c17
          have c18b0:=eq_true (zod:x7_1≤(a0.size:Int))
          by_cases c19:x5_1.length < 8796093022208
          ·rw [if_pos c19] at H
           have LMc19:=Aside0.mk c19
           clear c19
           obtain ⟨y120,hy120⟩ : ∃ y_:List ByteArray,y_=(x5_1 ++ [a0.extract (x6_1:Int).toNat (x7_1:Int).toNat]):=⟨_,rfl⟩
           replace H:(spec_l12Cut.l0 k1 a0 a1 y120 (wrap64 (x7_1 + 1)) (wrap64 (x7_1 + 1)))=some r:=by first|(rw [hy120];with_reducible exact H)|(have H2_:=(Option.bind_some _ _).symm.trans H;rw [hy120];with_reducible exact H2_)|(have H2_:=(Option.bind_some _ _).symm.trans H;with_reducible exact H2_)|with_reducible exact H|(rw [hy120];exact H)|exact H
           have Ny120:=Aside0.mk hy120
           clear hy120
           have H':=Aside0.mk H
           clear H
           have p14:0≤(x7_1:Int):=zod
           have q14:x7_1 < (a0.size:Int):=zod
           have hx14:=bt_at a0 x7_1
           replace p14:=eq_true p14
           replace q14:=eq_true q14
           go_wp2_with (first|((with_reducible refine gate_builtin (b:=.append) (xs:=#[.tmp 26,.tmp 31]) rfl ?_);at_builtin;refine Kd.R_append Kd.string (w0:=w) w.heap.size rfl (.tmp 26) (.tmp 31) 50 9 (.string ⟨#[]⟩) 16 rfl Tryd.underlying50 info9 rfl (by decide) (by omega) u5 x5_1 (a0.extract (x6_1:Int).toNat (x7_1:Int).toNat) [.string (a0.extract (x6_1:Int).toNat (x7_1:Int).toNat)] (fun _=>True) (fun _=>False) rfl rfl ?aP (fun _ hk=>hk.elim) ?aF ?aO ?aB ?aS ?aL ?_;(case aP=>exact rfl);(case aB=>exact zhb);(case aF=>exact (fun _ _=>trivial));(case aO=>exact (by (with_reducible repeat (first|apply Kd.R_alloc|apply Kd.R_drewN|apply Kd.R_drew));exact HO_5.out));(case aS=>exact (below_size zhb));(case aL=>have:=LMc19.out;omega);intro v121 w20 ho hb hg hat;rw [← Ny120.out] at ho;have n0_:=Aside0.mk (hb);have n1_:=Aside0.mk (ho);clear HB;clear HO_5;have HB:=n0_;have HO122:=n1_;clear n0_ n1_;clear ho hb hg hat))
           go_roundg k1
           case measure=>have:=HK1.out;omega
           case rel=>exact ⟨(y120),(wrap64 (x7_1 + 1)),(wrap64 (x7_1 + 1)),(by first|rfl|(simp;done)|(simp [*];done)),(by first|rfl|(simp;done)|(simp [*];done)),H',⟨by have:=HK1.out;omega⟩,⟨by (with_reducible repeat (first|apply Kd.R_alloc|apply Kd.R_drewN|apply Kd.R_drew));exact HO122.out⟩,⟨zhb⟩⟩
          ·rw [if_neg c19] at H
           exact absurd H (by simp)
         ·rw [if_neg c17] at H
          exact absurd H (by simp)
        ·rw [if_neg c16] at H
         exact absurd H (by simp)
       ·rw [if_neg c15] at H
        have c15b0:((bt a0 x7_1) == a1)=false:=beq_eq_false_iff_ne.mpr c15
        have c15b1:((bt a0 x7_1) != a1)=true:=bne_iff_ne.mpr c15
        have H':=Aside0.mk H
        clear H
        have p14:0≤(x7_1:Int):=zod
        have q14:x7_1 < (a0.size:Int):=zod
        have hx14:=bt_at a0 x7_1
        replace p14:=eq_true p14
        replace q14:=eq_true q14
        go_wp2
        go_roundg k1
        case measure=>have:=HK1.out;omega
        case rel=>exact ⟨(x5_1),(x6_1),(wrap64 (x7_1 + 1)),(by first|rfl|(simp;done)|(simp [*];done)),(by first|rfl|(simp;done)|(simp [*];done)),H',⟨by have:=HK1.out;omega⟩,⟨by (with_reducible repeat (first|apply Kd.R_alloc|apply Kd.R_drewN|apply Kd.R_drew));exact HO_5.out⟩,⟨zhb⟩⟩
      ·rw [if_neg c13] at H
       exact absurd H (by simp)
     ·rw [if_neg c12] at H
      exact absurd H (by simp)
   ·rw [if_neg c5] at H
    have c5b0:decide (x7_1≤(a0.size:Int))=false:=decide_eq_false c5
    clear c5
    obtain rfl:=Option.some.inj H
    go_wp2
    go_ret
    exact ⟨_,by first|rfl|(simp [errW_none,errW_some] <;> rfl)|(simp [*,errW_none,errW_some] <;> rfl),by (with_reducible repeat (first|apply Kd.R_alloc|apply Kd.R_drewN|apply Kd.R_drew));exact HO_5.out,zhb⟩

end Go.Proofs.YtgcplipimcbhlaaDoor.PFnRow
