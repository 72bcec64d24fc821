-- Written by wip/tools/pp.py, a program of this session over the kit's printer: not the kit's own print
import Derived.Test.YtgcplipimcbhlaaGreatDoorPFnZTextx0
import Derived.Test.YtgcplipimcbhlaaGreatDoorPFnZTextx1
import Derived.Test.YtgcplipimcbhlaaGreatDoorPFnZTextx10
namespace Go.Proofs.YtgcplipimcbhlaaGreatDoor.PFnZText
open Go.RowKit Go.Proofs.YtgcplipimcbhlaaGreatDoorW.PrintWords Go.Proofs.YtgcplipimcbhlaaGreatDoorW.PrintLast Go.Proofs.YtgcplipimcbhlaaGreatDoorW.PrintMore
attribute [local go_sem] max2_int min2_int max_two min_two max_three min_three max_four min_four   -- for this text's walks alone
set_option linter.unusedVariables false
set_option linter.unusedSimpArgs false

/-! ### spec_ZText: function 13 -/
def spec_ZText.l0:Nat→List (S33)→ByteArray→Int→Option (ByteArray)
 | 0,_,_,_=>none
 | k + 1,x0,x3,x4=>if x4 < (x0.length:Int) then (if x4 > 0 then (if x3.size + 1≤9223372036854775807 then (if 0≤x4 then ((spec_RowText.f k ((rd_T33 x0 x4).f0)).bind fun t263=>(if (x3 ++ (⟨#[32]⟩:ByteArray)).size + t263.size≤9223372036854775807 then (if ((x3 ++ (⟨#[32]⟩:ByteArray)) ++ t263).size + 1≤9223372036854775807 then ((spec_l12Dec.f k ((rd_T33 x0 x4).f1)).bind fun t265=>(if (((x3 ++ (⟨#[32]⟩:ByteArray)) ++ t263) ++ (⟨#[42]⟩:ByteArray)).size + t265.size≤9223372036854775807 then (spec_ZText.l0 k x0 ((((x3 ++ (⟨#[32]⟩:ByteArray)) ++ t263) ++ (⟨#[42]⟩:ByteArray)) ++ t265) (wrap64 (x4 + 1))) else (none))) else (none)) else (none))) else (none)) else (none)) else (if 0≤x4 then ((spec_RowText.f k ((rd_T33 x0 x4).f0)).bind fun t267=>(if x3.size + t267.size≤9223372036854775807 then (if (x3 ++ t267).size + 1≤9223372036854775807 then ((spec_l12Dec.f k ((rd_T33 x0 x4).f1)).bind fun t269=>(if ((x3 ++ t267) ++ (⟨#[42]⟩:ByteArray)).size + t269.size≤9223372036854775807 then (spec_ZText.l0 k x0 (((x3 ++ t267) ++ (⟨#[42]⟩:ByteArray)) ++ t269) (wrap64 (x4 + 1))) else (none))) else (none)) else (none))) else (none))) else (some x3)
def spec_ZText.f (k:Nat) (l0:List (S33)):Option (ByteArray):=spec_ZText.l0 k l0 (⟨#[]⟩:ByteArray) 0
theorem spec_ZText.mono_l : ∀ k,(∀ y0 y1 y2,LeO (spec_ZText.l0 k y0 y1 y2) (spec_ZText.l0 (k + 1) y0 y1 y2))
 | 0=>fun _ _ _ r h=>by simp [spec_ZText.l0] at h
 | k + 1=>by
  have ih0:=spec_ZText.mono_l k
  ·intro y0 y1 y2
   unfold spec_ZText.l0
   repeat' first
   | (with_reducible exact ih0 _ _ _)
   | (with_reducible exact spec_RowText.mono _ _)
   | (with_reducible exact spec_l12Dec.mono _ _)
   | (with_reducible exact LeO.refl _)
   | (with_reducible exact LeO.none _)
   | (with_reducible refine LeO.ite ?_ ?_)
   | (with_reducible refine LeO.bind ?_ (fun _=>?_))
   | exact LeO.none _
   | refine LeO.ite ?_ ?_
   | refine LeO.bind ?_ (fun _=>?_)
theorem spec_ZText.mono : ∀ a0 k,LeO (spec_ZText.f k a0) (spec_ZText.f (k + 1) a0):=by
 intro a0 k
 have ih0:=spec_ZText.mono_l k
 unfold spec_ZText.f
 repeat' first
   | (with_reducible exact ih0 _ _ _)
   | (with_reducible exact spec_RowText.mono _ _)
   | (with_reducible exact spec_l12Dec.mono _ _)
   | (with_reducible exact LeO.refl _)
   | (with_reducible exact LeO.none _)
   | (with_reducible refine LeO.ite ?_ ?_)
   | (with_reducible refine LeO.bind ?_ (fun _=>?_))
   | exact LeO.none _
   | refine LeO.ite ?_ ?_
   | refine LeO.bind ?_ (fun _=>?_)
def spec_ZText.T7:Bool × List (List Nat × List Nat):=(true,[([],[]),([],[]),([],[]),([1,2],[1,2]),([3],[3]),([4],[4]),([5],[5]),([0,6],[0,6]),([7],[7]),([],[]),([],[]),([9,10],[9,10]),([11],[11]),([12],[12]),([13,6],[13]),([8,14],[8,14]),([15,14,0,1,2,3,4,5,6,7,8,9,10,11,12,13,14,15],[0,15])])
def spec_ZText.B7:List Nat:=[0,0,0,6,14,30,62,127,255,0,0,1536,3584,7680,15998,32767,65535]
theorem spec_ZText.tab7:rtab .any (opsOf Tryz.f13 7)=spec_ZText.T7:=by kernel_rfl
theorem spec_ZText.bits7:waitsOk spec_ZText.T7.2 spec_ZText.B7=true:=by kernel_rfl
set_option maxHeartbeats 8000000 in
set_option maxRecDepth 100000 in
theorem spec_ZText.calls (k:Nat) (A0:Option Addr) (c0:Nat) (l0:List (S33)) (r:ByteArray) (w:World) (hr0:Kd.C k33 w A0 l0.length l0) (hc0:l0.length≤c0) (h:spec_ZText.f k l0=some r) :
  Calls Tryz.prog 13 #[.slice A0 l0.length c0] w fun e w'=>e=.returned (.string r)∧Below w.heap.size w w':=by
 have HR0:=Aside0.mk hr0
 have HC0:=Aside0.mk hc0
 clear hr0 hc0
 have HB:=Aside0.mk (Below.refl w.heap.size w)
 have H:(spec_ZText.l0 k l0 (⟨#[]⟩:ByteArray) 0)=some r:=h
 clear h
 have H':=Aside0.mk H
 clear H
 go_enter Tryz.func13,Tryz.ntmps13
 go_wp2
 go_loopg [3,4] k (fun kq v3 v4 w'=>∃ (x3_1:ByteArray) (x4_1:Int),v3=.string x3_1∧v4=.int .i64 x4_1∧Aside0 (spec_ZText.l0 kq l0 x3_1 x4_1=some r)∧Aside0 (kq≤k)∧Aside0 (Below w.heap.size w w'))
 case atStart=>exact ⟨((⟨#[]⟩:ByteArray)),(0),(by first|rfl|(simp;done)|(simp [*];done)),(by first|rfl|(simp;done)|(simp [*];done)),H',⟨Nat.le_refl _⟩,⟨zhb⟩⟩
 case round =>
  clear H'
  try clear c1
  obtain ⟨x3_1,x4_1,rfl,rfl,HA,HK1,HB⟩:=hrel
  cases gk with
  | zero=>exact absurd HA.out (by simp [spec_ZText.l0])
  | succ k1 =>
   have H:=HA.out
   clear HA
   simp only [spec_ZText.l0] at H
   by_cases c2:x4_1 < (l0.length:Int)
   ·rw [if_pos c2] at H
    have c2b0:decide (x4_1 < (l0.length:Int))=true:=decide_eq_true c2
    clear c2
    by_cases c3:x4_1 > 0
    ·rw [if_pos c3] at H
     have c3b0:decide (0 < x4_1)=true:=decide_eq_true c3
     clear c3
     by_cases c4:x3_1.size + 1≤9223372036854775807
     ·rw [if_pos c4] at H
      have c4b0:=eq_true c4
      have c4b1:decide (x3_1.size + 1≤9223372036854775807)=true:=decide_eq_true c4
      try have c4b2:(9223372036854775807 < x3_1.size + 1)=False:=eq_false (Nat.not_lt.2 c4)
      by_cases c5:0≤x4_1
      ·rw [if_pos c5] at H
       have c5b0:decide (0≤x4_1)=true:=decide_eq_true c5
       clear c5
       replace H:=Option.bind_eq_some_iff.mp H
       obtain ⟨t263,A60,H⟩:=H
       (try dsimp only at H)
       have A6:=Aside0.mk A60
       clear A60
       by_cases c7:(x3_1 ++ (⟨#[32]⟩:ByteArray)).size + t263.size≤9223372036854775807
       ·rw [if_pos c7] at H
        have c7b0:=eq_true c7
        have c7b1:decide ((x3_1 ++ (⟨#[32]⟩:ByteArray)).size + t263.size≤9223372036854775807)=true:=decide_eq_true c7
        (try (have c7b3:x3_1.size + 1 + t263.size≤9223372036854775807:=by have h_:=c7;simp only [ByteArray.size_append] at h_;exact h_))
        (try have c7b4:=eq_true c7b3)
        (try have c7b5:decide (x3_1.size + 1 + t263.size≤9223372036854775807)=true:=decide_eq_true c7b3)
        (try have c7b6:(9223372036854775807 < x3_1.size + 1 + t263.size)=False:=eq_false (Nat.not_lt.2 c7b3))
        try have c7b2:(9223372036854775807 < (x3_1 ++ (⟨#[32]⟩:ByteArray)).size + t263.size)=False:=eq_false (Nat.not_lt.2 c7)
        by_cases c8:((x3_1 ++ (⟨#[32]⟩:ByteArray)) ++ t263).size + 1≤9223372036854775807
        ·rw [if_pos c8] at H
         have c8b0:=eq_true c8
         have c8b1:decide (((x3_1 ++ (⟨#[32]⟩:ByteArray)) ++ t263).size + 1≤9223372036854775807)=true:=decide_eq_true c8
         (try (have c8b3:x3_1.size + 1 + t263.size + 1≤9223372036854775807:=by have h_:=c8;simp only [ByteArray.size_append] at h_;exact h_))
         (try have c8b4:=eq_true c8b3)
         (try have c8b5:decide (x3_1.size + 1 + t263.size + 1≤9223372036854775807)=true:=decide_eq_true c8b3)
         (try have c8b6:(9223372036854775807 < x3_1.size + 1 + t263.size + 1)=False:=eq_false (Nat.not_lt.2 c8b3))
         try have c8b2:(9223372036854775807 < ((x3_1 ++ (⟨#[32]⟩:ByteArray)) ++ t263).size + 1)=False:=eq_false (Nat.not_lt.2 c8)
         replace H:=Option.bind_eq_some_iff.mp H
         obtain ⟨t265,A90,H⟩:=H
         (try dsimp only at H)
         have A9:=Aside0.mk A90
         clear A90
         by_cases c10:(((x3_1 ++ (⟨#[32]⟩:ByteArray)) ++ t263) ++ (⟨#[42]⟩:ByteArray)).size + t265.size≤9223372036854775807
         ·rw [if_pos c10] at H
          have c10b0:=eq_true c10
          have c10b1:decide ((((x3_1 ++ (⟨#[32]⟩:ByteArray)) ++ t263) ++ (⟨#[42]⟩:ByteArray)).size + t265.size≤9223372036854775807)=true:=decide_eq_true c10
          (try (have c10b3:x3_1.size + 1 + t263.size + 1 + t265.size≤9223372036854775807:=by have h_:=c10;simp only [ByteArray.size_append] at h_;exact h_))
          (try have c10b4:=eq_true c10b3)
          (try have c10b5:decide (x3_1.size + 1 + t263.size + 1 + t265.size≤9223372036854775807)=true:=decide_eq_true c10b3)
          (try have c10b6:(9223372036854775807 < x3_1.size + 1 + t263.size + 1 + t265.size)=False:=eq_false (Nat.not_lt.2 c10b3))
          try have c10b2:(9223372036854775807 < (((x3_1 ++ (⟨#[32]⟩:ByteArray)) ++ t263) ++ (⟨#[42]⟩:ByteArray)).size + t265.size)=False:=eq_false (Nat.not_lt.2 c10)
          have H':=Aside0.mk H
          clear H
          try go_wp2
          have n0_:=Aside0.mk (below_drew1 HB.out)
          clear HB
          have HB:=n0_
          clear n0_
          have p262:0≤(x4_1:Int):=zod
          have q262:x4_1 < (l0.length:Int):=zod
          obtain ⟨ad262,A262_0,c262_0,e262,hx262_0,hx262_1,hl262_0,hi262_0⟩:=at_T33 HR0.out x4_1 p262 q262
          have hw262_1:=hx262_1
          have hw262_0:=hx262_0
          cases e262
          replace hx262_0:=(HB.out.cell (World.block_lt_of_cell? w _ hx262_0)).trans hx262_0
          replace hx262_1:=(HB.out.cell (World.block_lt_of_cell? w _ hx262_1)).trans hx262_1
          have HR262_0:=Aside0.mk hi262_0
          have HC262_0:=Aside0.mk hl262_0
          clear hi262_0 hl262_0
          replace p262:=eq_true p262
          replace q262:=eq_true q262
          have p264:0≤(x4_1:Int):=zod
          have q264:x4_1 < (l0.length:Int):=zod
          obtain ⟨ad264,A264_0,c264_0,e264,hx264_0,hx264_1,hl264_0,hi264_0⟩:=at_T33 HR0.out x4_1 p264 q264
          have hw264_1:=hx264_1
          have hw264_0:=hx264_0
          obtain rfl:ad262=ad264:=(by injection e264)
          replace hx264_0:=(HB.out.cell (World.block_lt_of_cell? w _ hx264_0)).trans hx264_0
          replace hx264_1:=(HB.out.cell (World.block_lt_of_cell? w _ hx264_1)).trans hx264_1
          have HR264_0:=Aside0.mk hi264_0
          have HC264_0:=Aside0.mk hl264_0
          clear hi264_0 hl264_0
          replace p264:=eq_true p264
          replace q264:=eq_true q264
          have ea_:=Option.some.inj (hx262_0.symm.trans hx264_0)
          injection ea_ with ea_ en_ ec_
          subst ea_
          subst ec_
          clear en_
          refine start_ (n:=17) (S:=fun w'=>w'.cell? (ad262.add ((x4_1).toNat * 2))=some (.slice A262_0 ((rd_T33 l0 x4_1).f0).length c262_0)∧w'.cell? ⟨(ad262.add ((x4_1).toNat * 2)).block,(ad262.add ((x4_1).toNat * 2)).off + 1,none⟩=some (.int .i64 ((rd_T33 l0 x4_1).f1))∧w'.cell? (ad262.add ((x4_1).toNat * 2))=some (.slice A262_0 ((rd_T33 l0 x4_1).f0).length c262_0)∧w'.cell? ⟨(ad262.add ((x4_1).toNat * 2)).block,(ad262.add ((x4_1).toNat * 2)).off + 1,none⟩=some (.int .i64 ((rd_T33 l0 x4_1).f1))) (ds:=[]) #[X,X,X,X,X,X,X,X,X,X,X,X,X,X,X,X,X] (by kernel_rfl) rfl rfl ⟨((HB.out.cell (World.block_lt_of_cell? w _ hw262_0)).trans hw262_0),((HB.out.cell (World.block_lt_of_cell? w _ hw262_1)).trans hw262_1),((HB.out.cell (World.block_lt_of_cell? w _ hw264_0)).trans hw264_0),((HB.out.cell (World.block_lt_of_cell? w _ hw264_1)).trans hw264_1)⟩ (fun hHeld=>?_);refine with_tabW spec_ZText.tab7 spec_ZText.bits7 (fun HT_ HW_=>?_)
          generalize wr.drew=w11 at HB HR262_0 HR264_0 hx262_0 hx262_1 hx264_0 hx264_1 hHeld ⊢
          refine pure_ (i:=0) (N:=some 15) (v:=?_) (a':=?_) #[Y,X,X,X,X,X,X,X,X,X,X,X,X,X,X,X,X] rfl rfl zan (fun _ _ _ h=>h) (Or.inl ⟨by rfl,?_⟩) ?_ ?_
          rotate_left
          ·intro w'
           go_simp
           with_reducible rfl
          rotate_left
          ·simp only [Act.put,zp1,zp2,zp3,i64_w,i32_w]
           rfl
          refine pure_ (i:=1) (N:=some 16) (v:=?_) (a':=?_) #[Y,Y,X,X,X,X,X,X,X,X,X,X,X,X,X,X,X] rfl rfl zan (fun _ _ _ h=>h) (Or.inl ⟨by rfl,?_⟩) ?_ ?_
          rotate_left
          ·intro w'
           go_simp
           with_reducible rfl
          rotate_left
          ·simp only [Act.put,zp1,zp2,zp3,i64_w,i32_w]
           rfl
          refine pure_ (i:=2) (N:=some 17) (v:=?_) (a':=?_) #[Y,Y,Y,X,X,X,X,X,X,X,X,X,X,X,X,X,X] rfl rfl zan (fun _ _ _ h=>h) (Or.inl ⟨by rfl,?_⟩) ?_ ?_
          rotate_left
          ·intro w'
           go_simp
           with_reducible rfl
          rotate_left
          ·simp only [Act.put,zp1,zp2,zp3,i64_w,i32_w]
           rfl
          refine pure_ (i:=3) (N:=some 18) (v:=?_) (a':=?_) #[Y,Y,Y,Y,X,X,X,X,X,X,X,X,X,X,X,X,X] rfl rfl zan (fun _ _ _ h=>h) (Or.inl ⟨by rfl,?_⟩) ?_ ?_
          rotate_left
          ·intro w'
           go_simp
           with_reducible rfl
          rotate_left
          ·simp only [Act.put,zp1,zp2,zp3,i64_w,i32_w]
           rfl
          refine pure_ (i:=4) (N:=some 19) (v:=?_) (a':=?_) #[Y,Y,Y,Y,Y,X,X,X,X,X,X,X,X,X,X,X,X] rfl rfl zan (fun _ _ _ h=>h) (Or.inl ⟨by rfl,?_⟩) ?_ ?_
          rotate_left
          ·intro w'
           go_simp
           with_reducible rfl
          rotate_left
          ·simp only [Act.put,zp1,zp2,zp3,i64_w,i32_w]
           rfl
          refine pure_ (i:=9) (N:=some 24) (v:=?_) (a':=?_) #[Y,Y,Y,Y,Y,X,X,X,X,Y,X,X,X,X,X,X,X] rfl rfl zan (fun _ _ _ h=>h) (Or.inl ⟨by rfl,?_⟩) ?_ ?_
          rotate_left
          ·intro w'
           go_simp
           with_reducible rfl
          rotate_left
          ·simp only [Act.put,zp1,zp2,zp3,i64_w,i32_w]
           rfl
          refine pure_ (i:=10) (N:=some 25) (v:=?_) (a':=?_) #[Y,Y,Y,Y,Y,X,X,X,X,Y,Y,X,X,X,X,X,X] rfl rfl zan (fun _ _ _ h=>h) (Or.inl ⟨by rfl,?_⟩) ?_ ?_
          rotate_left
          ·intro w'
           go_simp
           with_reducible rfl
          rotate_left
          ·simp only [Act.put,zp1,zp2,zp3,i64_w,i32_w]
           rfl
          refine pure_ (i:=11) (N:=some 26) (v:=?_) (a':=?_) #[Y,Y,Y,Y,Y,X,X,X,X,Y,Y,Y,X,X,X,X,X] rfl rfl zan (fun _ _ _ h=>h) (Or.inl ⟨by rfl,?_⟩) ?_ ?_
          rotate_left
          ·intro w'
           go_simp
           with_reducible rfl
          rotate_left
          ·simp only [Act.put,zp1,zp2,zp3,i64_w,i32_w]
           rfl
          refine pure_ (i:=12) (N:=some 27) (v:=?_) (a':=?_) #[Y,Y,Y,Y,Y,X,X,X,X,Y,Y,Y,Y,X,X,X,X] rfl rfl zan (fun _ _ _ h=>h) (Or.inl ⟨by rfl,?_⟩) ?_ ?_
          rotate_left
          ·intro w'
           go_simp
           with_reducible rfl
          rotate_left
          ·simp only [Act.put,zp1,zp2,zp3,i64_w,i32_w]
           rfl
          refine take_ (i:=5) (N:=some 20) (v:=?_) (a':=?_) #[Y,Y,Y,Y,Y,Y,X,X,X,Y,Y,Y,Y,X,X,X,X] rfl rfl ztw (fun _ _ _ h=>h) (Or.inl ⟨by rfl,?_⟩) hHeld ?_ ?_
          rotate_left
          ·rintro w' ⟨s0,s1,s2,s3⟩
           go_simp
           with_reducible rfl
          rotate_left
          ·simp only [Act.put,zp1,zp2,zp3,i64_w,i32_w]
           rfl
          refine take_ (i:=13) (N:=some 28) (v:=?_) (a':=?_) #[Y,Y,Y,Y,Y,Y,X,X,X,Y,Y,Y,Y,Y,X,X,X] rfl rfl ztw (fun _ _ _ h=>h) (Or.inl ⟨by rfl,?_⟩) hHeld ?_ ?_
          rotate_left
          ·rintro w' ⟨s0,s1,s2,s3⟩
           go_simp
           with_reducible rfl
          rotate_left
          ·simp only [Act.put,zp1,zp2,zp3,i64_w,i32_w]
           rfl
          refine one_ (i:=6) (N:=some 21) #[Y,Y,Y,Y,Y,Y,Y,X,X,Y,Y,Y,Y,Y,X,X,X] rfl rfl (one_of HT_.out (by kernel_rfl)) (by decide) (fun K hK=>?_)
          refine goes_ Tryz.func37 (by kernel_rfl) rfl #[.slice A262_0 ((rd_T33 l0 x4_1).f0).length c262_0] (by rfl) rfl rfl zar ?_
          with_reducible refine (spec_RowText.calls k1 _ _ ((rd_T33 l0 x4_1).f0) t263 _ ?side1 ?side2 A6.out).mono ?_
          (case side1=>exact zC (Kd.C_below HR262_0.out HB.out))
          (case side2=>exact HC262_0.out)
          rintro e w12 ⟨rfl,hb⟩
          refine ⟨_,rfl,?_⟩
          have n0_:=Aside0.mk (below_step zhb hb)
          clear HB
          have HB:=n0_
          clear n0_
          (try clear hb)
          (try clear hb2)
          (try clear hk)
          (try clear hi)
          refine hK.out _ _ ⟨((HB.out.cell (World.block_lt_of_cell? w _ hw262_0)).trans hw262_0),((HB.out.cell (World.block_lt_of_cell? w _ hw262_1)).trans hw262_1),((HB.out.cell (World.block_lt_of_cell? w _ hw264_0)).trans hw264_0),((HB.out.cell (World.block_lt_of_cell? w _ hw264_1)).trans hw264_1)⟩ (fun hHeld=>?_)
          clear hK K
          refine norm_ (a':=?_) ?_ ?_
          rotate_left
          ·show Act.put _ (some 21) _=_
           simp only [Act.put,zp1,zp2,zp3,i64_w,i32_w]
           rfl
          refine pure_ (i:=7) (N:=some 22) (v:=?_) (a':=?_) #[Y,Y,Y,Y,Y,Y,Y,Y,X,Y,Y,Y,Y,Y,X,X,X] rfl rfl zan (fun _ _ _ h=>h) (Or.inl ⟨by rfl,?_⟩) ?_ ?_
          rotate_left
          ·intro w'
           go_simp
           with_reducible rfl
          rotate_left
          ·simp only [Act.put,zp1,zp2,zp3,i64_w,i32_w]
           rfl
          refine pure_ (i:=8) (N:=some 23) (v:=?_) (a':=?_) #[Y,Y,Y,Y,Y,Y,Y,Y,Y,Y,Y,Y,Y,Y,X,X,X] rfl rfl zan (fun _ _ _ h=>h) (Or.inl ⟨by rfl,?_⟩) ?_ ?_
          rotate_left
          ·intro w'
           go_simp
           with_reducible rfl
          rotate_left
          ·simp only [Act.put,zp1,zp2,zp3,i64_w,i32_w]
           rfl
          refine one_ (i:=14) (N:=some 29) #[Y,Y,Y,Y,Y,Y,Y,Y,Y,Y,Y,Y,Y,Y,Y,X,X] rfl rfl (one_of HT_.out (by kernel_rfl)) (by decide) (fun K hK=>?_)
          refine goes_ Tryz.func38 (by kernel_rfl) rfl #[.int .i64 ((rd_T33 l0 x4_1).f1)] (by rfl) rfl rfl zar ?_
          with_reducible refine (spec_l12Dec.calls k1 ((rd_T33 l0 x4_1).f1) t265 _ A9.out).mono ?_
          rintro e w13 ⟨rfl,hb⟩
          refine ⟨_,rfl,?_⟩
          have n0_:=Aside0.mk (below_step zhb hb)
          clear HB
          have HB:=n0_
          clear n0_
          (try clear hb)
          (try clear hb2)
          (try clear hk)
          (try clear hi)
          refine hK.out _ _ ⟨((HB.out.cell (World.block_lt_of_cell? w _ hw262_0)).trans hw262_0),((HB.out.cell (World.block_lt_of_cell? w _ hw262_1)).trans hw262_1),((HB.out.cell (World.block_lt_of_cell? w _ hw264_0)).trans hw264_0),((HB.out.cell (World.block_lt_of_cell? w _ hw264_1)).trans hw264_1)⟩ (fun hHeld=>?_)
          clear hK K
          refine norm_ (a':=?_) ?_ ?_
          rotate_left
          ·show Act.put _ (some 29) _=_
           simp only [Act.put,zp1,zp2,zp3,i64_w,i32_w]
           rfl
          refine pure_ (i:=15) (N:=some 30) (v:=?_) (a':=?_) #[Y,Y,Y,Y,Y,Y,Y,Y,Y,Y,Y,Y,Y,Y,Y,Y,X] rfl rfl zan (fun _ _ _ h=>h) (Or.inl ⟨by rfl,?_⟩) ?_ ?_
          rotate_left
          ·intro w'
           go_simp
           with_reducible rfl
          rotate_left
          ·simp only [Act.put,zp1,zp2,zp3,i64_w,i32_w]
           rfl
          refine pure_ (i:=16) (N:=some 3) (v:=?_) (a':=?_) #[Y,Y,Y,Y,Y,Y,Y,Y,Y,Y,Y,Y,Y,Y,Y,Y,Y] rfl rfl zan (fun _ _ _ h=>h) (Or.inl ⟨by rfl,?_⟩) ?_ ?_
          rotate_left
          ·intro w'
           go_simp
           with_reducible rfl
          rotate_left
          ·simp only [Act.put,zp1,zp2,zp3,i64_w,i32_w]
           rfl
          refine done_ (done_of HT_.out (by kernel_rfl)) ?_
          try go_wp2
          go_roundg k1
          case measure=>have:=HK1.out;omega
          case rel=>exact ⟨((((x3_1 ++ (⟨#[32]⟩:ByteArray)) ++ t263) ++ (⟨#[42]⟩:ByteArray)) ++ t265),(wrap64 (x4_1 + 1)),(by first|rfl|(simp;done)|(simp [*];done)),(by first|rfl|(simp;done)|(simp [*];done)),H',⟨by have:=HK1.out;omega⟩,⟨zhb⟩⟩
         ·rw [if_neg c10] at H
          exact absurd H (by simp)
        ·rw [if_neg c8] at H
         exact absurd H (by simp)
       ·rw [if_neg c7] at H
        exact absurd H (by simp)
      ·rw [if_neg c5] at H
       exact absurd H (by simp)
     ·rw [if_neg c4] at H
      exact absurd H (by simp)
    ·rw [if_neg c3] at H
     have c3b0:decide (0 < x4_1)=false:=decide_eq_false c3
     clear c3
     by_cases c14:0≤x4_1
     ·rw [if_pos c14] at H
      have c14b0:decide (0≤x4_1)=true:=decide_eq_true c14
      clear c14
      replace H:=Option.bind_eq_some_iff.mp H
      obtain ⟨t267,A150,H⟩:=H
      (try dsimp only at H)
      have A15:=Aside0.mk A150
      clear A150
      by_cases c16:x3_1.size + t267.size≤9223372036854775807
      ·rw [if_pos c16] at H
       have c16b0:=eq_true c16
       have c16b1:decide (x3_1.size + t267.size≤9223372036854775807)=true:=decide_eq_true c16
       try have c16b2:(9223372036854775807 < x3_1.size + t267.size)=False:=eq_false (Nat.not_lt.2 c16)
       by_cases c17:(x3_1 ++ t267).size + 1≤9223372036854775807
       ·rw [if_pos c17] at H
        have c17b0:=eq_true c17
        have c17b1:decide ((x3_1 ++ t267).size + 1≤9223372036854775807)=true:=decide_eq_true c17
        (try (have c17b3:x3_1.size + t267.size + 1≤9223372036854775807:=by have h_:=c17;simp only [ByteArray.size_append] at h_;exact h_))
        (try have c17b4:=eq_true c17b3)
        (try have c17b5:decide (x3_1.size + t267.size + 1≤9223372036854775807)=true:=decide_eq_true c17b3)
        (try have c17b6:(9223372036854775807 < x3_1.size + t267.size + 1)=False:=eq_false (Nat.not_lt.2 c17b3))
        try have c17b2:(9223372036854775807 < (x3_1 ++ t267).size + 1)=False:=eq_false (Nat.not_lt.2 c17)
        replace H:=Option.bind_eq_some_iff.mp H
        obtain ⟨t269,A180,H⟩:=H
        (try dsimp only at H)
        have A18:=Aside0.mk A180
        clear A180
        by_cases c19:((x3_1 ++ t267) ++ (⟨#[42]⟩:ByteArray)).size + t269.size≤9223372036854775807
        ·rw [if_pos c19] at H
         have c19b0:=eq_true c19
         have c19b1:decide (((x3_1 ++ t267) ++ (⟨#[42]⟩:ByteArray)).size + t269.size≤9223372036854775807)=true:=decide_eq_true c19
         (try (have c19b3:x3_1.size + t267.size + 1 + t269.size≤9223372036854775807:=by have h_:=c19;simp only [ByteArray.size_append] at h_;exact h_))
         (try have c19b4:=eq_true c19b3)
         (try have c19b5:decide (x3_1.size + t267.size + 1 + t269.size≤9223372036854775807)=true:=decide_eq_true c19b3)
         (try have c19b6:(9223372036854775807 < x3_1.size + t267.size + 1 + t269.size)=False:=eq_false (Nat.not_lt.2 c19b3))
         try have c19b2:(9223372036854775807 < ((x3_1 ++ t267) ++ (⟨#[42]⟩:ByteArray)).size + t269.size)=False:=eq_false (Nat.not_lt.2 c19)
         have H':=Aside0.mk H
         clear H
         try go_wp2
         have n0_:=Aside0.mk (below_drew1 HB.out)
         clear HB
         have HB:=n0_
         clear n0_
         have p266:0≤(x4_1:Int):=zod
         have q266:x4_1 < (l0.length:Int):=zod
         obtain ⟨ad266,A266_0,c266_0,e266,hx266_0,hx266_1,hl266_0,hi266_0⟩:=at_T33 HR0.out x4_1 p266 q266
         have hw266_1:=hx266_1
         have hw266_0:=hx266_0
         cases e266
         replace hx266_0:=(HB.out.cell (World.block_lt_of_cell? w _ hx266_0)).trans hx266_0
         replace hx266_1:=(HB.out.cell (World.block_lt_of_cell? w _ hx266_1)).trans hx266_1
         have HR266_0:=Aside0.mk hi266_0
         have HC266_0:=Aside0.mk hl266_0
         clear hi266_0 hl266_0
         replace p266:=eq_true p266
         replace q266:=eq_true q266
         have p268:0≤(x4_1:Int):=zod
         have q268:x4_1 < (l0.length:Int):=zod
         obtain ⟨ad268,A268_0,c268_0,e268,hx268_0,hx268_1,hl268_0,hi268_0⟩:=at_T33 HR0.out x4_1 p268 q268
         have hw268_1:=hx268_1
         have hw268_0:=hx268_0
         obtain rfl:ad266=ad268:=(by injection e268)
         replace hx268_0:=(HB.out.cell (World.block_lt_of_cell? w _ hx268_0)).trans hx268_0
         replace hx268_1:=(HB.out.cell (World.block_lt_of_cell? w _ hx268_1)).trans hx268_1
         have HR268_0:=Aside0.mk hi268_0
         have HC268_0:=Aside0.mk hl268_0
         clear hi268_0 hl268_0
         replace p268:=eq_true p268
         replace q268:=eq_true q268
         have ea_:=Option.some.inj (hx266_0.symm.trans hx268_0)
         injection ea_ with ea_ en_ ec_
         subst ea_
         subst ec_
         clear en_
         refine start_ (n:=17) (S:=fun w'=>w'.cell? (ad266.add ((x4_1).toNat * 2))=some (.slice A266_0 ((rd_T33 l0 x4_1).f0).length c266_0)∧w'.cell? ⟨(ad266.add ((x4_1).toNat * 2)).block,(ad266.add ((x4_1).toNat * 2)).off + 1,none⟩=some (.int .i64 ((rd_T33 l0 x4_1).f1))∧w'.cell? (ad266.add ((x4_1).toNat * 2))=some (.slice A266_0 ((rd_T33 l0 x4_1).f0).length c266_0)∧w'.cell? ⟨(ad266.add ((x4_1).toNat * 2)).block,(ad266.add ((x4_1).toNat * 2)).off + 1,none⟩=some (.int .i64 ((rd_T33 l0 x4_1).f1))) (ds:=[]) #[X,X,X,X,X,X,X,X,X,X,X,X,X,X,X,X,X] (by kernel_rfl) rfl rfl ⟨((HB.out.cell (World.block_lt_of_cell? w _ hw266_0)).trans hw266_0),((HB.out.cell (World.block_lt_of_cell? w _ hw266_1)).trans hw266_1),((HB.out.cell (World.block_lt_of_cell? w _ hw268_0)).trans hw268_0),((HB.out.cell (World.block_lt_of_cell? w _ hw268_1)).trans hw268_1)⟩ (fun hHeld=>?_);refine with_tabW spec_ZText.tab7 spec_ZText.bits7 (fun HT_ HW_=>?_)
         generalize wr.drew=w20 at HB HR266_0 HR268_0 hx266_0 hx266_1 hx268_0 hx268_1 hHeld ⊢
         refine pure_ (i:=0) (N:=some 15) (v:=?_) (a':=?_) #[Y,X,X,X,X,X,X,X,X,X,X,X,X,X,X,X,X] rfl rfl zan (fun _ _ _ h=>h) (Or.inl ⟨by rfl,?_⟩) ?_ ?_
         rotate_left
         ·intro w'
          go_simp
          with_reducible rfl
         rotate_left
         ·simp only [Act.put,zp1,zp2,zp3,i64_w,i32_w]
          rfl
         refine pure_ (i:=1) (N:=some 16) (v:=?_) (a':=?_) #[Y,Y,X,X,X,X,X,X,X,X,X,X,X,X,X,X,X] rfl rfl zan (fun _ _ _ h=>h) (Or.inl ⟨by rfl,?_⟩) ?_ ?_
         rotate_left
         ·intro w'
          go_simp
          with_reducible rfl
         rotate_left
         ·simp only [Act.put,zp1,zp2,zp3,i64_w,i32_w]
          rfl
         refine pure_ (i:=2) (N:=some 17) (v:=?_) (a':=?_) #[Y,Y,Y,X,X,X,X,X,X,X,X,X,X,X,X,X,X] rfl rfl zan (fun _ _ _ h=>h) (Or.inl ⟨by rfl,?_⟩) ?_ ?_
         rotate_left
         ·intro w'
          go_simp
          with_reducible rfl
         rotate_left
         ·simp only [Act.put,zp1,zp2,zp3,i64_w,i32_w]
          rfl
         refine pure_ (i:=3) (N:=some 18) (v:=?_) (a':=?_) #[Y,Y,Y,Y,X,X,X,X,X,X,X,X,X,X,X,X,X] rfl rfl zan (fun _ _ _ h=>h) (Or.inl ⟨by rfl,?_⟩) ?_ ?_
         rotate_left
         ·intro w'
          go_simp
          with_reducible rfl
         rotate_left
         ·simp only [Act.put,zp1,zp2,zp3,i64_w,i32_w]
          rfl
         refine pure_ (i:=4) (N:=some 19) (v:=?_) (a':=?_) #[Y,Y,Y,Y,Y,X,X,X,X,X,X,X,X,X,X,X,X] rfl rfl zan (fun _ _ _ h=>h) (Or.inl ⟨by rfl,?_⟩) ?_ ?_
         rotate_left
         ·intro w'
          go_simp
          with_reducible rfl
         rotate_left
         ·simp only [Act.put,zp1,zp2,zp3,i64_w,i32_w]
          rfl
         refine pure_ (i:=9) (N:=some 24) (v:=?_) (a':=?_) #[Y,Y,Y,Y,Y,X,X,X,X,Y,X,X,X,X,X,X,X] rfl rfl zan (fun _ _ _ h=>h) (Or.inl ⟨by rfl,?_⟩) ?_ ?_
         rotate_left
         ·intro w'
          go_simp
          with_reducible rfl
         rotate_left
         ·simp only [Act.put,zp1,zp2,zp3,i64_w,i32_w]
          rfl
         refine pure_ (i:=10) (N:=some 25) (v:=?_) (a':=?_) #[Y,Y,Y,Y,Y,X,X,X,X,Y,Y,X,X,X,X,X,X] rfl rfl zan (fun _ _ _ h=>h) (Or.inl ⟨by rfl,?_⟩) ?_ ?_
         rotate_left
         ·intro w'
          go_simp
          with_reducible rfl
         rotate_left
         ·simp only [Act.put,zp1,zp2,zp3,i64_w,i32_w]
          rfl
         refine pure_ (i:=11) (N:=some 26) (v:=?_) (a':=?_) #[Y,Y,Y,Y,Y,X,X,X,X,Y,Y,Y,X,X,X,X,X] rfl rfl zan (fun _ _ _ h=>h) (Or.inl ⟨by rfl,?_⟩) ?_ ?_
         rotate_left
         ·intro w'
          go_simp
          with_reducible rfl
         rotate_left
         ·simp only [Act.put,zp1,zp2,zp3,i64_w,i32_w]
          rfl
         refine pure_ (i:=12) (N:=some 27) (v:=?_) (a':=?_) #[Y,Y,Y,Y,Y,X,X,X,X,Y,Y,Y,Y,X,X,X,X] rfl rfl zan (fun _ _ _ h=>h) (Or.inl ⟨by rfl,?_⟩) ?_ ?_
         rotate_left
         ·intro w'
          go_simp
          with_reducible rfl
         rotate_left
         ·simp only [Act.put,zp1,zp2,zp3,i64_w,i32_w]
          rfl
         refine take_ (i:=5) (N:=some 20) (v:=?_) (a':=?_) #[Y,Y,Y,Y,Y,Y,X,X,X,Y,Y,Y,Y,X,X,X,X] rfl rfl ztw (fun _ _ _ h=>h) (Or.inl ⟨by rfl,?_⟩) hHeld ?_ ?_
         rotate_left
         ·rintro w' ⟨s0,s1,s2,s3⟩
          go_simp
          with_reducible rfl
         rotate_left
         ·simp only [Act.put,zp1,zp2,zp3,i64_w,i32_w]
          rfl
         refine take_ (i:=13) (N:=some 28) (v:=?_) (a':=?_) #[Y,Y,Y,Y,Y,Y,X,X,X,Y,Y,Y,Y,Y,X,X,X] rfl rfl ztw (fun _ _ _ h=>h) (Or.inl ⟨by rfl,?_⟩) hHeld ?_ ?_
         rotate_left
         ·rintro w' ⟨s0,s1,s2,s3⟩
          go_simp
          with_reducible rfl
         rotate_left
         ·simp only [Act.put,zp1,zp2,zp3,i64_w,i32_w]
          rfl
         refine one_ (i:=6) (N:=some 21) #[Y,Y,Y,Y,Y,Y,Y,X,X,Y,Y,Y,Y,Y,X,X,X] rfl rfl (one_of HT_.out (by kernel_rfl)) (by decide) (fun K hK=>?_)
         refine goes_ Tryz.func37 (by kernel_rfl) rfl #[.slice A266_0 ((rd_T33 l0 x4_1).f0).length c266_0] (by rfl) rfl rfl zar ?_
         with_reducible refine (spec_RowText.calls k1 _ _ ((rd_T33 l0 x4_1).f0) t267 _ ?side1 ?side2 A15.out).mono ?_
         (case side1=>exact zC (Kd.C_below HR266_0.out HB.out))
         (case side2=>exact HC266_0.out)
         rintro e w21 ⟨rfl,hb⟩
         refine ⟨_,rfl,?_⟩
         have n0_:=Aside0.mk (below_step zhb hb)
         clear HB
         have HB:=n0_
         clear n0_
         (try clear hb)
         (try clear hb2)
         (try clear hk)
         (try clear hi)
         refine hK.out _ _ ⟨((HB.out.cell (World.block_lt_of_cell? w _ hw266_0)).trans hw266_0),((HB.out.cell (World.block_lt_of_cell? w _ hw266_1)).trans hw266_1),((HB.out.cell (World.block_lt_of_cell? w _ hw268_0)).trans hw268_0),((HB.out.cell (World.block_lt_of_cell? w _ hw268_1)).trans hw268_1)⟩ (fun hHeld=>?_)
         clear hK K
         refine norm_ (a':=?_) ?_ ?_
         rotate_left
         ·show Act.put _ (some 21) _=_
          simp only [Act.put,zp1,zp2,zp3,i64_w,i32_w]
          rfl
         refine pure_ (i:=7) (N:=some 22) (v:=?_) (a':=?_) #[Y,Y,Y,Y,Y,Y,Y,Y,X,Y,Y,Y,Y,Y,X,X,X] rfl rfl zan (fun _ _ _ h=>h) (Or.inl ⟨by rfl,?_⟩) ?_ ?_
         rotate_left
         ·intro w'
          go_simp
          with_reducible rfl
         rotate_left
         ·simp only [Act.put,zp1,zp2,zp3,i64_w,i32_w]
          rfl
         refine pure_ (i:=8) (N:=some 23) (v:=?_) (a':=?_) #[Y,Y,Y,Y,Y,Y,Y,Y,Y,Y,Y,Y,Y,Y,X,X,X] rfl rfl zan (fun _ _ _ h=>h) (Or.inl ⟨by rfl,?_⟩) ?_ ?_
         rotate_left
         ·intro w'
          go_simp
          with_reducible rfl
         rotate_left
         ·simp only [Act.put,zp1,zp2,zp3,i64_w,i32_w]
          rfl
         refine one_ (i:=14) (N:=some 29) #[Y,Y,Y,Y,Y,Y,Y,Y,Y,Y,Y,Y,Y,Y,Y,X,X] rfl rfl (one_of HT_.out (by kernel_rfl)) (by decide) (fun K hK=>?_)
         refine goes_ Tryz.func38 (by kernel_rfl) rfl #[.int .i64 ((rd_T33 l0 x4_1).f1)] (by rfl) rfl rfl zar ?_
         with_reducible refine (spec_l12Dec.calls k1 ((rd_T33 l0 x4_1).f1) t269 _ A18.out).mono ?_
         rintro e w22 ⟨rfl,hb⟩
         refine ⟨_,rfl,?_⟩
         have n0_:=Aside0.mk (below_step zhb hb)
         clear HB
         have HB:=n0_
         clear n0_
         (try clear hb)
         (try clear hb2)
         (try clear hk)
         (try clear hi)
         refine hK.out _ _ ⟨((HB.out.cell (World.block_lt_of_cell? w _ hw266_0)).trans hw266_0),((HB.out.cell (World.block_lt_of_cell? w _ hw266_1)).trans hw266_1),((HB.out.cell (World.block_lt_of_cell? w _ hw268_0)).trans hw268_0),((HB.out.cell (World.block_lt_of_cell? w _ hw268_1)).trans hw268_1)⟩ (fun hHeld=>?_)
         clear hK K
         refine norm_ (a':=?_) ?_ ?_
         rotate_left
         ·show Act.put _ (some 29) _=_
          simp only [Act.put,zp1,zp2,zp3,i64_w,i32_w]
          rfl
         refine pure_ (i:=15) (N:=some 30) (v:=?_) (a':=?_) #[Y,Y,Y,Y,Y,Y,Y,Y,Y,Y,Y,Y,Y,Y,Y,Y,X] rfl rfl zan (fun _ _ _ h=>h) (Or.inl ⟨by rfl,?_⟩) ?_ ?_
         rotate_left
         ·intro w'
          go_simp
          with_reducible rfl
         rotate_left
         ·simp only [Act.put,zp1,zp2,zp3,i64_w,i32_w]
          rfl
         refine pure_ (i:=16) (N:=some 3) (v:=?_) (a':=?_) #[Y,Y,Y,Y,Y,Y,Y,Y,Y,Y,Y,Y,Y,Y,Y,Y,Y] rfl rfl zan (fun _ _ _ h=>h) (Or.inl ⟨by rfl,?_⟩) ?_ ?_
         rotate_left
         ·intro w'
          go_simp
          with_reducible rfl
         rotate_left
         ·simp only [Act.put,zp1,zp2,zp3,i64_w,i32_w]
          rfl
         refine done_ (done_of HT_.out (by kernel_rfl)) ?_
         try go_wp2
         go_roundg k1
         case measure=>have:=HK1.out;omega
         case rel=>exact ⟨(((x3_1 ++ t267) ++ (⟨#[42]⟩:ByteArray)) ++ t269),(wrap64 (x4_1 + 1)),(by first|rfl|(simp;done)|(simp [*];done)),(by first|rfl|(simp;done)|(simp [*];done)),H',⟨by have:=HK1.out;omega⟩,⟨zhb⟩⟩
        ·rw [if_neg c19] at H
         exact absurd H (by simp)
       ·rw [if_neg c17] at H
        exact absurd H (by simp)
      ·rw [if_neg c16] at H
       exact absurd H (by simp)
     ·rw [if_neg c14] at H
      exact absurd H (by simp)
   ·rw [if_neg c2] at H
    have c2b0:decide (x4_1 < (l0.length:Int))=false:=decide_eq_false c2
    clear c2
    obtain rfl:=Option.some.inj H
    go_wp2
    go_ret
    exact ⟨by first|rfl|(simp [errW_none,errW_some] <;> rfl)|(simp [*,errW_none,errW_some] <;> rfl),zhb⟩

/-! ### spec_l12Rd_of: function 40 -/
def spec_l12Rd_of.f (s0_0:List Int) (s0_1:Int) (l1:List ByteArray):Option (ByteArray × Int):=(spec_l12Rd_pick.f s0_0 s0_1 (l1.length:Int)).bind fun bt270=>(if 0≤bt270.1 then (if bt270.1 < (l1.length:Int) then (some (rdOf ByteArray.empty l1 bt270.1,bt270.2)) else (none)) else (none))
set_option maxHeartbeats 8000000 in
set_option maxRecDepth 100000 in
theorem spec_l12Rd_of.calls (g:Nat) (s0_0:List Int) (s0_1:Int) (A1:Option Addr) (c1:Nat) (l1:List ByteArray) (r1:ByteArray) (r2:Int) (w0 w:World) (hI:IsS71 w0 w g s0_0 s0_1) (hB:Below w0.heap.size w0 w) (hr1:Kd.C Kd.string w A1 l1.length l1) (hc1:l1.length≤c1) (hf1 : ∀ ad,A1=some ad→0 < l1.length→ad.block≠g) (h:spec_l12Rd_of.f s0_0 s0_1 l1=some (r1,r2)) :
  Calls Tryz.prog 40 #[.pointer (some ⟨g,0,none⟩),.slice A1 l1.length c1] w fun e w'=>e=.returned (.string r1)∧IsS71 w0 w' g s0_0 r2∧Below w0.heap.size w0 w'∧KeepBut w w' g none:=by
 have HR1:=Aside0.mk hr1
 have HC1:=Aside0.mk hc1
 clear hr1 hc1
 have HI0:=Aside0.mk hI
 have HK:=Aside0.mk (KeepBut.refl w g none)
 have HL:=Aside0.mk hB.size
 clear hI
 have HW0:=Aside0.mk hB.size
 have HB:=Aside0.mk hB
 clear hB
 have H:((spec_l12Rd_pick.f s0_0 s0_1 (l1.length:Int)).bind fun bt270=>(if 0≤bt270.1 then (if bt270.1 < (l1.length:Int) then (some (rdOf ByteArray.empty l1 bt270.1,bt270.2)) else (none)) else (none)))=some (r1,r2):=h
 clear h
 replace H:=Option.bind_eq_some_iff.mp H
 obtain ⟨⟨t270,t271⟩,A30,H⟩:=H
 (try dsimp only at H)
 have A3:=Aside0.mk A30
 clear A30
 by_cases c4:0≤t270
 ·rw [if_pos c4] at H
  have c4b0:decide (0≤t270)=true:=decide_eq_true c4
  clear c4
  by_cases c5:t270 < (l1.length:Int)
  ·rw [if_pos c5] at H
   have c5b0:decide (t270 < (l1.length:Int))=true:=decide_eq_true c5
   clear c5
   simp only [Option.some.injEq,Prod.mk.injEq] at H
   obtain ⟨rfl,rfl⟩:=H
   go_enter Tryz.func40,Tryz.ntmps40
   go_wp2_with (first|((with_reducible refine gate_callee (f:=39) rfl ?_);refine goesL_ (some 9) rfl rfl Tryz.func39 (by kernel_rfl) rfl #[.pointer (some ⟨g,0,none⟩),.int .i64 (l1.length:Int)] rfl zar ?_;(with_reducible refine (spec_l12Rd_pick.calls g s0_0 s0_1 (l1.length:Int) t270 t271 w0 _ ?side1 ?side2 A3.out).mono ?_);(case side1=>exact zi71);(case side2=>exact zg71);rintro e w6 ⟨rfl,hi,hb,hk⟩;refine ⟨_,rfl,?_⟩;have n0_:=Aside0.mk (KeepBut.trans zhk hk (.inl rfl));have n1_:=Aside0.mk (hb);have n2_:=Aside0.mk (hi);clear HK;clear HB;clear HI0;have HK:=n0_;have HB:=n1_;have HI0:=n2_;clear n0_ n1_ n2_;(try clear hb);(try clear hb2);(try clear hk);(try clear hi);have p272:0≤(t270:Int):=zod;have q272:t270 < (l1.length:Int):=zod;obtain ⟨ad272,e272,hx272_0⟩:=Kd.at_string HR1.out t270 p272 q272;cases e272;replace hx272_0:=keep_cell HK.out hx272_0 (by first|(rw [add_block];exact hf1 _ rfl (by omega))|exact hf1 _ rfl (by omega)|exact hf1 ad272 rfl (by omega));replace p272:=eq_true p272;replace q272:=eq_true q272))
   go_ret
   exact ⟨by first|rfl|(simp [errW_none,errW_some] <;> rfl)|(simp [*,errW_none,errW_some] <;> rfl),zi71,zg71,zhk⟩
  ·rw [if_neg c5] at H
   exact absurd H (by simp)
 ·rw [if_neg c4] at H
  exact absurd H (by simp)

end Go.Proofs.YtgcplipimcbhlaaGreatDoor.PFnZText
