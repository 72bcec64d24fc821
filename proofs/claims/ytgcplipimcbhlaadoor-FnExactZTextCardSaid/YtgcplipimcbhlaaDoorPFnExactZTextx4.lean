-- Written by wip/tools/pp.py, a program of this session over the kit's printer: not the kit's own print
import Derived.Test.YtgcplipimcbhlaaDoorPFnExactZTextx0
import Derived.Test.YtgcplipimcbhlaaDoorPFnExactZTextx1
import Derived.Test.YtgcplipimcbhlaaDoorPFnExactZTextx2
import Derived.Test.YtgcplipimcbhlaaDoorPFnExactZTextx3
namespace Go.Proofs.YtgcplipimcbhlaaDoor.PFnExactZText
open Go.RowKit Go.Proofs.YtgcplipimcbhlaaDoorW.PrintWords Go.Proofs.YtgcplipimcbhlaaDoorW.PrintLast Go.Proofs.YtgcplipimcbhlaaDoorW.PrintMore
attribute [local go_sem] max2_int min2_int max_two min_two max_three min_three max_four min_four   -- for this text's walks alone
set_option linter.unusedVariables false
set_option linter.unusedSimpArgs false

/-! ### impl_ZText: function 21 -/
def impl_ZText.l0:Nat→List ByteArray→List (S53)→Int→Int→Option (ByteArray)
 | 0,_,_,_,_=>none
 | k + 1,x3,x6,x7,x8=>if x8 < x7 then (if 0≤x8 then (if x8 < (x6.length:Int) then ((impl_RowText.f ((rd_T53 x6 x8).f0)).bind fun t154=>(if t154.size + 1≤9223372036854775807 then ((strconv_Itoa.f ((rd_T53 x6 x8).f1)).bind fun t155=>(if (t154 ++ (⟨#[42]⟩:ByteArray)).size + t155.size≤9223372036854775807 then (if x3.length < 8796093022208 then (impl_ZText.l0 k (x3 ++ [(t154 ++ (⟨#[42]⟩:ByteArray)) ++ t155]) x6 x7 (wrap64 (x8 + 1))) else (none)) else (none))) else (none))) else (none)) else (none)) else ((strings_Join.f x3 (⟨#[32]⟩:ByteArray)).bind fun t159=>(some t159))
def impl_ZText.f (k:Nat) (l0:List (S53)):Option (ByteArray):=impl_ZText.l0 k ([]:List ByteArray) l0 (l0.length:Int) 0
theorem impl_ZText.mono_l : ∀ k,(∀ y0 y1 y2 y3,LeO (impl_ZText.l0 k y0 y1 y2 y3) (impl_ZText.l0 (k + 1) y0 y1 y2 y3))
 | 0=>fun _ _ _ _ r h=>by simp [impl_ZText.l0] at h
 | k + 1=>by
  have ih0:=impl_ZText.mono_l k
  ·intro y0 y1 y2 y3
   unfold impl_ZText.l0
   repeat' first
   | (with_reducible exact ih0 _ _ _ _)
   | (with_reducible exact LeO.refl _)
   | (with_reducible exact LeO.none _)
   | (with_reducible refine LeO.ite ?_ ?_)
   | (with_reducible refine LeO.bind ?_ (fun _=>?_))
   | exact LeO.none _
   | refine LeO.ite ?_ ?_
   | refine LeO.bind ?_ (fun _=>?_)
theorem impl_ZText.mono : ∀ a0 k,LeO (impl_ZText.f k a0) (impl_ZText.f (k + 1) a0):=by
 intro a0 k
 have ih0:=impl_ZText.mono_l k
 unfold impl_ZText.f
 repeat' first
   | (with_reducible exact ih0 _ _ _ _)
   | (with_reducible exact LeO.refl _)
   | (with_reducible exact LeO.none _)
   | (with_reducible refine LeO.ite ?_ ?_)
   | (with_reducible refine LeO.bind ?_ (fun _=>?_))
   | exact LeO.none _
   | refine LeO.ite ?_ ?_
   | refine LeO.bind ?_ (fun _=>?_)
def impl_ZText.T5:Bool × List (List Nat × List Nat):=(true,[([],[]),([],[]),([1],[1]),([2],[2]),([3],[3]),([],[]),([5],[5]),([6,3],[6]),([4,7],[4,7]),([8],[8]),([0,9,7],[0,9]),([10,10,0,1,2,3,4,5,6,7,8,9,10],[0,10])])
def impl_ZText.B5:List Nat:=[0,0,2,6,14,0,32,110,254,510,1023,2047]
theorem impl_ZText.tab5:rtab .any (opsOf Tryd.f21 5)=impl_ZText.T5:=by kernel_rfl
theorem impl_ZText.bits5:waitsOk impl_ZText.T5.2 impl_ZText.B5=true:=by kernel_rfl
set_option maxHeartbeats 8000000 in
set_option maxRecDepth 100000 in
theorem impl_ZText.calls (k : Nat) (A0 : Option Addr) (c0 : Nat) (l0 : List (S53)) (r : ByteArray) (w : World) (hr0 : Kd.C k53 w A0 l0.length l0) (hc0 : l0.length ≤ c0) (h : impl_ZText.f k l0 = some r) (hT : Lib.TabIs Tryd.prog w "internal/strconv.uint64pow10" .u64 Lib.pow10Tab := by first | exact TxtW.tab (TxtW.on HT0.out zhb) | exact tab_on HT0.out zhb) :
  Calls Tryd.prog 21 #[.slice A0 l0.length c0] w fun e w'=>e=.returned (.string r)∧Below w.heap.size w w':=by
 have HT0:=Aside0.mk hT
 clear hT
 have hu53:=Tryd.underlying53
 have HR0:=Aside0.mk hr0
 have HC0:=Aside0.mk hc0
 clear hr0 hc0
 have HB:=Aside0.mk (Below.refl w.heap.size w)
 have H:(impl_ZText.l0 k ([]:List ByteArray) l0 (l0.length:Int) 0)=some r:=h
 clear h
 have H':=Aside0.mk H
 clear H
 go_enter Tryd.func21,Tryd.ntmps21
 go_wp2
 go_loopg [3,8] k (fun kq v3 v8 w'=>∃ (x3_1:List ByteArray) (x8_1:Int),v8=.int .i64 x8_1∧Aside0 (impl_ZText.l0 kq x3_1 l0 (l0.length:Int) x8_1=some r)∧Aside0 (kq≤k)∧Aside0 (Kd.R Kd.string 9 w' w.heap.size (fun _=>True) v3 x3_1)∧Aside0 (Below w.heap.size w w'))
 case atStart=>exact ⟨(([]:List ByteArray)),(0),(by first|rfl|(simp;done)|(simp [*];done)),H',⟨Nat.le_refl _⟩,⟨by first|exact Kd.R_nil _ _ _ _ _|exact Kd.N_nil _ _ _ _ _|exact Kd.V_nil _ _ _ _ _|exact Kd.Q_nil _ _ _ _ _|exact Kd.S_nil _ _ _ _ _⟩,⟨zhb⟩⟩
 case round =>
  clear H'
  obtain ⟨x3_1,x8_1,rfl,HA,HK1,HO_3,HB⟩:=hrel
  cases gk with
  | zero=>exact absurd HA.out (by simp [impl_ZText.l0])
  | succ k1 =>
   have H:=HA.out
   clear HA
   simp only [impl_ZText.l0] at H
   by_cases c2:x8_1 < (l0.length:Int)
   ·rw [if_pos c2] at H
    have c2b0:decide (x8_1 < (l0.length:Int))=true:=decide_eq_true c2
    clear c2
    by_cases c3:0≤x8_1
    ·rw [if_pos c3] at H
     have c3b0:decide (0≤x8_1)=true:=decide_eq_true c3
     clear c3
     by_cases c4:x8_1 < (l0.length:Int)
     ·rw [if_pos c4] at H
      have c4b0:decide (x8_1 < (l0.length:Int))=true:=decide_eq_true c4
      clear c4
      replace H:=Option.bind_eq_some_iff.mp H
      obtain ⟨t154,A50,H⟩:=H
      (try dsimp only at H)
      have A5:=Aside0.mk A50
      clear A50
      by_cases c6:t154.size + 1≤9223372036854775807
      ·rw [if_pos c6] at H
       have c6b0:=eq_true c6
       have c6b1:decide (t154.size + 1≤9223372036854775807)=true:=decide_eq_true c6
       try have c6b2:(9223372036854775807 < t154.size + 1)=False:=eq_false (Nat.not_lt.2 c6)
       replace H:=Option.bind_eq_some_iff.mp H
       obtain ⟨t155,A70,H⟩:=H
       (try dsimp only at H)
       have A7:=Aside0.mk A70
       clear A70
       by_cases c8:(t154 ++ (⟨#[42]⟩:ByteArray)).size + t155.size≤9223372036854775807
       ·rw [if_pos c8] at H
        have c8b0:=eq_true c8
        have c8b1:decide ((t154 ++ (⟨#[42]⟩:ByteArray)).size + t155.size≤9223372036854775807)=true:=decide_eq_true c8
        (try (have c8b3:t154.size + 1 + t155.size≤9223372036854775807:=by have h_:=c8;simp only [ByteArray.size_append] at h_;exact h_))
        (try have c8b4:=eq_true c8b3)
        (try have c8b5:decide (t154.size + 1 + t155.size≤9223372036854775807)=true:=decide_eq_true c8b3)
        (try have c8b6:(9223372036854775807 < t154.size + 1 + t155.size)=False:=eq_false (Nat.not_lt.2 c8b3))
        try have c8b2:(9223372036854775807 < (t154 ++ (⟨#[42]⟩:ByteArray)).size + t155.size)=False:=eq_false (Nat.not_lt.2 c8)
        by_cases c9:x3_1.length < 8796093022208
        ·rw [if_pos c9] at H
         have LMc9:=Aside0.mk c9
         clear c9
         obtain ⟨y156,hy156⟩ : ∃ y_:List ByteArray,y_=(x3_1 ++ [(t154 ++ (⟨#[42]⟩:ByteArray)) ++ t155]):=⟨_,rfl⟩
         replace H:(impl_ZText.l0 k1 y156 l0 (l0.length:Int) (wrap64 (x8_1 + 1)))=some r:=by first|(rw [hy156];with_reducible exact H)|(have H2_:=(Option.bind_some _ _).symm.trans H;rw [hy156];with_reducible exact H2_)|(have H2_:=(Option.bind_some _ _).symm.trans H;with_reducible exact H2_)|with_reducible exact H|(rw [hy156];exact H)|exact H
         have Ny156:=Aside0.mk hy156
         clear hy156
         have H':=Aside0.mk H
         clear H
         have p152:0≤(x8_1:Int):=zod
         have q152:x8_1 < (l0.length:Int):=zod
         obtain ⟨ad152,A152_0,c152_0,e152,hx152_0,hx152_1,hl152_0,hi152_0⟩:=at_T53 HR0.out x8_1 p152 q152
         cases e152
         replace hx152_0:=(HB.out.cell (World.block_lt_of_cell? w _ hx152_0)).trans hx152_0
         replace hx152_1:=(HB.out.cell (World.block_lt_of_cell? w _ hx152_1)).trans hx152_1
         have HR152_0:=Aside0.mk hi152_0
         have HC152_0:=Aside0.mk hl152_0
         clear hi152_0 hl152_0
         replace p152:=eq_true p152
         replace q152:=eq_true q152
         try go_wp2_with (first|((with_reducible refine gate_dst (N:=5) rfl ?_);refine box_event ?hg (N:=5) ?hd (cs:=#[.slice none 0 0,.int .i64 0]) (t:=53) ?hr ?_;(case hd=>rfl);(case hg=>rfl);(case hr=>first|(go_simp;done)|(go_simp;rfl));intro gb153 hg w10 hbox hb;have n0_:=Aside0.mk (Kd.R_below (by (with_reducible repeat (first|apply Kd.R_alloc|apply Kd.R_drewN|apply Kd.R_drew));exact HO_3.out) hb);have n1_:=Aside0.mk (below_step zhb hb);have n2_:=Aside0.mk (hbox);have n3_:=Aside0.mk ((by rw [hg];exact (below_size zhb):w.heap.size≤gb153));have n4_:=Aside0.mk ((by rw [hg];exact (below_size zhb):w.heap.size≤gb153));clear HO_3;clear HB;have HO_3:=n0_;have HB:=n1_;have BK153:=n2_;have GW153:=n3_;have GE153:=n4_;clear n0_ n1_ n2_ n3_ n4_;clear hb hbox hg;have hcz11_0:w10.cell? ⟨gb153,0,none⟩=some (.slice none 0 0):=(blk_cell BK153.out 0).trans rfl;have hcz11_1:w10.cell? ⟨gb153,1,none⟩=some (.int .i64 0):=(blk_cell BK153.out 1).trans rfl;have hfz11_0:=blk_frozen BK153.out 0;have hfz11_1:=blk_frozen BK153.out 1))
         have n0_:Aside0 (Kd.R Kd.string 9 ((w10.setCell ⟨gb153,0,none⟩ (.slice A152_0 ((rd_T53 l0 x8_1).f0).length c152_0)).setCell ⟨gb153,1,none⟩ (.int .i64 ((rd_T53 l0 x8_1).f1))) w.heap.size (fun _=>True) u3 x3_1):=⟨by (with_reducible repeat (first|apply Kd.R_alloc|apply Kd.R_drewN|apply Kd.R_drew));exact Kd.R_mono (Kd.R_far (p:=⟨gb153,1,none⟩) (Kd.R_far (p:=⟨gb153,0,none⟩) (Kd.R_types HO_3.out BK153.out (by decide)) (fun _ hk=>hk.2) (.slice A152_0 ((rd_T53 l0 x8_1).f0).length c152_0)) (fun _ hk=>hk.2) (.int .i64 ((rd_T53 l0 x8_1).f1))) (fun _ hk=>trivial)⟩
         have n1_:Aside0 (((w10.setCell ⟨gb153,0,none⟩ (.slice A152_0 ((rd_T53 l0 x8_1).f0).length c152_0)).setCell ⟨gb153,1,none⟩ (.int .i64 ((rd_T53 l0 x8_1).f1))).heap[gb153]?=some (.cells #[.slice A152_0 ((rd_T53 l0 x8_1).f0).length c152_0,.int .i64 ((rd_T53 l0 x8_1).f1)] 53 (0,0))):=⟨by (with_reducible repeat (first|refine blk_drewN ?_ _|refine blk_drew ?_|refine blk_alloc ?_ _));refine blk_put (cs:=#[.slice A152_0 ((rd_T53 l0 x8_1).f0).length c152_0,.int .i64 0]) ?_ 1 _ rfl;(with_reducible repeat (first|refine blk_drewN ?_ _|refine blk_drew ?_|refine blk_alloc ?_ _));refine blk_put (cs:=#[.slice none 0 0,.int .i64 0]) ?_ 0 _ rfl;(with_reducible repeat (first|refine blk_drewN ?_ _|refine blk_drew ?_|refine blk_alloc ?_ _));exact BK153.out⟩
         have n2_:Aside0 (Below w.heap.size w ((w10.setCell ⟨gb153,0,none⟩ (.slice A152_0 ((rd_T53 l0 x8_1).f0).length c152_0)).setCell ⟨gb153,1,none⟩ (.int .i64 ((rd_T53 l0 x8_1).f1)))):=⟨by repeat (first|(with_reducible first|exact HB.out|apply below_alloc|apply pw_below_drewN|apply below_drew1|refine below_set ?_ GE153.out)|exact HB.out)⟩
         (try clear HO_3)
         (try clear BK153)
         (try clear HB)
         generalize ((w10.setCell ⟨gb153,0,none⟩ (.slice A152_0 ((rd_T53 l0 x8_1).f0).length c152_0)).setCell ⟨gb153,1,none⟩ (.int .i64 ((rd_T53 l0 x8_1).f1)))=w12 at n0_ n1_ n2_ ⊢
         have HO_3:=n0_
         have BK153:=n1_
         have HB:=n2_
         clear n0_ n1_ n2_
         have n0_:=Aside0.mk (Kd.R_drew HO_3.out)
         have n1_:=Aside0.mk (blk_drew BK153.out)
         have n2_:=Aside0.mk (below_drew1 HB.out)
         clear HO_3
         clear BK153
         clear HB
         have HO_3:=n0_
         have BK153:=n1_
         have HB:=n2_
         clear n0_ n1_ n2_
         refine start_ (n:=12) (S:=fun w'=>w'.cell? ⟨gb153,0,none⟩=some (.slice A152_0 ((rd_T53 l0 x8_1).f0).length c152_0)∧w'.cell? ⟨gb153,1,none⟩=some (.int .i64 ((rd_T53 l0 x8_1).f1))) (ds:=[]) #[X,X,X,X,X,X,X,X,X,X,X,X] (by kernel_rfl) rfl rfl ⟨(blk_cell BK153.out 0).trans rfl,(blk_cell BK153.out 1).trans rfl⟩ (fun hHeld=>?_);refine with_tabW impl_ZText.tab5 impl_ZText.bits5 (fun HT_ HW_=>?_)
         generalize w12.drew=w13 at HO_3 BK153 HB hHeld ⊢
         refine pure_ (i:=0) (N:=some 12) (v:=?_) (a':=?_) #[Y,X,X,X,X,X,X,X,X,X,X,X] rfl rfl zan (fun _ _ _ h=>h) (Or.inl ⟨by rfl,?_⟩) ?_ ?_
         rotate_left
         ·intro w'
          go_simp
          with_reducible rfl
         rotate_left
         ·simp only [Act.put,zp1,zp2,zp3,i64_w,i32_w]
          rfl
         refine pure_ (i:=1) (N:=some 13) (v:=?_) (a':=?_) #[Y,Y,X,X,X,X,X,X,X,X,X,X] rfl rfl zan (fun _ _ _ h=>h) (Or.inl ⟨by rfl,?_⟩) ?_ ?_
         rotate_left
         ·intro w'
          go_simp
          with_reducible rfl
         rotate_left
         ·simp only [Act.put,zp1,zp2,zp3,i64_w,i32_w]
          rfl
         refine pure_ (i:=5) (N:=some 17) (v:=?_) (a':=?_) #[Y,Y,X,X,X,Y,X,X,X,X,X,X] rfl rfl zan (fun _ _ _ h=>h) (Or.inl ⟨by rfl,?_⟩) ?_ ?_
         rotate_left
         ·intro w'
          go_simp
          with_reducible rfl
         rotate_left
         ·simp only [Act.put,zp1,zp2,zp3,i64_w,i32_w]
          rfl
         refine take_ (i:=2) (N:=some 14) (v:=?_) (a':=?_) #[Y,Y,Y,X,X,Y,X,X,X,X,X,X] rfl rfl ztw (fun _ _ _ h=>h) (Or.inl ⟨by rfl,?_⟩) hHeld ?_ ?_
         rotate_left
         ·rintro w' ⟨s0,s1⟩
          go_simp
          with_reducible rfl
         rotate_left
         ·simp only [Act.put,zp1,zp2,zp3,i64_w,i32_w]
          rfl
         refine take_ (i:=6) (N:=some 18) (v:=?_) (a':=?_) #[Y,Y,Y,X,X,Y,Y,X,X,X,X,X] rfl rfl ztw (fun _ _ _ h=>h) (Or.inl ⟨by rfl,?_⟩) hHeld ?_ ?_
         rotate_left
         ·rintro w' ⟨s0,s1⟩
          go_simp
          with_reducible rfl
         rotate_left
         ·simp only [Act.put,zp1,zp2,zp3,i64_w,i32_w]
          rfl
         refine one_ (i:=3) (N:=some 15) #[Y,Y,Y,Y,X,Y,Y,X,X,X,X,X] rfl rfl (one_of HT_.out (by kernel_rfl)) (by decide) (fun K hK=>?_)
         refine goes_ Tryd.func16 (by kernel_rfl) rfl #[.slice A152_0 ((rd_T53 l0 x8_1).f0).length c152_0] (by rfl) rfl rfl zar ?_
         with_reducible refine (impl_RowText.calls _ _ ((rd_T53 l0 x8_1).f0) t154 _ ?side1 ?side2 A5.out).mono ?_
         (case side1=>exact zC (Kd.C_below HR152_0.out HB.out))
         (case side2=>exact HC152_0.out)
         rintro e w14 ⟨rfl,hb⟩
         refine ⟨_,rfl,?_⟩
         have n0_:=Aside0.mk (Kd.R_below (by (with_reducible repeat (first|apply Kd.R_alloc|apply Kd.R_drewN|apply Kd.R_drew));exact HO_3.out) hb)
         have n1_:=Aside0.mk (blk_below (g:=gb153) (o:=.cells #[.slice A152_0 ((rd_T53 l0 x8_1).f0).length c152_0,.int .i64 ((rd_T53 l0 x8_1).f1)] 53 (0,0)) (by (with_reducible repeat (first|refine blk_drewN ?_ _|refine blk_drew ?_|refine blk_alloc ?_ _));exact BK153.out) hb)
         have n2_:=Aside0.mk (below_step (by repeat (first|(with_reducible first|exact HB.out|apply below_alloc|apply pw_below_drewN|apply below_drew1|refine below_set ?_ GE153.out)|exact HB.out)) hb)
         clear HO_3
         clear BK153
         clear HB
         have HO_3:=n0_
         have BK153:=n1_
         have HB:=n2_
         clear n0_ n1_ n2_
         (try clear hb)
         (try clear hb2)
         (try clear hk)
         (try clear hi)
         refine hK.out _ _ ⟨(blk_cell BK153.out 0).trans rfl,(blk_cell BK153.out 1).trans rfl⟩ (fun hHeld=>?_)
         clear hK K
         refine norm_ (a':=?_) ?_ ?_
         rotate_left
         ·show Act.put _ (some 15) _=_
          simp only [Act.put,zp1,zp2,zp3,i64_w,i32_w]
          rfl
         refine pure_ (i:=4) (N:=some 16) (v:=?_) (a':=?_) #[Y,Y,Y,Y,Y,Y,Y,X,X,X,X,X] rfl rfl zan (fun _ _ _ h=>h) (Or.inl ⟨by rfl,?_⟩) ?_ ?_
         rotate_left
         ·intro w'
          go_simp
          with_reducible rfl
         rotate_left
         ·simp only [Act.put,zp1,zp2,zp3,i64_w,i32_w]
          rfl
         refine one_ (i:=7) (N:=some 19) #[Y,Y,Y,Y,Y,Y,Y,Y,X,X,X,X] rfl rfl (one_of HT_.out (by kernel_rfl)) (by decide) (fun K hK=>?_)
         refine goes_ Tryd.func47 (by kernel_rfl) rfl #[.int .i64 ((rd_T53 l0 x8_1).f1)] (by rfl) rfl rfl zar ?_
         with_reducible refine (strconv_Itoa.calls ((rd_T53 l0 x8_1).f1) t155 _ A7.out).mono ?_
         rintro e w15 ⟨rfl,hb⟩
         refine ⟨_,rfl,?_⟩
         have n0_:=Aside0.mk (Kd.R_below (by (with_reducible repeat (first|apply Kd.R_alloc|apply Kd.R_drewN|apply Kd.R_drew));exact HO_3.out) hb)
         have n1_:=Aside0.mk (blk_below (g:=gb153) (o:=.cells #[.slice A152_0 ((rd_T53 l0 x8_1).f0).length c152_0,.int .i64 ((rd_T53 l0 x8_1).f1)] 53 (0,0)) (by (with_reducible repeat (first|refine blk_drewN ?_ _|refine blk_drew ?_|refine blk_alloc ?_ _));exact BK153.out) hb)
         have n2_:=Aside0.mk (below_step (by repeat (first|(with_reducible first|exact HB.out|apply below_alloc|apply pw_below_drewN|apply below_drew1|refine below_set ?_ GE153.out)|exact HB.out)) hb)
         clear HO_3
         clear BK153
         clear HB
         have HO_3:=n0_
         have BK153:=n1_
         have HB:=n2_
         clear n0_ n1_ n2_
         (try clear hb)
         (try clear hb2)
         (try clear hk)
         (try clear hi)
         refine hK.out _ _ ⟨(blk_cell BK153.out 0).trans rfl,(blk_cell BK153.out 1).trans rfl⟩ (fun hHeld=>?_)
         clear hK K
         refine norm_ (a':=?_) ?_ ?_
         rotate_left
         ·show Act.put _ (some 19) _=_
          simp only [Act.put,zp1,zp2,zp3,i64_w,i32_w]
          rfl
         refine pure_ (i:=8) (N:=some 20) (v:=?_) (a':=?_) #[Y,Y,Y,Y,Y,Y,Y,Y,Y,X,X,X] rfl rfl zan (fun _ _ _ h=>h) (Or.inl ⟨by rfl,?_⟩) ?_ ?_
         rotate_left
         ·intro w'
          go_simp
          with_reducible rfl
         rotate_left
         ·simp only [Act.put,zp1,zp2,zp3,i64_w,i32_w]
          rfl
         refine one_ (i:=9) (N:=some 21) #[Y,Y,Y,Y,Y,Y,Y,Y,Y,Y,X,X] rfl rfl (one_of HT_.out (by kernel_rfl)) (by decide) (fun K hK=>?_)
         refine value_ (w1:=?_) (v:=?_) (by rfl) rfl ?_ ?_
         rotate_left 2
         ·go_simp
          constructor
          ·rfl
          ·rfl
         refine hK.out _ _ ⟨(blk_cell (blk_alloc BK153.out _) 0).trans rfl,(blk_cell (blk_alloc BK153.out _) 1).trans rfl⟩ (fun hHeld=>?_)
         clear hK K
         refine norm_ (a':=?_) ?_ ?_
         rotate_left
         ·show Act.put _ (some 21) _=_
          simp only [Act.put,zp1,zp2,zp3,i64_w,i32_w]
          rfl
         refine one_ (i:=10) (N:=some 22) #[Y,Y,Y,Y,Y,Y,Y,Y,Y,Y,Y,X] rfl rfl (one_of HT_.out (by kernel_rfl)) (by decide) (fun K hK=>?_)
         refine Kd.R_append_step Kd.string (w0:=w) w.heap.size (by rfl) (.tmp 12) (.tmp 21) 50 9 (.string ⟨#[]⟩) 16 rfl Tryd.underlying50 info9 rfl (by decide) (by omega) u3 x3_1 ((t154 ++ (⟨#[42]⟩:ByteArray)) ++ t155) [.string ((t154 ++ (⟨#[42]⟩:ByteArray)) ++ t155)] (fun _=>True) (fun _=>False) rfl rfl ?aP (fun _ hk=>hk.elim) ?aF ?aO ?aB ?aS ?aL ?_
         (case aP=>exact rfl)
         (case aB=>exact (by repeat (first|(with_reducible first|exact HB.out|apply below_alloc|apply pw_below_drewN|apply below_drew1|refine below_set ?_ GE153.out)|exact HB.out)))
         (case aF=>exact (fun _ _=>trivial))
         (case aO=>exact (by (with_reducible repeat (first|apply Kd.R_alloc|apply Kd.R_drewN|apply Kd.R_drew));exact HO_3.out))
         (case aS=>exact (below_size (by repeat (first|(with_reducible first|exact HB.out|apply below_alloc|apply pw_below_drewN|apply below_drew1|refine below_set ?_ GE153.out)|exact HB.out))))
         (case aL=>have:=LMc9.out;omega)
         intro v157 w16 ho hb hg hat
         rw [← Ny156.out] at ho
         have n0_:=Aside0.mk (blk_grown (g:=gb153) (o:=.cells #[.slice A152_0 ((rd_T53 l0 x8_1).f0).length c152_0,.int .i64 ((rd_T53 l0 x8_1).f1)] 53 (0,0)) (by (with_reducible repeat (first|refine blk_drewN ?_ _|refine blk_drew ?_|refine blk_alloc ?_ _));exact BK153.out) hg (Kd.R_ne HO_3.out BK153.out (by decide)))
         have n1_:=Aside0.mk (hb)
         have n2_:=Aside0.mk (ho)
         clear BK153
         clear HB
         clear HO_3
         have BK153:=n0_
         have HB:=n1_
         have HO158:=n2_
         clear n0_ n1_ n2_
         clear ho hb hg hat
         refine hK.out _ _ ⟨(blk_cell BK153.out 0).trans rfl,(blk_cell BK153.out 1).trans rfl⟩ (fun hHeld=>?_)
         clear hK K
         refine norm_ (a':=?_) ?_ ?_
         rotate_left
         ·show Act.put _ (some 22) _=_
          simp only [Act.put,zp1,zp2,zp3,i64_w,i32_w]
          rfl
         refine pure_ (i:=11) (N:=some 3) (v:=?_) (a':=?_) #[Y,Y,Y,Y,Y,Y,Y,Y,Y,Y,Y,Y] rfl rfl zan (fun _ _ _ h=>h) (Or.inl ⟨by rfl,?_⟩) ?_ ?_
         rotate_left
         ·intro w'
          go_simp
          with_reducible rfl
         rotate_left
         ·simp only [Act.put,zp1,zp2,zp3,i64_w,i32_w]
          rfl
         refine done_ (done_of HT_.out (by kernel_rfl)) ?_
         try go_wp2
         go_roundg k1
         case measure=>have:=HK1.out;omega
         case rel=>exact ⟨(y156),(wrap64 (x8_1 + 1)),(by first|rfl|(simp;done)|(simp [*];done)),H',⟨by have:=HK1.out;omega⟩,⟨by (with_reducible repeat (first|apply Kd.R_alloc|apply Kd.R_drewN|apply Kd.R_drew));exact HO158.out⟩,⟨by repeat (first|(with_reducible first|exact HB.out|apply below_alloc|apply pw_below_drewN|apply below_drew1|refine below_set ?_ GE153.out)|exact HB.out)⟩⟩
        ·rw [if_neg c9] at H
         exact absurd H (by simp)
       ·rw [if_neg c8] at H
        exact absurd H (by simp)
      ·rw [if_neg c6] at H
       exact absurd H (by simp)
     ·rw [if_neg c4] at H
      exact absurd H (by simp)
    ·rw [if_neg c3] at H
     exact absurd H (by simp)
   ·rw [if_neg c2] at H
    have c2b0:decide (x8_1 < (l0.length:Int))=false:=decide_eq_false c2
    clear c2
    replace H:=Option.bind_eq_some_iff.mp H
    obtain ⟨t159,A170,H⟩:=H
    (try dsimp only at H)
    have A17:=Aside0.mk A170
    clear A170
    obtain rfl:=Option.some.inj H
    obtain ⟨Ao18,co18,eo18⟩:=Kd.R_slice HO_3.out
    subst eo18
    go_wp2_with (first|((with_reducible refine gate_callee (f:=48) rfl ?_);refine goesL_ (some 25) rfl rfl Tryd.func48 (by kernel_rfl) rfl #[.slice Ao18 x3_1.length co18,.string (⟨#[32]⟩:ByteArray)] rfl zar ?_;(with_reducible refine (strings_Join.calls _ _ x3_1 (⟨#[32]⟩:ByteArray) t159 _ ?side1 ?side2 A17.out).mono ?_);(case side1=>repeat (first|exact (Kd.R_reads' HO_3.out).2.2|(with_reducible refine Kd.C_alloc ?_ _)|(with_reducible refine Kd.C_drewN ?_ _)|(with_reducible refine Kd.C_drew ?_)));(case side2=>exact (Kd.R_reads' HO_3.out).2.1);rintro e w19 ⟨rfl,hb⟩;refine ⟨_,rfl,?_⟩;have n0_:=Aside0.mk (Kd.R_below (by (with_reducible repeat (first|apply Kd.R_alloc|apply Kd.R_drewN|apply Kd.R_drew));exact HO_3.out) hb);have n1_:=Aside0.mk (below_step zhb hb);clear HO_3;clear HB;have HO_3:=n0_;have HB:=n1_;clear n0_ n1_;(try clear hb);(try clear hb2);(try clear hk);(try clear hi)))
    go_ret
    exact ⟨by first|rfl|(simp [errW_none,errW_some] <;> rfl)|(simp [*,errW_none,errW_some] <;> rfl),zhb⟩

/-! ### laws_FnExactZText: function 5 (by hand) -/
def laws_FnExactZText.f (k:Nat) (l0:List (S67)):Option Bool :=
 (laws_szItemS.f k l0 1048576).bind fun s0=>((if s0 < 0 then some true else (laws_toItemS.f k l0).bind fun t0=>((spec_ZText.f k t0).bind fun w0=>((laws_toItemS.f k l0).bind fun x0=>((impl_ZText.f k x0).bind fun g0=>((if w0=g0 then (laws_toItemS.f k l0).bind fun u0=>((laws_eqItemS.f k x0 u0).bind fun e0=>((if e0=true then some true else some false))) else some false)))))))
theorem tr_drawn {W W':World} (h:Drawn0 W W'):Below W.heap.size W W':=by
 obtain ⟨n,rfl⟩:=h
 exact pw_below_drewN (Below.refl _ _) n
set_option maxHeartbeats 8000000 in
set_option maxRecDepth 100000 in
theorem laws_FnExactZText.calls (k : Nat) (A0 : Option Addr) (c0 : Nat) (l0 : List (S67)) (r : Bool) (w : World) (hr0 : Kd.C k67 w A0 l0.length l0) (hc0 : l0.length ≤ c0) (h : laws_FnExactZText.f k l0 = some r) (hr_ : r = true) (hT : Lib.TabIs Tryd.prog w "internal/strconv.uint64pow10" .u64 Lib.pow10Tab) :
  Calls Tryd.prog 5 #[.slice A0 l0.length c0] w fun e w'=>e=.returned (.bool r)∧Below w.heap.size w w':=by
 subst hr_
 unfold laws_FnExactZText.f at h
 have HR0:=Aside0.mk hr0
 have HP0:=Aside0.mk hc0
 clear hr0 hc0
 have HT0:=Aside0.mk hT
 clear hT
 go_enter Tryd.func5,Tryd.ntmps5
 replace h:=Option.bind_eq_some_iff.mp h
 obtain ⟨s0,h_,h⟩:=h
 have A_1:=Aside0.mk h_
 have HH:=Aside0.mk h
 clear h_ h
 go_wp2_with fail
 refine (laws_szItemS.calls k _ _ l0 1048576 s0 _ HR0.out HP0.out A_1.out).mono ?_
 rintro e w1 ⟨rfl,hb⟩
 have HB1:=Aside0.mk (show Below w.heap.size w w1 by first|exact hb|exact tr_drawn hb)
 clear hb
 have h:=HH.out
 clear HH
 by_cases cc2:s0 < 0
 case pos =>
  rw [if_pos cc2] at h
  have cc2f0:decide (s0 < 0)=true:=decide_eq_true cc2
  (try clear cc2)
  clear h
  go_wp2
  go_ret
  exact ⟨by first|rfl|simp,HB1.out⟩
 rw [if_neg cc2] at h
 have cc2f0:decide (s0 < 0)=false:=decide_eq_false cc2
 (try clear cc2)
 replace h:=Option.bind_eq_some_iff.mp h
 obtain ⟨t0,h_,h⟩:=h
 have A_3:=Aside0.mk h_
 have HH:=Aside0.mk h
 clear h_ h
 go_wp2_with fail
 refine (laws_toItemS.calls k _ _ l0 t0 _ (Kd.C_below HR0.out HB1.out) HP0.out A_3.out).mono ?_
 rintro e w3 ⟨v_t0,rfl,o_t0,hb⟩
 have HB3:=Aside0.mk (show Below w1.heap.size w1 w3 by first|exact hb|exact tr_drawn hb)
 clear hb
 obtain ⟨a_t0,c_t0,rfl⟩:=Kd.S_slice o_t0
 have HX_t0:=Aside0.mk (Kd.S_reads' o_t0).2.2
 have HP_t0:=Aside0.mk (Kd.S_reads' o_t0).2.1
 clear o_t0
 have h:=HH.out
 clear HH
 replace h:=Option.bind_eq_some_iff.mp h
 obtain ⟨w0,h_,h⟩:=h
 have A_4:=Aside0.mk h_
 have HH:=Aside0.mk h
 clear h_ h
 go_wp2_with fail
 refine (spec_ZText.calls k _ _ t0 w0 _ HX_t0.out HP_t0.out A_4.out).mono ?_
 rintro e w4 ⟨rfl,hb⟩
 have HB4:=Aside0.mk (show Below w3.heap.size w3 w4 by first|exact hb|exact tr_drawn hb)
 clear hb
 have h:=HH.out
 clear HH
 replace h:=Option.bind_eq_some_iff.mp h
 obtain ⟨x0,h_,h⟩:=h
 have A_5:=Aside0.mk h_
 have HH:=Aside0.mk h
 clear h_ h
 go_wp2_with fail
 refine (laws_toItemS.calls k _ _ l0 x0 _ (Kd.C_below HR0.out (below_step (below_step HB1.out HB3.out) HB4.out)) HP0.out A_5.out).mono ?_
 rintro e w5 ⟨v_x0,rfl,o_x0,hb⟩
 have HB5:=Aside0.mk (show Below w4.heap.size w4 w5 by first|exact hb|exact tr_drawn hb)
 clear hb
 obtain ⟨a_x0,c_x0,rfl⟩:=Kd.S_slice o_x0
 have HX_x0:=Aside0.mk (Kd.S_reads' o_x0).2.2
 have HP_x0:=Aside0.mk (Kd.S_reads' o_x0).2.1
 clear o_x0
 have h:=HH.out
 clear HH
 replace h:=Option.bind_eq_some_iff.mp h
 obtain ⟨g0,h_,h⟩:=h
 have A_6:=Aside0.mk h_
 have HH:=Aside0.mk h
 clear h_ h
 go_wp2_with fail
 refine (impl_ZText.calls k _ _ x0 g0 _ HX_x0.out HP_x0.out A_6.out (tab_on HT0.out (below_step (below_step (below_step HB1.out HB3.out) HB4.out) HB5.out))).mono ?_
 rintro e w6 ⟨rfl,hb⟩
 have HB6:=Aside0.mk (show Below w5.heap.size w5 w6 by first|exact hb|exact tr_drawn hb)
 clear hb
 have h:=HH.out
 clear HH
 by_cases cc7:w0=g0
 case neg =>
  rw [if_neg cc7] at h
  cases h
 rw [if_pos cc7] at h
 subst cc7
 (try clear cc7)
 replace h:=Option.bind_eq_some_iff.mp h
 obtain ⟨u0,h_,h⟩:=h
 have A_8:=Aside0.mk h_
 have HH:=Aside0.mk h
 clear h_ h
 go_wp2_with fail
 refine (laws_toItemS.calls k _ _ l0 u0 _ (Kd.C_below HR0.out (below_step (below_step (below_step (below_step HB1.out HB3.out) HB4.out) HB5.out) HB6.out)) HP0.out A_8.out).mono ?_
 rintro e w8 ⟨v_u0,rfl,o_u0,hb⟩
 have HB8:=Aside0.mk (show Below w6.heap.size w6 w8 by first|exact hb|exact tr_drawn hb)
 clear hb
 obtain ⟨a_u0,c_u0,rfl⟩:=Kd.S_slice o_u0
 have HX_u0:=Aside0.mk (Kd.S_reads' o_u0).2.2
 have HP_u0:=Aside0.mk (Kd.S_reads' o_u0).2.1
 clear o_u0
 have h:=HH.out
 clear HH
 replace h:=Option.bind_eq_some_iff.mp h
 obtain ⟨e0,h_,h⟩:=h
 have A_9:=Aside0.mk h_
 have HH:=Aside0.mk h
 clear h_ h
 go_wp2_with fail
 refine (laws_eqItemS.calls k _ _ x0 _ _ u0 e0 _ (Kd.C_below HX_x0.out (below_step HB6.out HB8.out)) HP_x0.out HX_u0.out HP_u0.out A_9.out).mono ?_
 rintro e w9 ⟨rfl,hb⟩
 have HB9:=Aside0.mk (show Below w8.heap.size w8 w9 by first|exact hb|exact tr_drawn hb)
 clear hb
 have h:=HH.out
 clear HH
 cases e0 with
 | false =>
  rw [if_neg (by decide)] at h
  cases h
 | true =>
 rw [if_pos rfl] at h
 clear h
 go_wp2
 go_ret
 exact ⟨by first|rfl|simp,(below_step (below_step (below_step (below_step (below_step (below_step HB1.out HB3.out) HB4.out) HB5.out) HB6.out) HB8.out) HB9.out)⟩

/-- THE ONE PURE STATEMENT of laws_FnExactZText: yours. -/
def laws_FnExactZText.Pure:Prop:=∀ (l0:List (S67)),(l0.length≤maxLen∧∀ y0 ∈ l0,(((y0.f0.length≤maxLen∧∀ y1 ∈ y0.f0,(Lit.int .i64 y1).wf=true))∧((Lit.int .i64 y0.f1).wf=true)))→∃ k,laws_FnExactZText.f k l0=some true
theorem laws_FnExactZText.walk (P : laws_FnExactZText.Pure) (A0 : Option Addr) (c0 : Nat) (l0 : List (S67)) (w : World) (hr0 : Kd.C k67 w A0 l0.length l0) (hc0 : l0.length ≤ c0) (ok0 : (l0.length ≤ maxLen ∧ ∀ y0 ∈ l0, (((y0.f0.length ≤ maxLen ∧ ∀ y1 ∈ y0.f0, (Lit.int .i64 y1).wf = true)) ∧ ((Lit.int .i64 y0.f1).wf = true)))) (hT : Lib.TabIs Tryd.prog w "internal/strconv.uint64pow10" .u64 Lib.pow10Tab) :
  Calls Tryd.prog 5 #[.slice A0 l0.length c0] w fun e w'=>e=.returned (.bool true)∧Below w.heap.size w w':=by
 obtain ⟨k,h⟩:=P l0 ok0
 refine (laws_FnExactZText.calls k A0 c0 l0 true w hr0 hc0 h rfl hT).mono ?_
 rintro e w' ⟨rfl,hd⟩
 exact ⟨rfl,hd⟩

end Go.Proofs.YtgcplipimcbhlaaDoor.PFnExactZText
