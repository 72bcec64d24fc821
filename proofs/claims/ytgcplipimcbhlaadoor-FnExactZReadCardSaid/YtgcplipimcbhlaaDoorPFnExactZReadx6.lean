-- Written by wip/tools/pp.py, a program of this session over the kit's printer: not the kit's own print
import Derived.Test.YtgcplipimcbhlaaDoorPFnExactZReadx0
import Derived.Test.YtgcplipimcbhlaaDoorPFnExactZReadx5
namespace Go.Proofs.YtgcplipimcbhlaaDoor.PFnExactZRead
open Go.RowKit Go.Proofs.YtgcplipimcbhlaaDoorW.PrintWords Go.Proofs.YtgcplipimcbhlaaDoorW.PrintLast Go.Proofs.YtgcplipimcbhlaaDoorW.PrintMore
attribute [local go_sem] max2_int min2_int max_two min_two max_three min_three max_four min_four   -- for this text's walks alone
set_option linter.unusedVariables false
set_option linter.unusedSimpArgs false

/-! ### impl_ZText: function 21 -/
def impl_ZText.l0:Nat→List ByteArray→List (S53)→Int→Int→Option (ByteArray)
 | 0,_,_,_,_=>none
 | k + 1,x3,x6,x7,x8=>if x8 < x7 then (if 0≤x8 then (if x8 < (x6.length:Int) then ((impl_RowText.f ((rd_T53 x6 x8).f0)).bind fun t164=>(if t164.size + 1≤9223372036854775807 then ((strconv_Itoa.f ((rd_T53 x6 x8).f1)).bind fun t165=>(if (t164 ++ (⟨#[42]⟩:ByteArray)).size + t165.size≤9223372036854775807 then (if x3.length < 8796093022208 then (impl_ZText.l0 k (x3 ++ [(t164 ++ (⟨#[42]⟩:ByteArray)) ++ t165]) x6 x7 (wrap64 (x8 + 1))) else (none)) else (none))) else (none))) else (none)) else (none)) else ((strings_Join.f x3 (⟨#[32]⟩:ByteArray)).bind fun t169=>(some t169))
def impl_ZText.f (k:Nat) (l0:List (S53)):Option (ByteArray):=impl_ZText.l0 k ([]:List ByteArray) l0 (l0.length:Int) 0
theorem impl_ZText.mono_l : ∀ k,(∀ y0 y1 y2 y3,LeO (impl_ZText.l0 k y0 y1 y2 y3) (impl_ZText.l0 (k + 1) y0 y1 y2 y3))
 | 0=>fun _ _ _ _ r h=>by simp [impl_ZText.l0] at h
 | k + 1=>by
  have ih0:=impl_ZText.mono_l k
  ·intro y0 y1 y2 y3
   unfold impl_ZText.l0
   repeat' first
   | (with_reducible exact ih0 _ _ _ _)
   | (with_reducible exact LeO.refl _)
   | (with_reducible exact LeO.none _)
   | (with_reducible refine LeO.ite ?_ ?_)
   | (with_reducible refine LeO.bind ?_ (fun _=>?_))
   | exact LeO.none _
   | refine LeO.ite ?_ ?_
   | refine LeO.bind ?_ (fun _=>?_)
theorem impl_ZText.mono : ∀ a0 k,LeO (impl_ZText.f k a0) (impl_ZText.f (k + 1) a0):=by
 intro a0 k
 have ih0:=impl_ZText.mono_l k
 unfold impl_ZText.f
 repeat' first
   | (with_reducible exact ih0 _ _ _ _)
   | (with_reducible exact LeO.refl _)
   | (with_reducible exact LeO.none _)
   | (with_reducible refine LeO.ite ?_ ?_)
   | (with_reducible refine LeO.bind ?_ (fun _=>?_))
   | exact LeO.none _
   | refine LeO.ite ?_ ?_
   | refine LeO.bind ?_ (fun _=>?_)
def impl_ZText.T5:Bool × List (List Nat × List Nat):=(true,[([],[]),([],[]),([1],[1]),([2],[2]),([3],[3]),([],[]),([5],[5]),([6,3],[6]),([4,7],[4,7]),([8],[8]),([0,9,7],[0,9]),([10,10,0,1,2,3,4,5,6,7,8,9,10],[0,10])])
def impl_ZText.B5:List Nat:=[0,0,2,6,14,0,32,110,254,510,1023,2047]
theorem impl_ZText.tab5:rtab .any (opsOf Tryd.f21 5)=impl_ZText.T5:=by kernel_rfl
theorem impl_ZText.bits5:waitsOk impl_ZText.T5.2 impl_ZText.B5=true:=by kernel_rfl
set_option maxHeartbeats 8000000 in
set_option maxRecDepth 100000 in
theorem impl_ZText.calls (k : Nat) (A0 : Option Addr) (c0 : Nat) (l0 : List (S53)) (r : ByteArray) (w : World) (hr0 : Kd.C k53 w A0 l0.length l0) (hc0 : l0.length ≤ c0) (h : impl_ZText.f k l0 = some r) (hT : Lib.TabIs Tryd.prog w "internal/strconv.uint64pow10" .u64 Lib.pow10Tab := by first | exact TxtW.tab (TxtW.on HT0.out zhb) | exact tab_on HT0.out zhb) :
  Calls Tryd.prog 21 #[.slice A0 l0.length c0] w fun e w'=>e=.returned (.string r)∧Below w.heap.size w w':=by
 have HT0:=Aside0.mk hT
 clear hT
 have hu53:=Tryd.underlying53
 have HR0:=Aside0.mk hr0
 have HC0:=Aside0.mk hc0
 clear hr0 hc0
 have HB:=Aside0.mk (Below.refl w.heap.size w)
 have H:(impl_ZText.l0 k ([]:List ByteArray) l0 (l0.length:Int) 0)=some r:=h
 clear h
 have H':=Aside0.mk H
 clear H
 go_enter Tryd.func21,Tryd.ntmps21
 go_wp2
 go_loopg [3,8] k (fun kq v3 v8 w'=>∃ (x3_1:List ByteArray) (x8_1:Int),v8=.int .i64 x8_1∧Aside0 (impl_ZText.l0 kq x3_1 l0 (l0.length:Int) x8_1=some r)∧Aside0 (kq≤k)∧Aside0 (Kd.R Kd.string 9 w' w.heap.size (fun _=>True) v3 x3_1)∧Aside0 (Below w.heap.size w w'))
 case atStart=>exact ⟨(([]:List ByteArray)),(0),(by first|rfl|(simp;done)|(simp [*];done)),H',⟨Nat.le_refl _⟩,⟨by first|exact Kd.R_nil _ _ _ _ _|exact Kd.N_nil _ _ _ _ _|exact Kd.V_nil _ _ _ _ _|exact Kd.Q_nil _ _ _ _ _|exact Kd.S_nil _ _ _ _ _⟩,⟨zhb⟩⟩
 case round =>
  clear H'
  obtain ⟨x3_1,x8_1,rfl,HA,HK1,HO_3,HB⟩:=hrel
  cases gk with
  | zero=>exact absurd HA.out (by simp [impl_ZText.l0])
  | succ k1 =>
   have H:=HA.out
   clear HA
   simp only [impl_ZText.l0] at H
   by_cases c2:x8_1 < (l0.length:Int)
   ·rw [if_pos c2] at H
    have c2b0:decide (x8_1 < (l0.length:Int))=true:=decide_eq_true c2
    clear c2
    by_cases c3:0≤x8_1
    ·rw [if_pos c3] at H
     have c3b0:decide (0≤x8_1)=true:=decide_eq_true c3
     clear c3
     by_cases c4:x8_1 < (l0.length:Int)
     ·rw [if_pos c4] at H
      have c4b0:decide (x8_1 < (l0.length:Int))=true:=decide_eq_true c4
      clear c4
      replace H:=Option.bind_eq_some_iff.mp H
      obtain ⟨t164,A50,H⟩:=H
      (try dsimp only at H)
      have A5:=Aside0.mk A50
      clear A50
      by_cases c6:t164.size + 1≤9223372036854775807
      ·rw [if_pos c6] at H
       have c6b0:=eq_true c6
       have c6b1:decide (t164.size + 1≤9223372036854775807)=true:=decide_eq_true c6
       try have c6b2:(9223372036854775807 < t164.size + 1)=False:=eq_false (Nat.not_lt.2 c6)
       replace H:=Option.bind_eq_some_iff.mp H
       obtain ⟨t165,A70,H⟩:=H
       (try dsimp only at H)
       have A7:=Aside0.mk A70
       clear A70
       by_cases c8:(t164 ++ (⟨#[42]⟩:ByteArray)).size + t165.size≤9223372036854775807
       ·rw [if_pos c8] at H
        have c8b0:=eq_true c8
        have c8b1:decide ((t164 ++ (⟨#[42]⟩:ByteArray)).size + t165.size≤9223372036854775807)=true:=decide_eq_true c8
        (try (have c8b3:t164.size + 1 + t165.size≤9223372036854775807:=by have h_:=c8;simp only [ByteArray.size_append] at h_;exact h_))
        (try have c8b4:=eq_true c8b3)
        (try have c8b5:decide (t164.size + 1 + t165.size≤9223372036854775807)=true:=decide_eq_true c8b3)
        (try have c8b6:(9223372036854775807 < t164.size + 1 + t165.size)=False:=eq_false (Nat.not_lt.2 c8b3))
        try have c8b2:(9223372036854775807 < (t164 ++ (⟨#[42]⟩:ByteArray)).size + t165.size)=False:=eq_false (Nat.not_lt.2 c8)
        by_cases c9:x3_1.length < 8796093022208
        ·rw [if_pos c9] at H
         have LMc9:=Aside0.mk c9
         clear c9
         obtain ⟨y166,hy166⟩ : ∃ y_:List ByteArray,y_=(x3_1 ++ [(t164 ++ (⟨#[42]⟩:ByteArray)) ++ t165]):=⟨_,rfl⟩
         replace H:(impl_ZText.l0 k1 y166 l0 (l0.length:Int) (wrap64 (x8_1 + 1)))=some r:=by first|(rw [hy166];with_reducible exact H)|(have H2_:=(Option.bind_some _ _).symm.trans H;rw [hy166];with_reducible exact H2_)|(have H2_:=(Option.bind_some _ _).symm.trans H;with_reducible exact H2_)|with_reducible exact H|(rw [hy166];exact H)|exact H
         have Ny166:=Aside0.mk hy166
         clear hy166
         have H':=Aside0.mk H
         clear H
         have p162:0≤(x8_1:Int):=zod
         have q162:x8_1 < (l0.length:Int):=zod
         obtain ⟨ad162,A162_0,c162_0,e162,hx162_0,hx162_1,hl162_0,hi162_0⟩:=at_T53 HR0.out x8_1 p162 q162
         cases e162
         replace hx162_0:=(HB.out.cell (World.block_lt_of_cell? w _ hx162_0)).trans hx162_0
         replace hx162_1:=(HB.out.cell (World.block_lt_of_cell? w _ hx162_1)).trans hx162_1
         have HR162_0:=Aside0.mk hi162_0
         have HC162_0:=Aside0.mk hl162_0
         clear hi162_0 hl162_0
         replace p162:=eq_true p162
         replace q162:=eq_true q162
         try go_wp2_with (first|((with_reducible refine gate_dst (N:=5) rfl ?_);refine box_event ?hg (N:=5) ?hd (cs:=#[.slice none 0 0,.int .i64 0]) (t:=53) ?hr ?_;(case hd=>rfl);(case hg=>rfl);(case hr=>first|(go_simp;done)|(go_simp;rfl));intro gb163 hg w10 hbox hb;have n0_:=Aside0.mk (Kd.R_below (by (with_reducible repeat (first|apply Kd.R_alloc|apply Kd.R_drewN|apply Kd.R_drew));exact HO_3.out) hb);have n1_:=Aside0.mk (below_step zhb hb);have n2_:=Aside0.mk (hbox);have n3_:=Aside0.mk ((by rw [hg];exact (below_size zhb):w.heap.size≤gb163));have n4_:=Aside0.mk ((by rw [hg];exact (below_size zhb):w.heap.size≤gb163));clear HO_3;clear HB;have HO_3:=n0_;have HB:=n1_;have BK163:=n2_;have GW163:=n3_;have GE163:=n4_;clear n0_ n1_ n2_ n3_ n4_;clear hb hbox hg;have hcz11_0:w10.cell? ⟨gb163,0,none⟩=some (.slice none 0 0):=(blk_cell BK163.out 0).trans rfl;have hcz11_1:w10.cell? ⟨gb163,1,none⟩=some (.int .i64 0):=(blk_cell BK163.out 1).trans rfl;have hfz11_0:=blk_frozen BK163.out 0;have hfz11_1:=blk_frozen BK163.out 1))
         have n0_:Aside0 (Kd.R Kd.string 9 ((w10.setCell ⟨gb163,0,none⟩ (.slice A162_0 ((rd_T53 l0 x8_1).f0).length c162_0)).setCell ⟨gb163,1,none⟩ (.int .i64 ((rd_T53 l0 x8_1).f1))) w.heap.size (fun _=>True) u3 x3_1):=⟨by (with_reducible repeat (first|apply Kd.R_alloc|apply Kd.R_drewN|apply Kd.R_drew));exact Kd.R_mono (Kd.R_far (p:=⟨gb163,1,none⟩) (Kd.R_far (p:=⟨gb163,0,none⟩) (Kd.R_types HO_3.out BK163.out (by decide)) (fun _ hk=>hk.2) (.slice A162_0 ((rd_T53 l0 x8_1).f0).length c162_0)) (fun _ hk=>hk.2) (.int .i64 ((rd_T53 l0 x8_1).f1))) (fun _ hk=>trivial)⟩
         have n1_:Aside0 (((w10.setCell ⟨gb163,0,none⟩ (.slice A162_0 ((rd_T53 l0 x8_1).f0).length c162_0)).setCell ⟨gb163,1,none⟩ (.int .i64 ((rd_T53 l0 x8_1).f1))).heap[gb163]?=some (.cells #[.slice A162_0 ((rd_T53 l0 x8_1).f0).length c162_0,.int .i64 ((rd_T53 l0 x8_1).f1)] 53 (0,0))):=⟨by (with_reducible repeat (first|refine blk_drewN ?_ _|refine blk_drew ?_|refine blk_alloc ?_ _));refine blk_put (cs:=#[.slice A162_0 ((rd_T53 l0 x8_1).f0).length c162_0,.int .i64 0]) ?_ 1 _ rfl;(with_reducible repeat (first|refine blk_drewN ?_ _|refine blk_drew ?_|refine blk_alloc ?_ _));refine blk_put (cs:=#[.slice none 0 0,.int .i64 0]) ?_ 0 _ rfl;(with_reducible repeat (first|refine blk_drewN ?_ _|refine blk_drew ?_|refine blk_alloc ?_ _));exact BK163.out⟩
         have n2_:Aside0 (Below w.heap.size w ((w10.setCell ⟨gb163,0,none⟩ (.slice A162_0 ((rd_T53 l0 x8_1).f0).length c162_0)).setCell ⟨gb163,1,none⟩ (.int .i64 ((rd_T53 l0 x8_1).f1)))):=⟨by repeat (first|(with_reducible first|exact HB.out|apply below_alloc|apply pw_below_drewN|apply below_drew1|refine below_set ?_ GE163.out)|exact HB.out)⟩
         (try clear HO_3)
         (try clear BK163)
         (try clear HB)
         generalize ((w10.setCell ⟨gb163,0,none⟩ (.slice A162_0 ((rd_T53 l0 x8_1).f0).length c162_0)).setCell ⟨gb163,1,none⟩ (.int .i64 ((rd_T53 l0 x8_1).f1)))=w12 at n0_ n1_ n2_ ⊢
         have HO_3:=n0_
         have BK163:=n1_
         have HB:=n2_
         clear n0_ n1_ n2_
         have n0_:=Aside0.mk (Kd.R_drew HO_3.out)
         have n1_:=Aside0.mk (blk_drew BK163.out)
         have n2_:=Aside0.mk (below_drew1 HB.out)
         clear HO_3
         clear BK163
         clear HB
         have HO_3:=n0_
         have BK163:=n1_
         have HB:=n2_
         clear n0_ n1_ n2_
         refine start_ (n:=12) (S:=fun w'=>w'.cell? ⟨gb163,0,none⟩=some (.slice A162_0 ((rd_T53 l0 x8_1).f0).length c162_0)∧w'.cell? ⟨gb163,1,none⟩=some (.int .i64 ((rd_T53 l0 x8_1).f1))) (ds:=[]) #[X,X,X,X,X,X,X,X,X,X,X,X] (by kernel_rfl) rfl rfl ⟨(blk_cell BK163.out 0).trans rfl,(blk_cell BK163.out 1).trans rfl⟩ (fun hHeld=>?_);refine with_tabW impl_ZText.tab5 impl_ZText.bits5 (fun HT_ HW_=>?_)
         generalize w12.drew=w13 at HO_3 BK163 HB hHeld ⊢
         refine pure_ (i:=0) (N:=some 12) (v:=?_) (a':=?_) #[Y,X,X,X,X,X,X,X,X,X,X,X] rfl rfl zan (fun _ _ _ h=>h) (Or.inl ⟨by rfl,?_⟩) ?_ ?_
         rotate_left
         ·intro w'
          go_simp
          with_reducible rfl
         rotate_left
         ·simp only [Act.put,zp1,zp2,zp3,i64_w,i32_w]
          rfl
         refine pure_ (i:=1) (N:=some 13) (v:=?_) (a':=?_) #[Y,Y,X,X,X,X,X,X,X,X,X,X] rfl rfl zan (fun _ _ _ h=>h) (Or.inl ⟨by rfl,?_⟩) ?_ ?_
         rotate_left
         ·intro w'
          go_simp
          with_reducible rfl
         rotate_left
         ·simp only [Act.put,zp1,zp2,zp3,i64_w,i32_w]
          rfl
         refine pure_ (i:=5) (N:=some 17) (v:=?_) (a':=?_) #[Y,Y,X,X,X,Y,X,X,X,X,X,X] rfl rfl zan (fun _ _ _ h=>h) (Or.inl ⟨by rfl,?_⟩) ?_ ?_
         rotate_left
         ·intro w'
          go_simp
          with_reducible rfl
         rotate_left
         ·simp only [Act.put,zp1,zp2,zp3,i64_w,i32_w]
          rfl
         refine take_ (i:=2) (N:=some 14) (v:=?_) (a':=?_) #[Y,Y,Y,X,X,Y,X,X,X,X,X,X] rfl rfl ztw (fun _ _ _ h=>h) (Or.inl ⟨by rfl,?_⟩) hHeld ?_ ?_
         rotate_left
         ·rintro w' ⟨s0,s1⟩
          go_simp
          with_reducible rfl
         rotate_left
         ·simp only [Act.put,zp1,zp2,zp3,i64_w,i32_w]
          rfl
         refine take_ (i:=6) (N:=some 18) (v:=?_) (a':=?_) #[Y,Y,Y,X,X,Y,Y,X,X,X,X,X] rfl rfl ztw (fun _ _ _ h=>h) (Or.inl ⟨by rfl,?_⟩) hHeld ?_ ?_
         rotate_left
         ·rintro w' ⟨s0,s1⟩
          go_simp
          with_reducible rfl
         rotate_left
         ·simp only [Act.put,zp1,zp2,zp3,i64_w,i32_w]
          rfl
         refine one_ (i:=3) (N:=some 15) #[Y,Y,Y,Y,X,Y,Y,X,X,X,X,X] rfl rfl (one_of HT_.out (by kernel_rfl)) (by decide) (fun K hK=>?_)
         refine goes_ Tryd.func16 (by kernel_rfl) rfl #[.slice A162_0 ((rd_T53 l0 x8_1).f0).length c162_0] (by rfl) rfl rfl zar ?_
         with_reducible refine (impl_RowText.calls _ _ ((rd_T53 l0 x8_1).f0) t164 _ ?side1 ?side2 A5.out).mono ?_
         (case side1=>exact zC (Kd.C_below HR162_0.out HB.out))
         (case side2=>exact HC162_0.out)
         rintro e w14 ⟨rfl,hb⟩
         refine ⟨_,rfl,?_⟩
         have n0_:=Aside0.mk (Kd.R_below (by (with_reducible repeat (first|apply Kd.R_alloc|apply Kd.R_drewN|apply Kd.R_drew));exact HO_3.out) hb)
         have n1_:=Aside0.mk (blk_below (g:=gb163) (o:=.cells #[.slice A162_0 ((rd_T53 l0 x8_1).f0).length c162_0,.int .i64 ((rd_T53 l0 x8_1).f1)] 53 (0,0)) (by (with_reducible repeat (first|refine blk_drewN ?_ _|refine blk_drew ?_|refine blk_alloc ?_ _));exact BK163.out) hb)
         have n2_:=Aside0.mk (below_step (by repeat (first|(with_reducible first|exact HB.out|apply below_alloc|apply pw_below_drewN|apply below_drew1|refine below_set ?_ GE163.out)|exact HB.out)) hb)
         clear HO_3
         clear BK163
         clear HB
         have HO_3:=n0_
         have BK163:=n1_
         have HB:=n2_
         clear n0_ n1_ n2_
         (try clear hb)
         (try clear hb2)
         (try clear hk)
         (try clear hi)
         refine hK.out _ _ ⟨(blk_cell BK163.out 0).trans rfl,(blk_cell BK163.out 1).trans rfl⟩ (fun hHeld=>?_)
         clear hK K
         refine norm_ (a':=?_) ?_ ?_
         rotate_left
         ·show Act.put _ (some 15) _=_
          simp only [Act.put,zp1,zp2,zp3,i64_w,i32_w]
          rfl
         refine pure_ (i:=4) (N:=some 16) (v:=?_) (a':=?_) #[Y,Y,Y,Y,Y,Y,Y,X,X,X,X,X] rfl rfl zan (fun _ _ _ h=>h) (Or.inl ⟨by rfl,?_⟩) ?_ ?_
         rotate_left
         ·intro w'
          go_simp
          with_reducible rfl
         rotate_left
         ·simp only [Act.put,zp1,zp2,zp3,i64_w,i32_w]
          rfl
         refine one_ (i:=7) (N:=some 19) #[Y,Y,Y,Y,Y,Y,Y,Y,X,X,X,X] rfl rfl (one_of HT_.out (by kernel_rfl)) (by decide) (fun K hK=>?_)
         refine goes_ Tryd.func47 (by kernel_rfl) rfl #[.int .i64 ((rd_T53 l0 x8_1).f1)] (by rfl) rfl rfl zar ?_
         with_reducible refine (strconv_Itoa.calls ((rd_T53 l0 x8_1).f1) t165 _ A7.out).mono ?_
         rintro e w15 ⟨rfl,hb⟩
         refine ⟨_,rfl,?_⟩
         have n0_:=Aside0.mk (Kd.R_below (by (with_reducible repeat (first|apply Kd.R_alloc|apply Kd.R_drewN|apply Kd.R_drew));exact HO_3.out) hb)
         have n1_:=Aside0.mk (blk_below (g:=gb163) (o:=.cells #[.slice A162_0 ((rd_T53 l0 x8_1).f0).length c162_0,.int .i64 ((rd_T53 l0 x8_1).f1)] 53 (0,0)) (by (with_reducible repeat (first|refine blk_drewN ?_ _|refine blk_drew ?_|refine blk_alloc ?_ _));exact BK163.out) hb)
         have n2_:=Aside0.mk (below_step (by repeat (first|(with_reducible first|exact HB.out|apply below_alloc|apply pw_below_drewN|apply below_drew1|refine below_set ?_ GE163.out)|exact HB.out)) hb)
         clear HO_3
         clear BK163
         clear HB
         have HO_3:=n0_
         have BK163:=n1_
         have HB:=n2_
         clear n0_ n1_ n2_
         (try clear hb)
         (try clear hb2)
         (try clear hk)
         (try clear hi)
         refine hK.out _ _ ⟨(blk_cell BK163.out 0).trans rfl,(blk_cell BK163.out 1).trans rfl⟩ (fun hHeld=>?_)
         clear hK K
         refine norm_ (a':=?_) ?_ ?_
         rotate_left
         ·show Act.put _ (some 19) _=_
          simp only [Act.put,zp1,zp2,zp3,i64_w,i32_w]
          rfl
         refine pure_ (i:=8) (N:=some 20) (v:=?_) (a':=?_) #[Y,Y,Y,Y,Y,Y,Y,Y,Y,X,X,X] rfl rfl zan (fun _ _ _ h=>h) (Or.inl ⟨by rfl,?_⟩) ?_ ?_
         rotate_left
         ·intro w'
          go_simp
          with_reducible rfl
         rotate_left
         ·simp only [Act.put,zp1,zp2,zp3,i64_w,i32_w]
          rfl
         refine one_ (i:=9) (N:=some 21) #[Y,Y,Y,Y,Y,Y,Y,Y,Y,Y,X,X] rfl rfl (one_of HT_.out (by kernel_rfl)) (by decide) (fun K hK=>?_)
         refine value_ (w1:=?_) (v:=?_) (by rfl) rfl ?_ ?_
         rotate_left 2
         ·go_simp
          constructor
          ·rfl
          ·rfl
         refine hK.out _ _ ⟨(blk_cell (blk_alloc BK163.out _) 0).trans rfl,(blk_cell (blk_alloc BK163.out _) 1).trans rfl⟩ (fun hHeld=>?_)
         clear hK K
         refine norm_ (a':=?_) ?_ ?_
         rotate_left
         ·show Act.put _ (some 21) _=_
          simp only [Act.put,zp1,zp2,zp3,i64_w,i32_w]
          rfl
         refine one_ (i:=10) (N:=some 22) #[Y,Y,Y,Y,Y,Y,Y,Y,Y,Y,Y,X] rfl rfl (one_of HT_.out (by kernel_rfl)) (by decide) (fun K hK=>?_)
         refine Kd.R_append_step Kd.string (w0:=w) w.heap.size (by rfl) (.tmp 12) (.tmp 21) 50 9 (.string ⟨#[]⟩) 16 rfl Tryd.underlying50 info9 rfl (by decide) (by omega) u3 x3_1 ((t164 ++ (⟨#[42]⟩:ByteArray)) ++ t165) [.string ((t164 ++ (⟨#[42]⟩:ByteArray)) ++ t165)] (fun _=>True) (fun _=>False) rfl rfl ?aP (fun _ hk=>hk.elim) ?aF ?aO ?aB ?aS ?aL ?_
         (case aP=>exact rfl)
         (case aB=>exact (by repeat (first|(with_reducible first|exact HB.out|apply below_alloc|apply pw_below_drewN|apply below_drew1|refine below_set ?_ GE163.out)|exact HB.out)))
         (case aF=>exact (fun _ _=>trivial))
         (case aO=>exact (by (with_reducible repeat (first|apply Kd.R_alloc|apply Kd.R_drewN|apply Kd.R_drew));exact HO_3.out))
         (case aS=>exact (below_size (by repeat (first|(with_reducible first|exact HB.out|apply below_alloc|apply pw_below_drewN|apply below_drew1|refine below_set ?_ GE163.out)|exact HB.out))))
         (case aL=>have:=LMc9.out;omega)
         intro v167 w16 ho hb hg hat
         rw [← Ny166.out] at ho
         have n0_:=Aside0.mk (blk_grown (g:=gb163) (o:=.cells #[.slice A162_0 ((rd_T53 l0 x8_1).f0).length c162_0,.int .i64 ((rd_T53 l0 x8_1).f1)] 53 (0,0)) (by (with_reducible repeat (first|refine blk_drewN ?_ _|refine blk_drew ?_|refine blk_alloc ?_ _));exact BK163.out) hg (Kd.R_ne HO_3.out BK163.out (by decide)))
         have n1_:=Aside0.mk (hb)
         have n2_:=Aside0.mk (ho)
         clear BK163
         clear HB
         clear HO_3
         have BK163:=n0_
         have HB:=n1_
         have HO168:=n2_
         clear n0_ n1_ n2_
         clear ho hb hg hat
         refine hK.out _ _ ⟨(blk_cell BK163.out 0).trans rfl,(blk_cell BK163.out 1).trans rfl⟩ (fun hHeld=>?_)
         clear hK K
         refine norm_ (a':=?_) ?_ ?_
         rotate_left
         ·show Act.put _ (some 22) _=_
          simp only [Act.put,zp1,zp2,zp3,i64_w,i32_w]
          rfl
         refine pure_ (i:=11) (N:=some 3) (v:=?_) (a':=?_) #[Y,Y,Y,Y,Y,Y,Y,Y,Y,Y,Y,Y] rfl rfl zan (fun _ _ _ h=>h) (Or.inl ⟨by rfl,?_⟩) ?_ ?_
         rotate_left
         ·intro w'
          go_simp
          with_reducible rfl
         rotate_left
         ·simp only [Act.put,zp1,zp2,zp3,i64_w,i32_w]
          rfl
         refine done_ (done_of HT_.out (by kernel_rfl)) ?_
         try go_wp2
         go_roundg k1
         case measure=>have:=HK1.out;omega
         case rel=>exact ⟨(y166),(wrap64 (x8_1 + 1)),(by first|rfl|(simp;done)|(simp [*];done)),H',⟨by have:=HK1.out;omega⟩,⟨by (with_reducible repeat (first|apply Kd.R_alloc|apply Kd.R_drewN|apply Kd.R_drew));exact HO168.out⟩,⟨by repeat (first|(with_reducible first|exact HB.out|apply below_alloc|apply pw_below_drewN|apply below_drew1|refine below_set ?_ GE163.out)|exact HB.out)⟩⟩
        ·rw [if_neg c9] at H
         exact absurd H (by simp)
       ·rw [if_neg c8] at H
        exact absurd H (by simp)
      ·rw [if_neg c6] at H
       exact absurd H (by simp)
     ·rw [if_neg c4] at H
      exact absurd H (by simp)
    ·rw [if_neg c3] at H
     exact absurd H (by simp)
   ·rw [if_neg c2] at H
    have c2b0:decide (x8_1 < (l0.length:Int))=false:=decide_eq_false c2
    clear c2
    replace H:=Option.bind_eq_some_iff.mp H
    obtain ⟨t169,A170,H⟩:=H
    (try dsimp only at H)
    have A17:=Aside0.mk A170
    clear A170
    obtain rfl:=Option.some.inj H
    obtain ⟨Ao18,co18,eo18⟩:=Kd.R_slice HO_3.out
    subst eo18
    go_wp2_with (first|((with_reducible refine gate_callee (f:=48) rfl ?_);refine goesL_ (some 25) rfl rfl Tryd.func48 (by kernel_rfl) rfl #[.slice Ao18 x3_1.length co18,.string (⟨#[32]⟩:ByteArray)] rfl zar ?_;(with_reducible refine (strings_Join.calls _ _ x3_1 (⟨#[32]⟩:ByteArray) t169 _ ?side1 ?side2 A17.out).mono ?_);(case side1=>repeat (first|exact (Kd.R_reads' HO_3.out).2.2|(with_reducible refine Kd.C_alloc ?_ _)|(with_reducible refine Kd.C_drewN ?_ _)|(with_reducible refine Kd.C_drew ?_)));(case side2=>exact (Kd.R_reads' HO_3.out).2.1);rintro e w19 ⟨rfl,hb⟩;refine ⟨_,rfl,?_⟩;have n0_:=Aside0.mk (Kd.R_below (by (with_reducible repeat (first|apply Kd.R_alloc|apply Kd.R_drewN|apply Kd.R_drew));exact HO_3.out) hb);have n1_:=Aside0.mk (below_step zhb hb);clear HO_3;clear HB;have HO_3:=n0_;have HB:=n1_;clear n0_ n1_;(try clear hb);(try clear hb2);(try clear hk);(try clear hi)))
    go_ret
    exact ⟨by first|rfl|(simp [errW_none,errW_some] <;> rfl)|(simp [*,errW_none,errW_some] <;> rfl),zhb⟩

-- NOT PRINTED: function 88 (slices_IndexFunc_int_int)

-- NOT PRINTED: function 60 (slices_ContainsFunc_int_int)

/-! ### impl_isCell: function 62 -/
def impl_isCell.f (a0:Int):Option (Bool):=if a0 ≥ (-1000000000) then (some (decide (a0≤1000000000))) else (some false)
set_option maxHeartbeats 8000000 in
set_option maxRecDepth 100000 in
theorem impl_isCell.calls (a0:Int) (r:Bool) (w:World) (h:impl_isCell.f a0=some r) :
  Calls Tryd.prog 62 #[.int .i64 a0] w fun e w'=>e=.returned (.bool r)∧Drawn0 w w':=by
 have H:(if a0 ≥ (-1000000000) then (some (decide (a0≤1000000000))) else (some false))=some r:=h
 clear h
 by_cases c2:a0 ≥ (-1000000000)
 ·rw [if_pos c2] at H
  have c2b0:decide ((-1000000000)≤a0)=true:=decide_eq_true c2
  clear c2
  obtain rfl:=Option.some.inj H
  go_enter Tryd.func62,Tryd.ntmps62
  go_wp2
  go_ret
  exact ⟨by first|rfl|(simp;done)|(simp [*];done),zdw⟩
 ·rw [if_neg c2] at H
  have c2b0:decide ((-1000000000)≤a0)=false:=decide_eq_false c2
  clear c2
  obtain rfl:=Option.some.inj H
  go_enter Tryd.func62,Tryd.ntmps62
  go_wp2
  go_ret
  exact ⟨by first|rfl|(simp;done)|(simp [*];done),zdw⟩

/-! ### impl_RowOk_1: function 61 -/
def impl_RowOk_1.f (a0:Int):Option (Bool):=(impl_isCell.f a0).bind fun t170=>(some (!t170))
set_option maxHeartbeats 8000000 in
set_option maxRecDepth 100000 in
theorem impl_RowOk_1.calls (a0:Int) (r:Bool) (w:World) (h:impl_RowOk_1.f a0=some r) :
  Calls Tryd.prog 61 #[.int .i64 a0] w fun e w'=>e=.returned (.bool r)∧Drawn0 w w':=by
 have H:((impl_isCell.f a0).bind fun t170=>(some (!t170)))=some r:=h
 clear h
 replace H:=Option.bind_eq_some_iff.mp H
 obtain ⟨t170,A20,H⟩:=H
 (try dsimp only at H)
 have A2:=Aside0.mk A20
 clear A20
 obtain rfl:=Option.some.inj H
 go_enter Tryd.func61,Tryd.ntmps61
 go_wp2_with (first|((with_reducible refine gate_callee (f:=62) rfl ?_);refine goesL_ (some 4) rfl rfl Tryd.func62 (by kernel_rfl) rfl #[.int .i64 a0] rfl zar ?_;(with_reducible refine (impl_isCell.calls a0 t170 _ A2.out).mono ?_);rintro e w' ⟨rfl,⟨nd,rfl⟩⟩;refine ⟨_,rfl,?_⟩))
 go_ret
 exact ⟨by first|rfl|(simp;done)|(simp [*];done),zdw⟩

/-! ### slices_IndexFunc_int_int__impl_RowOk_1: function 88 -/
def slices_IndexFunc_int_int__impl_RowOk_1.l0:Nat→List Int→Int→Int→Option (Int)
 | 0,_,_,_=>none
 | k + 1,x0,x7,x8=>if x8 < x7 then (if 0≤x8 then (if x8 < (x0.length:Int) then ((impl_RowOk_1.f (rd x0 x8)).bind fun t172=>(if t172=true then (some x8) else (slices_IndexFunc_int_int__impl_RowOk_1.l0 k x0 x7 (wrap64 (x8 + 1))))) else (none)) else (none)) else (some (-1))
def slices_IndexFunc_int_int__impl_RowOk_1.f (k:Nat) (l0:List Int) :Option (Int):=slices_IndexFunc_int_int__impl_RowOk_1.l0 k l0 (l0.length:Int) 0
theorem slices_IndexFunc_int_int__impl_RowOk_1.mono_l : ∀ k,(∀ y0 y1 y2,LeO (slices_IndexFunc_int_int__impl_RowOk_1.l0 k y0 y1 y2) (slices_IndexFunc_int_int__impl_RowOk_1.l0 (k + 1) y0 y1 y2))
 | 0=>fun _ _ _ r h=>by simp [slices_IndexFunc_int_int__impl_RowOk_1.l0] at h
 | k + 1=>by
  have ih0:=slices_IndexFunc_int_int__impl_RowOk_1.mono_l k
  ·intro y0 y1 y2
   unfold slices_IndexFunc_int_int__impl_RowOk_1.l0
   repeat' first
   | (with_reducible exact ih0 _ _ _)
   | (with_reducible exact LeO.refl _)
   | (with_reducible exact LeO.none _)
   | (with_reducible refine LeO.ite ?_ ?_)
   | (with_reducible refine LeO.bind ?_ (fun _=>?_))
   | exact LeO.none _
   | refine LeO.ite ?_ ?_
   | refine LeO.bind ?_ (fun _=>?_)
theorem slices_IndexFunc_int_int__impl_RowOk_1.mono : ∀ a0 k,LeO (slices_IndexFunc_int_int__impl_RowOk_1.f k a0) (slices_IndexFunc_int_int__impl_RowOk_1.f (k + 1) a0):=by
 intro a0 k
 have ih0:=slices_IndexFunc_int_int__impl_RowOk_1.mono_l k
 unfold slices_IndexFunc_int_int__impl_RowOk_1.f
 repeat' first
   | (with_reducible exact ih0 _ _ _)
   | (with_reducible exact LeO.refl _)
   | (with_reducible exact LeO.none _)
   | (with_reducible refine LeO.ite ?_ ?_)
   | (with_reducible refine LeO.bind ?_ (fun _=>?_))
   | exact LeO.none _
   | refine LeO.ite ?_ ?_
   | refine LeO.bind ?_ (fun _=>?_)
set_option maxHeartbeats 8000000 in
set_option maxRecDepth 100000 in
theorem slices_IndexFunc_int_int__impl_RowOk_1.calls (k:Nat) (A0:Option Addr) (c0:Nat) (l0:List Int)  (r:Int) (w:World) (hr0:Kd.C (Kd.int .i64) w A0 l0.length l0) (hc0:l0.length≤c0) (h:slices_IndexFunc_int_int__impl_RowOk_1.f k l0=some r) :
  Calls Tryd.prog 88 #[.slice A0 l0.length c0,.func (.func 61) #[] #[]] w fun e w'=>e=.returned (.int .i64 r)∧Drawn0 w w':=by
 have HR0:=Aside0.mk hr0
 have HC0:=Aside0.mk hc0
 clear hr0 hc0
 have H:(slices_IndexFunc_int_int__impl_RowOk_1.l0 k l0 (l0.length:Int) 0)=some r:=h
 clear h
 have H':=Aside0.mk H
 clear H
 go_enter Tryd.func88,Tryd.ntmps88
 go_wp2
 go_loopg [8] k (fun kq v8 w'=>∃ (x8_1:Int),v8=.int .i64 x8_1∧Aside0 (slices_IndexFunc_int_int__impl_RowOk_1.l0 kq l0 (l0.length:Int) x8_1=some r)∧Aside0 (kq≤k)∧Drawn0 w w')
 case atStart=>exact ⟨(0),(by first|rfl|(simp;done)|(simp [*];done)),H',⟨Nat.le_refl _⟩,zdw⟩
 case round =>
  clear H'
  try clear p2
  obtain ⟨x8_1,rfl,HA,HK1,⟨m1,rfl⟩⟩:=hrel
  cases gk with
  | zero=>exact absurd HA.out (by simp [slices_IndexFunc_int_int__impl_RowOk_1.l0])
  | succ k1 =>
   have H:=HA.out
   clear HA
   simp only [slices_IndexFunc_int_int__impl_RowOk_1.l0] at H
   by_cases c3:x8_1 < (l0.length:Int)
   ·rw [if_pos c3] at H
    have c3b0:decide (x8_1 < (l0.length:Int))=true:=decide_eq_true c3
    clear c3
    by_cases c4:0≤x8_1
    ·rw [if_pos c4] at H
     have c4b0:decide (0≤x8_1)=true:=decide_eq_true c4
     clear c4
     by_cases c5:x8_1 < (l0.length:Int)
     ·rw [if_pos c5] at H
      have c5b0:decide (x8_1 < (l0.length:Int))=true:=decide_eq_true c5
      clear c5
      replace H:=Option.bind_eq_some_iff.mp H
      obtain ⟨t172,A60,H⟩:=H
      (try dsimp only at H)
      have A6:=Aside0.mk A60
      clear A60
      by_cases c7:t172=true
      ·subst c7
       have H1:(some x8_1)=some r:=by rw [if_pos rfl] at H;exact H
       clear H
       have H:=H1
       clear H1
       obtain rfl:=Option.some.inj H
       have p171:0≤(x8_1:Int):=zod
       have q171:x8_1 < (l0.length:Int):=zod
       obtain ⟨ad171,e171,hx171_0⟩:=Kd.at_int HR0.out x8_1 p171 q171
       cases e171
       replace p171:=eq_true p171
       replace q171:=eq_true q171
       go_wp2_with (first|(go_at_call 61;(with_reducible refine (impl_RowOk_1.calls (rd l0 x8_1) true _ A6.out).mono ?_);rintro e w' ⟨rfl,⟨nd,rfl⟩⟩))
       go_ret
       exact ⟨by first|rfl|(simp;done)|(simp [*];done),zdw⟩
      ·replace c7:=Bool.eq_false_iff.mpr c7
       subst c7
       have H1:(slices_IndexFunc_int_int__impl_RowOk_1.l0 k1 l0 (l0.length:Int) (wrap64 (x8_1 + 1)))=some r:=by rw [if_neg (show ¬ (false=true) by decide)] at H;exact H
       clear H
       have H:=H1
       clear H1
       have H':=Aside0.mk H
       clear H
       have p171:0≤(x8_1:Int):=zod
       have q171:x8_1 < (l0.length:Int):=zod
       obtain ⟨ad171,e171,hx171_0⟩:=Kd.at_int HR0.out x8_1 p171 q171
       cases e171
       replace p171:=eq_true p171
       replace q171:=eq_true q171
       go_wp2_with (first|(go_at_call 61;(with_reducible refine (impl_RowOk_1.calls (rd l0 x8_1) false _ A6.out).mono ?_);rintro e w' ⟨rfl,⟨nd,rfl⟩⟩))
       go_roundg k1
       case measure=>have:=HK1.out;omega
       case rel=>exact ⟨(wrap64 (x8_1 + 1)),(by first|rfl|(simp;done)|(simp [*];done)),H',⟨by have:=HK1.out;omega⟩,zdw⟩
     ·rw [if_neg c5] at H
      exact absurd H (by simp)
    ·rw [if_neg c4] at H
     exact absurd H (by simp)
   ·rw [if_neg c3] at H
    have c3b0:decide (x8_1 < (l0.length:Int))=false:=decide_eq_false c3
    clear c3
    obtain rfl:=Option.some.inj H
    go_wp2
    go_ret
    exact ⟨by first|rfl|(simp;done)|(simp [*];done),zdw⟩

/-! ### slices_ContainsFunc_int_int__impl_RowOk_1: function 60 -/
def slices_ContainsFunc_int_int__impl_RowOk_1.f (k:Nat) (l0:List Int) :Option (Bool):=(slices_IndexFunc_int_int__impl_RowOk_1.f k l0).bind fun t173=>(some (decide (t173 ≥ 0)))
theorem slices_ContainsFunc_int_int__impl_RowOk_1.mono : ∀ a0 k,LeO (slices_ContainsFunc_int_int__impl_RowOk_1.f k a0) (slices_ContainsFunc_int_int__impl_RowOk_1.f (k + 1) a0):=by
 intro a0 k
 unfold slices_ContainsFunc_int_int__impl_RowOk_1.f
 repeat' first
   | (with_reducible exact slices_IndexFunc_int_int__impl_RowOk_1.mono _ _)
   | (with_reducible exact LeO.refl _)
   | (with_reducible exact LeO.none _)
   | (with_reducible refine LeO.ite ?_ ?_)
   | (with_reducible refine LeO.bind ?_ (fun _=>?_))
   | exact LeO.none _
   | refine LeO.ite ?_ ?_
   | refine LeO.bind ?_ (fun _=>?_)
set_option maxHeartbeats 8000000 in
set_option maxRecDepth 100000 in
theorem slices_ContainsFunc_int_int__impl_RowOk_1.calls (k:Nat) (A0:Option Addr) (c0:Nat) (l0:List Int)  (r:Bool) (w:World) (hr0:Kd.C (Kd.int .i64) w A0 l0.length l0) (hc0:l0.length≤c0) (h:slices_ContainsFunc_int_int__impl_RowOk_1.f k l0=some r) :
  Calls Tryd.prog 60 #[.slice A0 l0.length c0,.func (.func 61) #[] #[]] w fun e w'=>e=.returned (.bool r)∧Drawn0 w w':=by
 have HR0:=Aside0.mk hr0
 have HC0:=Aside0.mk hc0
 clear hr0 hc0
 have H:((slices_IndexFunc_int_int__impl_RowOk_1.f k l0).bind fun t173=>(some (decide (t173 ≥ 0))))=some r:=h
 clear h
 replace H:=Option.bind_eq_some_iff.mp H
 obtain ⟨t173,A30,H⟩:=H
 (try dsimp only at H)
 have A3:=Aside0.mk A30
 clear A30
 obtain rfl:=Option.some.inj H
 go_enter Tryd.func60,Tryd.ntmps60
 go_wp2_with (first|(go_at_call 88;(with_reducible refine (slices_IndexFunc_int_int__impl_RowOk_1.calls k _ _ l0  t173 _ ?side1 ?side2 A3.out).mono ?_);(case side1=>exact zC HR0.out);(case side2=>exact HC0.out);rintro e w' ⟨rfl,⟨nd,rfl⟩⟩))
 go_ret
 exact ⟨by first|rfl|(simp;done)|(simp [*];done),zdw⟩

/-! ### impl_RowOk: function 32 -/
def impl_RowOk.f (k:Nat) (l0:List Int):Option (Bool):=if (l0.length:Int) ≥ 1 then (if (l0.length:Int)≤6 then ((slices_ContainsFunc_int_int__impl_RowOk_1.f k l0).bind fun t174=>(some (!t174))) else (some false)) else (some false)
theorem impl_RowOk.mono : ∀ a0 k,LeO (impl_RowOk.f k a0) (impl_RowOk.f (k + 1) a0):=by
 intro a0 k
 unfold impl_RowOk.f
 repeat' first
   | (with_reducible exact slices_ContainsFunc_int_int__impl_RowOk_1.mono _ _)
   | (with_reducible exact LeO.refl _)
   | (with_reducible exact LeO.none _)
   | (with_reducible refine LeO.ite ?_ ?_)
   | (with_reducible refine LeO.bind ?_ (fun _=>?_))
   | exact LeO.none _
   | refine LeO.ite ?_ ?_
   | refine LeO.bind ?_ (fun _=>?_)
set_option maxHeartbeats 8000000 in
set_option maxRecDepth 100000 in
theorem impl_RowOk.calls (k:Nat) (A0:Option Addr) (c0:Nat) (l0:List Int) (r:Bool) (w:World) (hr0:Kd.C (Kd.int .i64) w A0 l0.length l0) (hc0:l0.length≤c0) (h:impl_RowOk.f k l0=some r) :
  Calls Tryd.prog 32 #[.slice A0 l0.length c0] w fun e w'=>e=.returned (.bool r)∧Drawn0 w w':=by
 have HR0:=Aside0.mk hr0
 have HC0:=Aside0.mk hc0
 clear hr0 hc0
 have H:(if (l0.length:Int) ≥ 1 then (if (l0.length:Int)≤6 then ((slices_ContainsFunc_int_int__impl_RowOk_1.f k l0).bind fun t174=>(some (!t174))) else (some false)) else (some false))=some r:=h
 clear h
 by_cases c2:(l0.length:Int) ≥ 1
 ·rw [if_pos c2] at H
  have c2b0:decide (1≤(l0.length:Int))=true:=decide_eq_true c2
  have c2b1:decide (1≤l0.length)=true:=decide_eq_true (by omega)
  clear c2
  by_cases c3:(l0.length:Int)≤6
  ·rw [if_pos c3] at H
   have c3b0:decide ((l0.length:Int)≤6)=true:=decide_eq_true c3
   have c3b1:decide (l0.length≤6)=true:=decide_eq_true (by omega)
   clear c3
   replace H:=Option.bind_eq_some_iff.mp H
   obtain ⟨t174,A40,H⟩:=H
   (try dsimp only at H)
   have A4:=Aside0.mk A40
   clear A40
   obtain rfl:=Option.some.inj H
   go_enter Tryd.func32,Tryd.ntmps32
   go_wp2_with (first|(go_at_call 60;(with_reducible refine (slices_ContainsFunc_int_int__impl_RowOk_1.calls k _ _ l0  t174 _ ?side1 ?side2 A4.out).mono ?_);(case side1=>exact zC HR0.out);(case side2=>exact HC0.out);rintro e w' ⟨rfl,⟨nd,rfl⟩⟩))
   go_ret
   exact ⟨by first|rfl|(simp;done)|(simp [*];done),zdw⟩
  ·rw [if_neg c3] at H
   have c3b0:decide ((l0.length:Int)≤6)=false:=decide_eq_false c3
   have c3b1:decide (l0.length≤6)=false:=decide_eq_false (by omega)
   clear c3
   obtain rfl:=Option.some.inj H
   go_enter Tryd.func32,Tryd.ntmps32
   go_wp2
   go_ret
   exact ⟨by first|rfl|(simp;done)|(simp [*];done),zdw⟩
 ·rw [if_neg c2] at H
  have c2b0:decide (1≤(l0.length:Int))=false:=decide_eq_false c2
  have c2b1:decide (1≤l0.length)=false:=decide_eq_false (by omega)
  clear c2
  obtain rfl:=Option.some.inj H
  go_enter Tryd.func32,Tryd.ntmps32
  go_wp2
  go_ret
  exact ⟨by first|rfl|(simp;done)|(simp [*];done),zdw⟩

end Go.Proofs.YtgcplipimcbhlaaDoor.PFnExactZRead
