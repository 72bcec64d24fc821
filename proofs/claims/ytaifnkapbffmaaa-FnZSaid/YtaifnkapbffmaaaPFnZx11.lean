-- Written by wip/tools/pp.py, a program of this session over the kit's printer: not the kit's own print
import Derived.Test.YtaifnkapbffmaaaPFnZx0
import Derived.Test.YtaifnkapbffmaaaPFnZx4
import Derived.Test.YtaifnkapbffmaaaPFnZx7
import Derived.Test.YtaifnkapbffmaaaPFnZx8
namespace Go.Proofs.Ytaifnkapbffmaaa.PFnZ
open Go.RowKit Go.Proofs.YtaifnkapbffmaaaW.PrintWords Go.Proofs.YtaifnkapbffmaaaW.PrintLast Go.Proofs.YtaifnkapbffmaaaW.PrintMore
attribute [local go_sem] max2_int min2_int max_two min_two max_three min_three max_four min_four   -- for this text's walks alone
set_option linter.unusedVariables false
set_option linter.unusedSimpArgs false

/-! ### impl_turned: function 75 -/
def impl_turned.l0:Nat→List (S54)→List (S54)→Int→Int→Option ((List (S54)))
 | 0,_,_,_,_=>none
 | k + 1,x3,x6,x7,x8=>if x8 < x7 then (if 0≤x8 then (if x8 < (x6.length:Int) then (if x3.length < 4398046511104 then (impl_turned.l0 k (x3 ++ [(⟨(rd_T54 x6 x8).f0,wrap64 (-((rd_T54 x6 x8).f1))⟩:S54)]) x6 x7 (wrap64 (x8 + 1))) else (none)) else (none)) else (none)) else (some x3)
def impl_turned.f (k:Nat) (l0:List (S54)):Option ((List (S54))):=impl_turned.l0 k ([]:List (S54)) l0 (l0.length:Int) 0
theorem impl_turned.mono_l : ∀ k,(∀ y0 y1 y2 y3,LeO (impl_turned.l0 k y0 y1 y2 y3) (impl_turned.l0 (k + 1) y0 y1 y2 y3))
 | 0=>fun _ _ _ _ r h=>by simp [impl_turned.l0] at h
 | k + 1=>by
  have ih0:=impl_turned.mono_l k
  ·intro y0 y1 y2 y3
   unfold impl_turned.l0
   repeat' first
   | (with_reducible exact ih0 _ _ _ _)
   | (with_reducible exact LeO.refl _)
   | (with_reducible exact LeO.none _)
   | (with_reducible refine LeO.ite ?_ ?_)
   | (with_reducible refine LeO.bind ?_ (fun _=>?_))
   | exact LeO.none _
   | refine LeO.ite ?_ ?_
   | refine LeO.bind ?_ (fun _=>?_)
theorem impl_turned.mono : ∀ a0 k,LeO (impl_turned.f k a0) (impl_turned.f (k + 1) a0):=by
 intro a0 k
 have ih0:=impl_turned.mono_l k
 unfold impl_turned.f
 repeat' first
   | (with_reducible exact ih0 _ _ _ _)
   | (with_reducible exact LeO.refl _)
   | (with_reducible exact LeO.none _)
   | (with_reducible refine LeO.ite ?_ ?_)
   | (with_reducible refine LeO.bind ?_ (fun _=>?_))
   | exact LeO.none _
   | refine LeO.ite ?_ ?_
   | refine LeO.bind ?_ (fun _=>?_)
set_option maxHeartbeats 8000000 in
set_option maxRecDepth 100000 in
theorem impl_turned.calls (k:Nat) (P0_:Nat→Prop) (A0:Option Addr) (c0:Nat) (l0:List (S54)) (r:List (S54)) (w:World) (hs0:Kd.V k54 54 w w.heap.size (fun k_=>P0_ k_) (.slice A0 l0.length c0) l0) (h:impl_turned.f k l0=some r) :
  Calls Try.prog 75 #[.slice A0 l0.length c0] w fun e w'=>∃ v0_:Value,e=.returned (v0_)∧Kd.N k54 54 w' w.heap.size (fun k_=>(P0_ k_∨w.heap.size≤k_)) v0_ r∧Below w.heap.size w w':=by
 have hu54:=Try.underlying54
 have HO0:=Aside0.mk (show Kd.V k54 54 w w.heap.size (fun k_=>(P0_ k_∨w.heap.size≤k_)) (.slice A0 l0.length c0) l0 from Kd.V_mono hs0 (fun k_ hk=>.inl hk))
 have HB:=Aside0.mk (Below.refl w.heap.size w)
 have H:(impl_turned.l0 k ([]:List (S54)) l0 (l0.length:Int) 0)=some r:=h
 clear h
 have H':=Aside0.mk H
 clear H
 go_enter Try.func75,Try.ntmps75
 go_wp2
 go_loopg [3,8] k (fun kq v3 v8 w'=>∃ (x3_1:List (S54)) (x8_1:Int),v8=.int .i64 x8_1∧Aside0 (impl_turned.l0 kq x3_1 l0 (l0.length:Int) x8_1=some r)∧Aside0 (kq≤k)∧Aside0 (Kd.N k54 54 w' w.heap.size (fun k_=>(P0_ k_∨w.heap.size≤k_)) v3 x3_1)∧Aside0 (Kd.V k54 54 w' w.heap.size (fun k_=>(P0_ k_∨w.heap.size≤k_)∧some k_≠(v3:Value).ownBlock) (.slice A0 l0.length c0) l0)∧Aside0 (Below w.heap.size w w'))
 case atStart=>exact ⟨(([]:List (S54))),(0),(by first|rfl|(simp;done)|(simp [*];done)),H',⟨Nat.le_refl _⟩,⟨by first|exact Kd.S_nil _ _ _ _ _|exact Kd.N_nil _ _ _ _ _|exact Kd.V_nil _ _ _ _ _|exact Kd.Q_nil _ _ _ _ _|exact Kd.R_nil _ _ _ _ _⟩,⟨by (with_reducible repeat (first|apply Kd.V_alloc|apply Kd.V_drewN|apply Kd.V_drew));exact Kd.V_mono HO0.out (fun _ hk=>⟨hk,(by simp [Value.ownBlock])⟩)⟩,⟨zhb⟩⟩
 case round =>
  clear H'
  obtain ⟨x3_1,x8_1,rfl,HA,HK1,HO_3,HO_6,HB⟩:=hrel
  cases gk with
  | zero=>exact absurd HA.out (by simp [impl_turned.l0])
  | succ k1 =>
   have H:=HA.out
   clear HA
   simp only [impl_turned.l0] at H
   by_cases c2:x8_1 < (l0.length:Int)
   ·rw [if_pos c2] at H
    have c2b0:decide (x8_1 < (l0.length:Int))=true:=decide_eq_true c2
    clear c2
    by_cases c3:0≤x8_1
    ·rw [if_pos c3] at H
     have c3b0:decide (0≤x8_1)=true:=decide_eq_true c3
     clear c3
     by_cases c4:x8_1 < (l0.length:Int)
     ·rw [if_pos c4] at H
      have c4b0:decide (x8_1 < (l0.length:Int))=true:=decide_eq_true c4
      clear c4
      by_cases c5:x3_1.length < 4398046511104
      ·rw [if_pos c5] at H
       have LMc5:=Aside0.mk c5
       clear c5
       obtain ⟨y286,hy286⟩ : ∃ y_:List (S54),y_=(x3_1 ++ [(⟨(rd_T54 l0 x8_1).f0,wrap64 (-((rd_T54 l0 x8_1).f1))⟩:S54)]):=⟨_,rfl⟩
       replace H:(impl_turned.l0 k1 y286 l0 (l0.length:Int) (wrap64 (x8_1 + 1)))=some r:=by first|(rw [hy286];with_reducible exact H)|(have H2_:=(Option.bind_some _ _).symm.trans H;rw [hy286];with_reducible exact H2_)|(have H2_:=(Option.bind_some _ _).symm.trans H;with_reducible exact H2_)|with_reducible exact H|(rw [hy286];exact H)|exact H
       have Ny286:=Aside0.mk hy286
       clear hy286
       have H':=Aside0.mk H
       clear H
       have p284:0≤(x8_1:Int):=zod
       have q284:x8_1 < (l0.length:Int):=zod
       obtain ⟨ad284,A284_0,c284_0,e284,hx284_0,hx284_1,hl284_0,hi284_0⟩:=at_T54 (Kd.V_reads' HO_6.out).2.2 x8_1 p284 q284
       cases e284
       obtain ⟨ce284,hce284,hMe284,hcc284⟩:=Kd.V_get HO_6.out z54 x8_1 p284 (by first|exact q284|exact zod|(have e_:=(Kd.V_reads' HO_6.out).1;omega))
       obtain ⟨ua284_0,uc284_0,rfl,ul284_0,ge284_0⟩:=k54_openF hMe284
       have hv284_0:=hcc284 0 _ rfl
       rw [Nat.add_zero] at hv284_0
       replace hv284_0:=Option.some.inj (hv284_0.symm.trans hx284_0)
       injection hv284_0 with hva_ hvn_ hvc_
       rw [hva_] at ge284_0
       rw [hvc_] at ul284_0
       have HL284_0:=Aside0.mk (show Kd.V (Kd.int .i64) 3 _ w.heap.size _ _ ((rd_T54 l0 x8_1).f0) from Kd.V_mk ul284_0 ge284_0)
       clear hva_ hvn_ hvc_ ge284_0 ul284_0
       clear hcc284 hce284
       have HR284_0:=Aside0.mk hi284_0
       have HC284_0:=Aside0.mk hl284_0
       clear hi284_0 hl284_0
       replace p284:=eq_true p284
       replace q284:=eq_true q284
       go_wp2_with (first|((with_reducible refine gate_dst (N:=5) rfl ?_);refine box_event ?hg (N:=5) ?hd (cs:=#[.slice none 0 0,.int .i64 0]) (t:=54) ?hr ?_;(case hd=>rfl);(case hg=>rfl);(case hr=>first|(go_simp;done)|(go_simp;rfl));intro gb285 hg w6 hbox hb;have n0_:=Aside0.mk (Kd.N_below (Kd.N_elderB (zN HO_3.out) gb285 (Nat.le_of_eq hg.symm)) hb);have n1_:=Aside0.mk (Kd.V_below (Kd.V_elderB (zV HO_6.out) gb285 (Nat.le_of_eq hg.symm)) hb);have n2_:=Aside0.mk (Kd.V_below (Kd.V_elderB (zV HL284_0.out) gb285 (Nat.le_of_eq hg.symm)) hb);have n3_:=Aside0.mk (Kd.C_below (zC HR284_0.out) hb);have n4_:=Aside0.mk (below_step zhb hb);have n5_:=Aside0.mk (hbox);have n6_:=Aside0.mk ((by rw [hg];exact (below_size zhb):w.heap.size≤gb285));have n7_:=Aside0.mk ((by rw [hg];exact (below_size zhb):w.heap.size≤gb285));clear HO_3;clear HO_6;clear HL284_0;clear HR284_0;clear HB;have HO_3:=n0_;have HO_6:=n1_;have HL284_0:=n2_;have HR284_0:=n3_;have HB:=n4_;have BK285:=n5_;have GW285:=n6_;have GE285:=n7_;clear n0_ n1_ n2_ n3_ n4_ n5_ n6_ n7_;clear hb hbox hg;have hcz7_0:w6.cell? ⟨gb285,0,none⟩=some (.slice none 0 0):=(blk_cell BK285.out 0).trans rfl;have hcz7_1:w6.cell? ⟨gb285,1,none⟩=some (.int .i64 0):=(blk_cell BK285.out 1).trans rfl;have hfz7_0:=blk_frozen BK285.out 0;have hfz7_1:=blk_frozen BK285.out 1)|((with_reducible refine gate_store (t:=54) (p:=5) rfl ?_);refine store_event (t:=54) (p:=5) (v:=?vo_w8) (w1:=((w6.setCell ⟨gb285,0,none⟩ (.slice A284_0 ((rd_T54 l0 x8_1).f0).length c284_0)).setCell ⟨gb285,1,none⟩ (.int .i64 ((rd_T54 l0 x8_1).f1)))) ?hg ?ho ?hn ?hr ?_;(case ho=>rfl);(case hg=>rfl);(case hn=>rfl);(case hr=>first|(go_simp;done)|(go_simp;rfl));intro w8 hw;have n0_:Aside0 (Kd.N k54 54 w8 w.heap.size (fun k_=>(P0_ k_∨w.heap.size≤k_)∧k_≠gb285) u3 x3_1):=⟨(by rw [hw];exact (by (with_reducible repeat (first|apply Kd.N_alloc|apply Kd.N_drewN|apply Kd.N_drew));exact Kd.N_mono (Kd.N_far (p:=⟨gb285,1,none⟩) (Kd.N_far (p:=⟨gb285,0,none⟩) (Kd.N_mono HO_3.out (fun k_ hk=>(⟨hk,hk.2⟩:_∧k_≠gb285))) (fun _ hk=>hk.2) (.slice A284_0 ((rd_T54 l0 x8_1).f0).length c284_0)) (fun _ hk=>hk.2) (.int .i64 ((rd_T54 l0 x8_1).f1))) (fun _ hk=>⟨hk.1.1,hk.1.2⟩)))⟩;have n1_:Aside0 (Kd.V k54 54 w8 w.heap.size (fun k_=>(P0_ k_∨w.heap.size≤k_)∧some k_≠(u3:Value).ownBlock∧k_≠gb285) (.slice (some ad284) l0.length c0) l0):=⟨(by rw [hw];exact (by (with_reducible repeat (first|apply Kd.V_alloc|apply Kd.V_drewN|apply Kd.V_drew));exact Kd.V_mono (Kd.V_far (p:=⟨gb285,1,none⟩) (Kd.V_far (p:=⟨gb285,0,none⟩) (Kd.V_mono HO_6.out (fun k_ hk=>(⟨hk,hk.2⟩:_∧k_≠gb285))) (fun _ hk=>hk.2) (.slice A284_0 ((rd_T54 l0 x8_1).f0).length c284_0)) (fun _ hk=>hk.2) (.int .i64 ((rd_T54 l0 x8_1).f1))) (fun _ hk=>⟨hk.1.1.1,⟨hk.1.1.2,hk.1.2⟩⟩)))⟩;have n2_:Aside0 (Kd.V (Kd.int .i64) 3 w8 w.heap.size (fun k_=>(P0_ k_∨w.heap.size≤k_)∧some k_≠(u3:Value).ownBlock∧k_≠gb285) (.slice A284_0 ((rd_T54 l0 x8_1).f0).length c284_0) ((rd_T54 l0 x8_1).f0)):=⟨(by rw [hw];exact (by (with_reducible repeat (first|apply Kd.V_alloc|apply Kd.V_drewN|apply Kd.V_drew));exact Kd.V_mono (Kd.V_far (p:=⟨gb285,1,none⟩) (Kd.V_far (p:=⟨gb285,0,none⟩) (Kd.V_mono HL284_0.out (fun k_ hk=>(⟨hk,hk.2⟩:_∧k_≠gb285))) (fun _ hk=>hk.2) (.slice A284_0 ((rd_T54 l0 x8_1).f0).length c284_0)) (fun _ hk=>hk.2) (.int .i64 ((rd_T54 l0 x8_1).f1))) (fun _ hk=>⟨hk.1.1.1,⟨hk.1.1.2,hk.1.2⟩⟩)))⟩;have n3_:Aside0 (w8.heap[gb285]?=some (.cells #[.slice A284_0 ((rd_T54 l0 x8_1).f0).length c284_0,.int .i64 ((rd_T54 l0 x8_1).f1)] 54 (0,0))):=⟨(by rw [hw];exact (by (with_reducible repeat (first|refine blk_drewN ?_ _|refine blk_drew ?_|refine blk_alloc ?_ _));refine blk_put (cs:=#[.slice A284_0 ((rd_T54 l0 x8_1).f0).length c284_0,.int .i64 0]) ?_ 1 _ rfl;(with_reducible repeat (first|refine blk_drewN ?_ _|refine blk_drew ?_|refine blk_alloc ?_ _));refine blk_put (cs:=#[.slice none 0 0,.int .i64 0]) ?_ 0 _ rfl;(with_reducible repeat (first|refine blk_drewN ?_ _|refine blk_drew ?_|refine blk_alloc ?_ _));exact BK285.out))⟩;have n4_:Aside0 (Below w.heap.size w w8):=⟨(by rw [hw];exact (by repeat (first|(with_reducible first|exact HB.out|apply below_alloc|apply pw_below_drewN|apply below_drew1|refine below_set ?_ GE285.out)|exact HB.out)))⟩;clear hw;clear HO_3;clear HO_6;clear HL284_0;clear BK285;clear HB;have HO_3:=n0_;have HO_6:=n1_;have HL284_0:=n2_;have BK285:=n3_;have HB:=n4_;clear n0_ n1_ n2_ n3_ n4_;have hcz9_0:w8.cell? ⟨gb285,0,none⟩=some (.slice A284_0 ((rd_T54 l0 x8_1).f0).length c284_0):=(blk_cell BK285.out 0).trans rfl;have hcz9_1:w8.cell? ⟨gb285,1,none⟩=some (.int .i64 ((rd_T54 l0 x8_1).f1)):=(blk_cell BK285.out 1).trans rfl;have hfz9_0:=blk_frozen BK285.out 0;have hfz9_1:=blk_frozen BK285.out 1)|((with_reducible refine gate_builtin (b:=.append) (xs:=#[.tmp 12,.tmp 19]) rfl ?_);at_builtin;refine Kd.N_append k54 (w0:=w) w.heap.size rfl (.tmp 12) (.tmp 19) 24 54 (.agg #[(.slice none 0 0),(.int .i64 0)]) 32 rfl Try.underlying24 info54 rfl (by decide) (by omega) u3 x3_1 (⟨(rd_T54 l0 x8_1).f0,wrap64 (-((rd_T54 l0 x8_1).f1))⟩:S54) [.slice A284_0 ((rd_T54 l0 x8_1).f0).length c284_0,.int .i64 (wrap64 (-((rd_T54 l0 x8_1).f1)))] (fun k_=>(P0_ k_∨w.heap.size≤k_)∧k_≠gb285) (fun k_=>((fun k_=>(P0_ k_∨w.heap.size≤k_)∧k_≠gb285)) k_∧some k_≠(u3:Value).ownBlock) rfl rfl ?aP (fun _ hk=>hk) ?aF ?aO ?aB ?aS ?aL ?_;(case aP=>exact (k54_mkF _ _ (⟨(rd_T54 l0 x8_1).f0,wrap64 (-((rd_T54 l0 x8_1).f1))⟩:S54) (Kd.V_reads' (Kd.V_mono (ok':=(fun k_=>((fun k_=>(P0_ k_∨w.heap.size≤k_)∧k_≠gb285)) k_∧some k_≠(u3:Value).ownBlock)) (HL284_0.out) (fun k_ hk=>⟨⟨hk.1,hk.2.2⟩,hk.2.1⟩))).2.1 (Kd.V_F (Kd.V_mono (ok':=(fun k_=>((fun k_=>(P0_ k_∨w.heap.size≤k_)∧k_≠gb285)) k_∧some k_≠(u3:Value).ownBlock)) (HL284_0.out) (fun k_ hk=>⟨⟨hk.1,hk.2.2⟩,hk.2.1⟩)))));(case aB=>exact (by repeat (first|(with_reducible first|exact HB.out|apply below_alloc|apply pw_below_drewN|apply below_drew1|refine below_set ?_ GE285.out)|exact HB.out)));(case aF=>exact (fun k_ hk=>⟨(.inr (Nat.le_trans (below_size (by repeat (first|(with_reducible first|exact HB.out|apply below_alloc|apply pw_below_drewN|apply below_drew1|refine below_set ?_ GE285.out)|exact HB.out))) hk)),Kd.freshB (g:=gb285) (o:=.cells #[.slice A284_0 ((rd_T54 l0 x8_1).f0).length c284_0,.int .i64 ((rd_T54 l0 x8_1).f1)] 54 (0,0)) (by (with_reducible repeat (first|refine blk_drewN ?_ _|refine blk_drew ?_|refine blk_alloc ?_ _));exact BK285.out) k_ hk⟩));(case aO=>exact (zN HO_3.out));(case aS=>exact (below_size (by repeat (first|(with_reducible first|exact HB.out|apply below_alloc|apply pw_below_drewN|apply below_drew1|refine below_set ?_ GE285.out)|exact HB.out))));(case aL=>have:=LMc5.out;omega);intro v287 w10 ho hb hg hat;rw [← Ny286.out] at ho;have n0_:=Aside0.mk (Kd.V_afterv (ok:=(fun k_=>(P0_ k_∨w.heap.size≤k_)∧k_≠gb285)) (by (with_reducible repeat (first|apply Kd.V_alloc|apply Kd.V_drewN|apply Kd.V_drew));exact Kd.V_mono HO_6.out (fun _ hk=>⟨⟨hk.1,hk.2.2⟩,hk.2.1⟩)) hg hat);have n1_:=Aside0.mk (Kd.V_afterv (ok:=(fun k_=>(P0_ k_∨w.heap.size≤k_)∧k_≠gb285)) (by (with_reducible repeat (first|apply Kd.V_alloc|apply Kd.V_drewN|apply Kd.V_drew));exact Kd.V_mono HL284_0.out (fun _ hk=>⟨⟨hk.1,hk.2.2⟩,hk.2.1⟩)) hg hat);have n2_:=Aside0.mk (blk_grown (g:=gb285) (o:=.cells #[.slice A284_0 ((rd_T54 l0 x8_1).f0).length c284_0,.int .i64 ((rd_T54 l0 x8_1).f1)] 54 (0,0)) (by (with_reducible repeat (first|refine blk_drewN ?_ _|refine blk_drew ?_|refine blk_alloc ?_ _));exact BK285.out) hg (Kd.N_away HO_3.out (fun _ hk=>hk.2)));have n3_:=Aside0.mk (hb);have n4_:=Aside0.mk (ho);clear HO_6;clear HL284_0;clear BK285;clear HB;clear HO_3;have HO_6:=n0_;have HL284_0:=n1_;have BK285:=n2_;have HB:=n3_;have HO288:=n4_;clear n0_ n1_ n2_ n3_ n4_;clear ho hb hg hat))
       go_roundg k1
       case measure=>have:=HK1.out;omega
       case rel=>exact ⟨(y286),(wrap64 (x8_1 + 1)),(by first|rfl|(simp;done)|(simp [*];done)),H',⟨by have:=HK1.out;omega⟩,⟨by (with_reducible repeat (first|apply Kd.N_alloc|apply Kd.N_drewN|apply Kd.N_drew));exact Kd.N_mono HO288.out (fun _ hk=>hk.1)⟩,⟨by (with_reducible repeat (first|apply Kd.V_alloc|apply Kd.V_drewN|apply Kd.V_drew));exact Kd.V_mono HO_6.out (fun _ hk=>⟨hk.1.1,hk.2⟩)⟩,⟨by repeat (first|(with_reducible first|exact HB.out|apply below_alloc|apply pw_below_drewN|apply below_drew1|refine below_set ?_ GE285.out)|exact HB.out)⟩⟩
      ·rw [if_neg c5] at H
       exact absurd H (by simp)
     ·rw [if_neg c4] at H
      exact absurd H (by simp)
    ·rw [if_neg c3] at H
     exact absurd H (by simp)
   ·rw [if_neg c2] at H
    have c2b0:decide (x8_1 < (l0.length:Int))=false:=decide_eq_false c2
    clear c2
    obtain rfl:=Option.some.inj H
    go_wp2
    go_ret
    exact ⟨_,by first|rfl|(simp [errW_none,errW_some] <;> rfl)|(simp [*,errW_none,errW_some] <;> rfl),by (with_reducible repeat (first|apply Kd.N_alloc|apply Kd.N_drewN|apply Kd.N_drew));exact HO_3.out,zhb⟩

/-! ### impl_ZNeg: function 31 (by hand) -/
def impl_ZNeg.f (k:Nat) (l0:List (S54)):Option (List (S54)):=(impl_ZOk.f k l0).bind fun t1=>(if t1=true then ((impl_turned.f k l0).bind fun t2=>(impl_copyItems.f k t2)) else (some []))
theorem impl_ZNeg.mono : ∀ a0 k,LeO (impl_ZNeg.f k a0) (impl_ZNeg.f (k + 1) a0):=by
 intro a0 k
 unfold impl_ZNeg.f
 repeat' first
   | (with_reducible exact impl_ZOk.mono _ _)
   | (with_reducible exact impl_turned.mono _ _)
   | (with_reducible exact impl_copyItems.mono _ _)
   | (with_reducible exact LeO.refl _)
   | (with_reducible refine LeO.ite ?_ ?_)
   | (with_reducible refine LeO.bind ?_ (fun _=>?_))
set_option maxHeartbeats 8000000 in
set_option maxRecDepth 100000 in
theorem impl_ZNeg.calls (k:Nat) (A0:Option Addr) (c0:Nat) (l0:List (S54)) (r:List (S54)) (w:World) (hr0:Kd.C k54 w A0 l0.length l0) (hc0:l0.length≤c0) (h:impl_ZNeg.f k l0=some r) :
  Calls Try.prog 31 #[.slice A0 l0.length c0] w fun e w'=>∃ v0_:Value,e=.returned (v0_)∧Kd.S k54 54 w' w.heap.size (fun _=>True) v0_ r∧Below w.heap.size w w':=by
 unfold impl_ZNeg.f at h
 obtain ⟨t1,h1,h⟩:=Option.bind_eq_some_iff.mp h
 have A1:=Aside0.mk h1
 have HR0:=Aside0.mk hr0
 have HC0:=Aside0.mk hc0
 clear hr0 hc0 h1
 cases t1 with
 | true =>
  rw [if_pos rfl] at h
  obtain ⟨t2,h2,h⟩:=Option.bind_eq_some_iff.mp h
  have A2:=Aside0.mk h2
  have A3:=Aside0.mk h
  clear h2 h
  go_enter Try.func31,Try.ntmps31
  go_wp2_with fail
  refine (impl_ZOk.calls k _ _ l0 true _ HR0.out HC0.out A1.out).mono ?_
  rintro e w1 ⟨rfl,hb⟩
  have HB1:=Aside0.mk hb
  have HR1:=Aside0.mk (Kd.C_below HR0.out hb)
  clear hb
  go_wp2_with fail
  refine (impl_turned.calls k (fun k_=>k_ < w1.heap.size) _ _ l0 t2 _ (Kd.V_mk HC0.out (Kd.C_F k54_heap HR1.out)) A2.out).mono ?_
  rintro e w2 ⟨v2,rfl,ho,hb⟩
  obtain ⟨a2,c2,rfl⟩:=Kd.N_slice ho
  have HB2:=Aside0.mk (below_step HB1.out hb)
  have HO2:=Aside0.mk ho
  clear ho hb
  go_wp2_with fail
  refine (impl_copyItems.calls k _ _ t2 r _ (Kd.N_reads' HO2.out).2.2 (Kd.N_reads' HO2.out).2.1 A3.out).mono ?_
  rintro e w3 ⟨v3,rfl,ho,hb⟩
  have HB3:=Aside0.mk (below_step HB2.out hb)
  have HO3:=Aside0.mk (Kd.S_lower ho HB2.out.size)
  clear ho hb
  go_wp2
  go_ret
  exact ⟨_,rfl,HO3.out,HB3.out⟩
 | false =>
  rw [if_neg (by decide)] at h
  obtain rfl:=Option.some.inj h
  clear h
  go_enter Try.func31,Try.ntmps31
  go_wp2_with fail
  refine (impl_ZOk.calls k _ _ l0 false _ HR0.out HC0.out A1.out).mono ?_
  rintro e w1 ⟨rfl,hb⟩
  have HB1:=Aside0.mk hb
  clear hb
  go_wp2
  go_ret
  exact ⟨_,rfl,Kd.S_nil _ _ _ _ _,HB1.out⟩

/-- A state of type 131 at block g of W; what its slices lead to came in by w0. -/
def IsS131 (w0 W:World) (g:Nat) (f0:List Int) (f1:Int):Prop:=∃ A0 c0,W.heap[g]?=some (.cells #[.slice A0 f0.length c0,.int .i64 f1] 131 (0,0))∧w0.heap.size≤g∧Kd.C (Kd.int .u8) w0 A0 f0.length f0
theorem IsS131.grown {w0 W:World} {g:Nat} {f0:List Int} {f1:Int} {W1:World} {row:Option Nat} (h:IsS131 w0 W g f0 f1) (hw:W.grownBy W1 row) (hne:some g≠row):IsS131 w0 W1 g f0 f1:=by
 obtain ⟨A0,c0,hb,hg,hr0⟩:=h
 exact ⟨A0,c0,blk_grown hb hw hne,hg,hr0⟩
theorem IsS131.own_neN {w0 W:World} {g:Nat} {f0:List Int} {f1:Int} {α:Type} {d:Kd α} {e:Nat} {base:Nat} {ok:Nat→Prop} {v:Value} {xs:List α} (h:IsS131 w0 W g f0 f1) (ho:Kd.N d e W base ok v xs) (ht:e≠131):some g≠v.ownBlock:=by
 obtain ⟨A0,c0,hb,hg,hr0⟩:=h
 exact Kd.N_ne ho hb ht
theorem IsS131.fresh {w0 W:World} {g:Nat} {f0:List Int} {f1:Int} (h:IsS131 w0 W g f0 f1) : ∀ k,W.heap.size≤k→k≠g:=by
 obtain ⟨A0,c0,hb,hg,hr0⟩:=h
 exact Kd.freshB hb
theorem IsS131.kept {w0 W:World} {g:Nat} {f0:List Int} {f1:Int} {W1:World} {S:Nat→Prop} (h:IsS131 w0 W g f0 f1) (hk:Kept W W1 S) (hne : ¬ S g):IsS131 w0 W1 g f0 f1:=by
 obtain ⟨A0,c0,hb,hg,hr0⟩:=h
 exact ⟨A0,c0,blk_kept hb hk hne,hg,hr0⟩
theorem IsS131.below {w0 W:World} {g:Nat} {f0:List Int} {f1:Int} {W1:World} (h:IsS131 w0 W g f0 f1) (hw:Below W.heap.size W W1):IsS131 w0 W1 g f0 f1:=h.grown (grown_of_below hw none) (by simp)
theorem IsS131.alloc {w0 W:World} {g:Nat} {f0:List Int} {f1:Int} (h:IsS131 w0 W g f0 f1) (o:Obj):IsS131 w0 (W.alloc o) g f0 f1:=h.below (below_alloc (Below.refl _ _) o)
theorem IsS131.drewN {w0 W:World} {g:Nat} {f0:List Int} {f1:Int} (h:IsS131 w0 W g f0 f1) (m:Nat):IsS131 w0 (W.drewN m) g f0 f1:=h
theorem IsS131.drew {w0 W:World} {g:Nat} {f0:List Int} {f1:Int} (h:IsS131 w0 W g f0 f1):IsS131 w0 W.drew g f0 f1:=h
theorem IsS131.at_ {w0 W:World} {g:Nat} {f0:List Int} {f1:Int} {w':World} {m:Nat} (hq:W.drewN m=w') (h:IsS131 w0 W g f0 f1):IsS131 w0 w' g f0 f1:=by subst hq;exact IsS131.drewN h m
theorem IsS131.apart {w0 W:World} {g:Nat} {f0:List Int} {f1:Int} {α:Type} {d:Kd α} {e:Nat} {base:Nat} {ok:Nat→Prop} {v:Value} {xs:List α} (h:IsS131 w0 W g f0 f1) (ho:d.R e W base ok v xs) (ht : ∀ q,q ∈ e :: d.E→q≠131):d.R e W base (fun k=>ok k∧k≠g) v xs:=by
 obtain ⟨A0,c0,hb,hg,hr0⟩:=h
 exact Kd.R_types ho hb ht
theorem IsS131.own_ne {w0 W:World} {g:Nat} {f0:List Int} {f1:Int} {α:Type} {d:Kd α} {e:Nat} {base:Nat} {ok:Nat→Prop} {v:Value} {xs:List α} (h:IsS131 w0 W g f0 f1) (ho:d.R e W base ok v xs) (ht:e≠131):some g≠v.ownBlock:=by
 obtain ⟨A0,c0,hb,hg,hr0⟩:=h
 exact Kd.R_ne ho hb ht
theorem IsS131.apartQ {w0 W:World} {g:Nat} {f0:List Int} {f1:Int} {α:Type} {d:Kd α} {e:Nat} {base:Nat} {ok:Nat→Prop} {v:Value} {xs:List α} (h:IsS131 w0 W g f0 f1) (ho:d.Q e W base ok v xs) (ht : ∀ q,q ∈ e :: d.E→q≠131):d.Q e W base (fun k=>ok k∧k≠g) v xs:=by
 obtain ⟨A0,c0,hb,hg,hr0⟩:=h
 exact Kd.Q_types ho hb ht
theorem IsS131.own_neQ {w0 W:World} {g:Nat} {f0:List Int} {f1:Int} {α:Type} {d:Kd α} {e:Nat} {base:Nat} {ok:Nat→Prop} {v:Value} {xs:List α} (h:IsS131 w0 W g f0 f1) (ho:d.Q e W base ok v xs) (ht:e≠131):some g≠v.ownBlock:=by
 obtain ⟨A0,c0,hb,hg,hr0⟩:=h
 exact Kd.Q_ne ho hb ht
theorem IsS131.apartS {w0 W:World} {g:Nat} {f0:List Int} {f1:Int} {α:Type} {d:Kd α} {e:Nat} {base:Nat} {ok:Nat→Prop} {v:Value} {xs:List α} (h:IsS131 w0 W g f0 f1) (ho:d.S e W base ok v xs) (ht : ∀ q,q ∈ e :: d.E→q≠131):d.S e W base (fun k=>ok k∧k≠g) v xs:=by
 obtain ⟨A0,c0,hb,hg,hr0⟩:=h
 exact Kd.S_types ho hb ht
theorem IsS131.own_neS {w0 W:World} {g:Nat} {f0:List Int} {f1:Int} {α:Type} {d:Kd α} {e:Nat} {base:Nat} {ok:Nat→Prop} {v:Value} {xs:List α} (h:IsS131 w0 W g f0 f1) (ho:d.S e W base ok v xs) (ht:e≠131):some g≠v.ownBlock:=by
 obtain ⟨A0,c0,hb,hg,hr0⟩:=h
 exact Kd.S_ne ho hb ht
theorem IsS131.lt {w0 W:World} {g:Nat} {f0:List Int} {f1:Int} (h:IsS131 w0 W g f0 f1):g < W.heap.size:=by
 obtain ⟨A0,c0,hb,hg,hr0⟩:=h
 exact blk_lt hb
theorem IsS131.ge {w0 W:World} {g:Nat} {f0:List Int} {f1:Int} (h:IsS131 w0 W g f0 f1):w0.heap.size≤g:=by
 obtain ⟨A0,c0,hb,hg,hr0⟩:=h
 exact hg
theorem IsS131.ne_blk {w0 W:World} {g:Nat} {f0:List Int} {f1:Int} {a:Nat} {cs:Array Value} {t:TypeId} {fr:Nat × Nat} (h:IsS131 w0 W g f0 f1) (hb2:W.heap[a]?=some (.cells cs t fr)) (ht:t≠131):g≠a:=by
 obtain ⟨A0,c0,hb,hg,hr0⟩:=h
 rintro rfl
 rw [hb] at hb2
 injection hb2 with hb2
 injection hb2 with _ ht2
 exact ht ht2.symm
theorem IsS131.far {w0 W:World} {g:Nat} {f0:List Int} {f1:Int} {p:Addr} (h:IsS131 w0 W g f0 f1) (hne:g≠p.block) (u:Value):IsS131 w0 (W.setCell p u) g f0 f1:=by
 obtain ⟨A0,c0,hb,hg,hr0⟩:=h
 exact ⟨A0,c0,blk_far hb hne u,hg,hr0⟩
theorem cellS131_0 {W:World} {g:Nat} {A0:Option Addr} {c0:Nat} {f0:List Int} {f1:Int} (h:W.heap[g]?=some (.cells #[.slice A0 f0.length c0,.int .i64 f1] 131 (0,0))):W.cell? ⟨g,0,none⟩=some (.slice A0 f0.length c0):=(blk_cell h 0).trans rfl
theorem cellS131_1 {W:World} {g:Nat} {A0:Option Addr} {c0:Nat} {f0:List Int} {f1:Int} (h:W.heap[g]?=some (.cells #[.slice A0 f0.length c0,.int .i64 f1] 131 (0,0))):W.cell? ⟨g,1,none⟩=some (.int .i64 f1):=(blk_cell h 1).trans rfl
theorem IsS131.set_1 {w0 W:World} {g:Nat} {f0:List Int} {f1:Int} (h:IsS131 w0 W g f0 f1) (x:Int):IsS131 w0 (W.setCell ⟨g,1,none⟩ (.int .i64 x)) g f0 x:=by
 obtain ⟨A0,c0,hb,hg,hr0⟩:=h
 exact ⟨A0,c0,by simpa using blk_set hb 1 (.int .i64 x),hg,hr0⟩
theorem zi131 {p:Prop} (h:p:=by repeat (first|(with_reducible first|exact HI0.out|apply IsS131.alloc|apply IsS131.drewN|apply IsS131.drew|apply IsS131.set_1)|exact HI0.out)):p:=h
theorem zg131 {p:Prop} (h:p:=by repeat (first|(with_reducible first|exact HB.out|apply below_alloc|apply pw_below_drewN|apply below_drew1|refine below_set ?_ (IsS131.ge HI0.out))|exact HB.out)):p:=h
theorem IsS131.new (w0 W:World) (A0:Option Addr) (c0:Nat) (f0:List Int) (f1:Int) (hB:Below w0.heap.size w0 W) (hr0:Kd.C (Kd.int .u8) w0 A0 f0.length f0):IsS131 w0 (W.alloc (.cells #[.slice A0 f0.length c0,.int .i64 f1] 131)) W.heap.size f0 f1:=⟨A0,c0,by simpa using heap_alloc_new W _,hB.size,hr0⟩

/-! ### spec_l12Open: function 60 -/
def spec_l12Open.f (l0:List Int):Option (List Int × Int):=if (l0.length:Int) > 2000 then (if 2000≤(l0.length:Int) then (some (l0.take 2000,0)) else (none)) else (some (l0,0))
set_option maxHeartbeats 8000000 in
set_option maxRecDepth 100000 in
theorem spec_l12Open.calls (A0:Option Addr) (c0:Nat) (l0:List Int) (r1:List Int) (r2:Int) (w0 w:World) (hB:Below w0.heap.size w0 w) (hr0:Kd.C (Kd.int .u8) w0 A0 l0.length l0) (hc0:l0.length≤c0) (h:spec_l12Open.f l0=some (r1,r2)) :
  Calls Try.prog 60 #[.slice A0 l0.length c0] w fun e w'=>∃ g_:Nat,e=.returned (.pointer (some ⟨g_,0,none⟩))∧IsS131 w0 w' g_ r1 r2∧Below w0.heap.size w0 w'∧Below w.heap.size w w':=by
 have hu131:=Try.underlying131
 have HR0:=Aside0.mk hr0
 have HC0:=Aside0.mk hc0
 clear hr0 hc0
 have HBW:=Aside0.mk (Below.refl w.heap.size w)
 have HW0:=Aside0.mk hB.size
 have HB:=Aside0.mk hB
 clear hB
 have H:(if (l0.length:Int) > 2000 then (if 2000≤(l0.length:Int) then (some (l0.take 2000,0)) else (none)) else (some (l0,0)))=some (r1,r2):=h
 clear h
 by_cases c2:(l0.length:Int) > 2000
 ·rw [if_pos c2] at H
  have c2b0:decide (2000 < (l0.length:Int))=true:=decide_eq_true c2
  have c2b1:decide (2000 < l0.length)=true:=decide_eq_true (by omega)
  clear c2
  by_cases c3:2000≤(l0.length:Int)
  ·rw [if_pos c3] at H
   have c3b0:=eq_true c3
   have c3b1:decide (2000≤(l0.length:Int))=true:=decide_eq_true c3
   clear c3
   simp only [Option.some.injEq,Prod.mk.injEq] at H
   obtain ⟨rfl,rfl⟩:=H
   obtain ⟨i04,hi04,_,hsz4,_⟩:=info_parts info5
   obtain ⟨hcut4,hA4,hC4⟩:=print_take_of (P:=Try.prog) (Value.int .u8) 0 41 5 .i64 Try.underlying41 hi04 hsz4 A0 c0 l0 2000 (by omega) (zod) HC0.out
   have HR289:=Aside0.mk (Kd.C_of_reads (h1:=fun _=>rfl) (hA4 _ (Kd.reads_of_C HR0.out)))
   have HC289:=Aside0.mk hC4
   clear hA4 hC4 hi04 hsz4
   go_enter Try.func60,Try.ntmps60
   go_wp2_with (first|((with_reducible refine gate_dst (N:=10) rfl ?_);refine box_event ?hg (N:=10) ?hd (cs:=#[.slice A0 (l0.take 2000).length c0,.int .i64 0]) (t:=131) ?hr ?_;(case hd=>rfl);(case hg=>rfl);(case hr=>first|(go_simp;done)|(go_simp;rfl));intro gb290 hg w5 hbox hb;have n0_:=Aside0.mk (below_step HBW.out hb);have n1_:=Aside0.mk (below_step zhb hb);have n2_:=Aside0.mk (hbox);have n3_:=Aside0.mk ((by rw [hg];exact (below_size (by repeat (first|(with_reducible first|exact HBW.out|apply below_alloc|apply pw_below_drewN|apply below_drew1)|exact HBW.out))):w.heap.size≤gb290));have n4_:=Aside0.mk ((Nat.le_trans HW0.out (by rw [hg];exact (below_size (by repeat (first|(with_reducible first|exact HBW.out|apply below_alloc|apply pw_below_drewN|apply below_drew1)|exact HBW.out))):w.heap.size≤gb290):w0.heap.size≤gb290));clear HBW;clear HB;have HBW:=n0_;have HB:=n1_;have BK290:=n2_;have GW290:=n3_;have GE290:=n4_;clear n0_ n1_ n2_ n3_ n4_;clear hb hbox hg))
   go_ret
   exact ⟨_,rfl,(show IsS131 w0 _ gb290 (l0.take 2000) 0 from ⟨_,_,by (with_reducible repeat (first|refine blk_drewN ?_ _|refine blk_drew ?_|refine blk_alloc ?_ _));exact BK290.out,GE290.out,HR289.out⟩),by repeat (first|(with_reducible first|exact HB.out|apply below_alloc|apply pw_below_drewN|apply below_drew1|refine below_set ?_ GE290.out)|exact HB.out),by repeat (first|(with_reducible first|exact HBW.out|apply below_alloc|apply pw_below_drewN|apply below_drew1|refine below_set ?_ GW290.out)|exact HBW.out)⟩
  ·rw [if_neg c3] at H
   exact absurd H (by simp)
 ·rw [if_neg c2] at H
  have c2b0:decide (2000 < (l0.length:Int))=false:=decide_eq_false c2
  have c2b1:decide (2000 < l0.length)=false:=decide_eq_false (by omega)
  clear c2
  simp only [Option.some.injEq,Prod.mk.injEq] at H
  obtain ⟨rfl,rfl⟩:=H
  go_enter Try.func60,Try.ntmps60
  go_wp2_with (first|((with_reducible refine gate_dst (N:=10) rfl ?_);refine box_event ?hg (N:=10) ?hd (cs:=#[.slice A0 l0.length c0,.int .i64 0]) (t:=131) ?hr ?_;(case hd=>rfl);(case hg=>rfl);(case hr=>first|(go_simp;done)|(go_simp;rfl));intro gb291 hg w6 hbox hb;have n0_:=Aside0.mk (below_step HBW.out hb);have n1_:=Aside0.mk (below_step zhb hb);have n2_:=Aside0.mk (hbox);have n3_:=Aside0.mk ((by rw [hg];exact (below_size (by repeat (first|(with_reducible first|exact HBW.out|apply below_alloc|apply pw_below_drewN|apply below_drew1)|exact HBW.out))):w.heap.size≤gb291));have n4_:=Aside0.mk ((Nat.le_trans HW0.out (by rw [hg];exact (below_size (by repeat (first|(with_reducible first|exact HBW.out|apply below_alloc|apply pw_below_drewN|apply below_drew1)|exact HBW.out))):w.heap.size≤gb291):w0.heap.size≤gb291));clear HBW;clear HB;have HBW:=n0_;have HB:=n1_;have BK291:=n2_;have GW291:=n3_;have GE291:=n4_;clear n0_ n1_ n2_ n3_ n4_;clear hb hbox hg))
  go_ret
  exact ⟨_,rfl,(show IsS131 w0 _ gb291 l0 0 from ⟨_,_,by (with_reducible repeat (first|refine blk_drewN ?_ _|refine blk_drew ?_|refine blk_alloc ?_ _));exact BK291.out,GE291.out,HR0.out⟩),by repeat (first|(with_reducible first|exact HB.out|apply below_alloc|apply pw_below_drewN|apply below_drew1|refine below_set ?_ GE291.out)|exact HB.out),by repeat (first|(with_reducible first|exact HBW.out|apply below_alloc|apply pw_below_drewN|apply below_drew1|refine below_set ?_ GW291.out)|exact HBW.out)⟩

/-! ### spec_l12Rd_pick: function 83 -/
def spec_l12Rd_pick.f (s0_0:List Int) (s0_1:Int) (a1:Int):Option (Int × Int):=if a1 < 1 then (some (0,wrap64 (s0_1 + 1))) else (if (s0_0.length:Int)=0 then (some (0,wrap64 (s0_1 + 1))) else (if (wrap64 ((wrap64 (s0_1 + 1)) - 1)) < (s0_0.length:Int) then (if 0≤(wrap64 ((wrap64 (s0_1 + 1)) - 1)) then (if a1=0 then (none) else (some (Int.tmod (wrap64 (rd s0_0 (wrap64 ((wrap64 (s0_1 + 1)) - 1)))) a1,wrap64 (s0_1 + 1)))) else (none)) else (if 0≤(Int.tmod (wrap64 ((wrap64 (s0_1 + 1)) - 1)) (s0_0.length:Int)) then (if (Int.tmod (wrap64 ((wrap64 (s0_1 + 1)) - 1)) (s0_0.length:Int)) < (s0_0.length:Int) then (if 0≤(Int.tmod (wrap64 ((wrap64 ((wrap64 ((wrap64 (s0_1 + 1)) - 1)) * 7)) + 3)) (s0_0.length:Int)) then (if (Int.tmod (wrap64 ((wrap64 ((wrap64 ((wrap64 (s0_1 + 1)) - 1)) * 7)) + 3)) (s0_0.length:Int)) < (s0_0.length:Int) then (if a1=0 then (none) else (some (Int.tmod (Go.bits .xor .i64 (wrap64 ((wrap64 ((wrap64 ((wrap64 ((wrap64 (rd s0_0 (Int.tmod (wrap64 ((wrap64 (s0_1 + 1)) - 1)) (s0_0.length:Int)))) * 131)) + (wrap64 ((wrap64 (rd s0_0 (Int.tmod (wrap64 ((wrap64 ((wrap64 ((wrap64 (s0_1 + 1)) - 1)) * 7)) + 3)) (s0_0.length:Int)))) * 1117)))) + (wrap64 ((wrap64 ((wrap64 (s0_1 + 1)) - 1)) * 29)))) + (wrap64 ((wrap64 (Int.tdiv (wrap64 ((wrap64 (s0_1 + 1)) - 1)) (s0_0.length:Int))) * 53)))) (wrap64 (Int.tdiv (wrap64 ((wrap64 ((wrap64 ((wrap64 ((wrap64 (rd s0_0 (Int.tmod (wrap64 ((wrap64 (s0_1 + 1)) - 1)) (s0_0.length:Int)))) * 131)) + (wrap64 ((wrap64 (rd s0_0 (Int.tmod (wrap64 ((wrap64 ((wrap64 ((wrap64 (s0_1 + 1)) - 1)) * 7)) + 3)) (s0_0.length:Int)))) * 1117)))) + (wrap64 ((wrap64 ((wrap64 (s0_1 + 1)) - 1)) * 29)))) + (wrap64 ((wrap64 (Int.tdiv (wrap64 ((wrap64 (s0_1 + 1)) - 1)) (s0_0.length:Int))) * 53)))) 64))) a1,wrap64 (s0_1 + 1)))) else (none)) else (none)) else (none)) else (none))))
set_option maxHeartbeats 8000000 in
set_option maxRecDepth 100000 in
theorem spec_l12Rd_pick.calls (g:Nat) (s0_0:List Int) (s0_1:Int) (a1:Int) (r1:Int) (r2:Int) (w0 w:World) (hI:IsS131 w0 w g s0_0 s0_1) (hB:Below w0.heap.size w0 w) (h:spec_l12Rd_pick.f s0_0 s0_1 a1=some (r1,r2)) :
  Calls Try.prog 83 #[.pointer (some ⟨g,0,none⟩),.int .i64 a1] w fun e w'=>e=.returned (.int .i64 r1)∧IsS131 w0 w' g s0_0 r2∧Below w0.heap.size w0 w'∧KeepBut w w' g none:=by
 have HI0:=Aside0.mk hI
 have HK:=Aside0.mk (KeepBut.refl w g none)
 have HL:=Aside0.mk hB.size
 clear hI
 have HW0:=Aside0.mk hB.size
 have HB:=Aside0.mk hB
 clear hB
 have H:(if a1 < 1 then (some (0,wrap64 (s0_1 + 1))) else (if (s0_0.length:Int)=0 then (some (0,wrap64 (s0_1 + 1))) else (if (wrap64 ((wrap64 (s0_1 + 1)) - 1)) < (s0_0.length:Int) then (if 0≤(wrap64 ((wrap64 (s0_1 + 1)) - 1)) then (if a1=0 then (none) else (some (Int.tmod (wrap64 (rd s0_0 (wrap64 ((wrap64 (s0_1 + 1)) - 1)))) a1,wrap64 (s0_1 + 1)))) else (none)) else (if 0≤(Int.tmod (wrap64 ((wrap64 (s0_1 + 1)) - 1)) (s0_0.length:Int)) then (if (Int.tmod (wrap64 ((wrap64 (s0_1 + 1)) - 1)) (s0_0.length:Int)) < (s0_0.length:Int) then (if 0≤(Int.tmod (wrap64 ((wrap64 ((wrap64 ((wrap64 (s0_1 + 1)) - 1)) * 7)) + 3)) (s0_0.length:Int)) then (if (Int.tmod (wrap64 ((wrap64 ((wrap64 ((wrap64 (s0_1 + 1)) - 1)) * 7)) + 3)) (s0_0.length:Int)) < (s0_0.length:Int) then (if a1=0 then (none) else (some (Int.tmod (Go.bits .xor .i64 (wrap64 ((wrap64 ((wrap64 ((wrap64 ((wrap64 (rd s0_0 (Int.tmod (wrap64 ((wrap64 (s0_1 + 1)) - 1)) (s0_0.length:Int)))) * 131)) + (wrap64 ((wrap64 (rd s0_0 (Int.tmod (wrap64 ((wrap64 ((wrap64 ((wrap64 (s0_1 + 1)) - 1)) * 7)) + 3)) (s0_0.length:Int)))) * 1117)))) + (wrap64 ((wrap64 ((wrap64 (s0_1 + 1)) - 1)) * 29)))) + (wrap64 ((wrap64 (Int.tdiv (wrap64 ((wrap64 (s0_1 + 1)) - 1)) (s0_0.length:Int))) * 53)))) (wrap64 (Int.tdiv (wrap64 ((wrap64 ((wrap64 ((wrap64 ((wrap64 (rd s0_0 (Int.tmod (wrap64 ((wrap64 (s0_1 + 1)) - 1)) (s0_0.length:Int)))) * 131)) + (wrap64 ((wrap64 (rd s0_0 (Int.tmod (wrap64 ((wrap64 ((wrap64 ((wrap64 (s0_1 + 1)) - 1)) * 7)) + 3)) (s0_0.length:Int)))) * 1117)))) + (wrap64 ((wrap64 ((wrap64 (s0_1 + 1)) - 1)) * 29)))) + (wrap64 ((wrap64 (Int.tdiv (wrap64 ((wrap64 (s0_1 + 1)) - 1)) (s0_0.length:Int))) * 53)))) 64))) a1,wrap64 (s0_1 + 1)))) else (none)) else (none)) else (none)) else (none)))))=some (r1,r2):=h
 clear h
 by_cases c3:a1 < 1
 ·rw [if_pos c3] at H
  have c3b0:decide (a1 < 1)=true:=decide_eq_true c3
  clear c3
  simp only [Option.some.injEq,Prod.mk.injEq] at H
  obtain ⟨rfl,rfl⟩:=H
  obtain ⟨ASz4_0,cSz4_0,HGz4,hgz4,HSz4_0⟩:=HI0.out
  have hcz4_0:=cellS131_0 HGz4
  have hcz4_1:=cellS131_1 HGz4
  have hfz4_1:=blk_frozen HGz4 1
  clear HGz4 hgz4
  go_enter Try.func83,Try.ntmps83
  go_wp2
  repeat (go_quiet (fail);try go_wp2)
  go_ret
  exact ⟨by first|rfl|(simp [errW_none,errW_some] <;> rfl)|(simp [*,errW_none,errW_some] <;> rfl),zi131,zg131,zhk⟩
 ·rw [if_neg c3] at H
  have c3b0:decide (a1 < 1)=false:=decide_eq_false c3
  clear c3
  by_cases c5:(s0_0.length:Int)=0
  ·rw [if_pos c5] at H
   have c5b0:((s0_0.length:Int) == 0)=true:=beq_iff_eq.mpr c5
   have c5b1:((s0_0.length:Int) != 0)=false:=bne_eq_false_iff_eq.mpr c5
   clear c5
   simp only [Option.some.injEq,Prod.mk.injEq] at H
   obtain ⟨rfl,rfl⟩:=H
   obtain ⟨ASz6_0,cSz6_0,HGz6,hgz6,HSz6_0⟩:=HI0.out
   have hcz6_0:=cellS131_0 HGz6
   have hcz6_1:=cellS131_1 HGz6
   have hfz6_1:=blk_frozen HGz6 1
   clear HGz6 hgz6
   go_enter Try.func83,Try.ntmps83
   go_wp2
   repeat (go_quiet (fail);try go_wp2)
   go_ret
   exact ⟨by first|rfl|(simp [errW_none,errW_some] <;> rfl)|(simp [*,errW_none,errW_some] <;> rfl),zi131,zg131,zhk⟩
  ·rw [if_neg c5] at H
   have c5b0:((s0_0.length:Int) == 0)=false:=beq_eq_false_iff_ne.mpr c5
   have c5b1:((s0_0.length:Int) != 0)=true:=bne_iff_ne.mpr c5
   have c5b2 : ¬ (s0_0 = []):=fun h_=>c5 (by rw [h_];rfl)
   by_cases c7:(wrap64 ((wrap64 (s0_1 + 1)) - 1)) < (s0_0.length:Int)
   ·rw [if_pos c7] at H
    have c7b0:decide ((wrap64 ((wrap64 (s0_1 + 1)) - 1)) < (s0_0.length:Int))=true:=decide_eq_true c7
    clear c7
    obtain ⟨ji8,hji8⟩ : ∃ j_:Int,(wrap64 ((wrap64 (s0_1 + 1)) - 1))=j_:=⟨_,rfl⟩
    replace H:(if 0≤(ji8) then (if a1=0 then (none) else (some (Int.tmod (wrap64 (rd s0_0 (ji8))) a1,wrap64 (s0_1 + 1)))) else (none))=some (r1,r2):=by first|(rw [hji8] at H;exact H)|(simp only [hji8] at H ⊢;exact H)
    (try rw [hji8] at c7b0)
    have hji8w:(IntKind.i64.wrap ((wrap64 (s0_1 + 1)) - 1))=ji8:=(i64_w _).trans hji8
    by_cases c9:0≤(ji8)
    ·rw [if_pos c9] at H
     have c9b0:decide (0≤(ji8))=true:=decide_eq_true c9
     clear c9
     by_cases c10:a1=0
     ·rw [if_pos c10] at H
      exact absurd H (by simp)
     ·rw [if_neg c10] at H
      have c10b0:(a1 == 0)=false:=beq_eq_false_iff_ne.mpr c10
      have c10b1:(a1 != 0)=true:=bne_iff_ne.mpr c10
      simp only [Option.some.injEq,Prod.mk.injEq] at H
      obtain ⟨rfl,rfl⟩:=H
      obtain ⟨ASz11_0,cSz11_0,HGz11,hgz11,HSz11_0⟩:=HI0.out
      have hcz11_0:=cellS131_0 HGz11
      have hcz11_1:=cellS131_1 HGz11
      have hfz11_1:=blk_frozen HGz11 1
      clear HGz11 hgz11
      have p292:0≤((ji8):Int):=zod
      have q292:(ji8) < (s0_0.length:Int):=zod
      obtain ⟨ad292,e292,hx292_0⟩:=Kd.at_int HSz11_0 (ji8) p292 q292
      cases e292
      have hn292_0:ad292.block≠g:=Nat.ne_of_lt (Nat.lt_of_lt_of_le (by have:=World.block_lt_of_cell? _ _ hx292_0;first|rwa [add_block] at this|exact this) (IsS131.ge HI0.out))
      replace hx292_0:=pw_cell_below HB.out hx292_0
      replace hx292_0:=(cell_far (p:=⟨g,1,none⟩) (by first|(rw [add_block];exact hn292_0)|(show (Addr.add _ _).block≠_;rw [add_block];exact hn292_0)|exact hn292_0) (.int .i64 (wrap64 (s0_1 + 1)))).trans hx292_0
      (try have hy292_0:=fun (n_:Nat)=>(show (((w.drewN n_).setCell ⟨g,1,none⟩ (.int .i64 (wrap64 (s0_1 + 1))))).cell? _=some _ from hx292_0))
      clear hn292_0
      replace p292:=eq_true p292
      replace q292:=eq_true q292
      go_enter Try.func83,Try.ntmps83
      go_wp2
      repeat (go_quiet (fail);try go_wp2)
      go_ret
      exact ⟨by first|rfl|(simp [errW_none,errW_some] <;> rfl)|(simp only [← hji8];first|rfl|(simp [errW_none,errW_some] <;> rfl))|(simp [*,errW_none,errW_some] <;> rfl),zi131,zg131,zhk⟩
    ·rw [if_neg c9] at H
     exact absurd H (by simp)
   ·rw [if_neg c7] at H
    have c7b0:decide ((wrap64 ((wrap64 (s0_1 + 1)) - 1)) < (s0_0.length:Int))=false:=decide_eq_false c7
    clear c7
    obtain ⟨ji12,hji12⟩ : ∃ j_:Int,(Int.tmod (wrap64 ((wrap64 (s0_1 + 1)) - 1)) (s0_0.length:Int))=j_:=⟨_,rfl⟩
    replace H:(if 0≤(ji12) then (if (ji12) < (s0_0.length:Int) then (if 0≤(Int.tmod (wrap64 ((wrap64 ((wrap64 ((wrap64 (s0_1 + 1)) - 1)) * 7)) + 3)) (s0_0.length:Int)) then (if (Int.tmod (wrap64 ((wrap64 ((wrap64 ((wrap64 (s0_1 + 1)) - 1)) * 7)) + 3)) (s0_0.length:Int)) < (s0_0.length:Int) then (if a1=0 then (none) else (some (Int.tmod (Go.bits .xor .i64 (wrap64 ((wrap64 ((wrap64 ((wrap64 ((wrap64 (rd s0_0 (ji12))) * 131)) + (wrap64 ((wrap64 (rd s0_0 (Int.tmod (wrap64 ((wrap64 ((wrap64 ((wrap64 (s0_1 + 1)) - 1)) * 7)) + 3)) (s0_0.length:Int)))) * 1117)))) + (wrap64 ((wrap64 ((wrap64 (s0_1 + 1)) - 1)) * 29)))) + (wrap64 ((wrap64 (Int.tdiv (wrap64 ((wrap64 (s0_1 + 1)) - 1)) (s0_0.length:Int))) * 53)))) (wrap64 (Int.tdiv (wrap64 ((wrap64 ((wrap64 ((wrap64 ((wrap64 (rd s0_0 (ji12))) * 131)) + (wrap64 ((wrap64 (rd s0_0 (Int.tmod (wrap64 ((wrap64 ((wrap64 ((wrap64 (s0_1 + 1)) - 1)) * 7)) + 3)) (s0_0.length:Int)))) * 1117)))) + (wrap64 ((wrap64 ((wrap64 (s0_1 + 1)) - 1)) * 29)))) + (wrap64 ((wrap64 (Int.tdiv (wrap64 ((wrap64 (s0_1 + 1)) - 1)) (s0_0.length:Int))) * 53)))) 64))) a1,wrap64 (s0_1 + 1)))) else (none)) else (none)) else (none)) else (none))=some (r1,r2):=by first|(rw [hji12] at H;exact H)|(simp only [hji12] at H ⊢;exact H)
    by_cases c13:0≤(ji12)
    ·rw [if_pos c13] at H
     have c13b0:decide (0≤(ji12))=true:=decide_eq_true c13
     clear c13
     by_cases c14:(ji12) < (s0_0.length:Int)
     ·rw [if_pos c14] at H
      have c14b0:decide ((ji12) < (s0_0.length:Int))=true:=decide_eq_true c14
      clear c14
      obtain ⟨ji15,hji15⟩ : ∃ j_:Int,(Int.tmod (wrap64 ((wrap64 ((wrap64 ((wrap64 (s0_1 + 1)) - 1)) * 7)) + 3)) (s0_0.length:Int))=j_:=⟨_,rfl⟩
      replace H:(if 0≤(ji15) then (if (ji15) < (s0_0.length:Int) then (if a1=0 then (none) else (some (Int.tmod (Go.bits .xor .i64 (wrap64 ((wrap64 ((wrap64 ((wrap64 ((wrap64 (rd s0_0 (ji12))) * 131)) + (wrap64 ((wrap64 (rd s0_0 (ji15))) * 1117)))) + (wrap64 ((wrap64 ((wrap64 (s0_1 + 1)) - 1)) * 29)))) + (wrap64 ((wrap64 (Int.tdiv (wrap64 ((wrap64 (s0_1 + 1)) - 1)) (s0_0.length:Int))) * 53)))) (wrap64 (Int.tdiv (wrap64 ((wrap64 ((wrap64 ((wrap64 ((wrap64 (rd s0_0 (ji12))) * 131)) + (wrap64 ((wrap64 (rd s0_0 (ji15))) * 1117)))) + (wrap64 ((wrap64 ((wrap64 (s0_1 + 1)) - 1)) * 29)))) + (wrap64 ((wrap64 (Int.tdiv (wrap64 ((wrap64 (s0_1 + 1)) - 1)) (s0_0.length:Int))) * 53)))) 64))) a1,wrap64 (s0_1 + 1)))) else (none)) else (none))=some (r1,r2):=by first|(rw [hji15] at H;exact H)|(simp only [hji15] at H ⊢;exact H)
      by_cases c16:0≤(ji15)
      ·rw [if_pos c16] at H
       have c16b0:decide (0≤(ji15))=true:=decide_eq_true c16
       clear c16
       by_cases c17:(ji15) < (s0_0.length:Int)
       ·rw [if_pos c17] at H
        have c17b0:decide ((ji15) < (s0_0.length:Int))=true:=decide_eq_true c17
        clear c17
        by_cases c18:a1=0
        ·rw [if_pos c18] at H
         exact absurd H (by simp)
        ·rw [if_neg c18] at H
         have c18b0:(a1 == 0)=false:=beq_eq_false_iff_ne.mpr c18
         have c18b1:(a1 != 0)=true:=bne_iff_ne.mpr c18
         simp only [Option.some.injEq,Prod.mk.injEq] at H
         obtain ⟨rfl,rfl⟩:=H
         obtain ⟨ASz19_0,cSz19_0,HGz19,hgz19,HSz19_0⟩:=HI0.out
         have hcz19_0:=cellS131_0 HGz19
         have hcz19_1:=cellS131_1 HGz19
         have hfz19_1:=blk_frozen HGz19 1
         clear HGz19 hgz19
         have p293:0≤((ji12):Int):=zod
         have q293:(ji12) < (s0_0.length:Int):=zod
         obtain ⟨ad293,e293,hx293_0⟩:=Kd.at_int HSz19_0 (ji12) p293 q293
         cases e293
         have hn293_0:ad293.block≠g:=Nat.ne_of_lt (Nat.lt_of_lt_of_le (by have:=World.block_lt_of_cell? _ _ hx293_0;first|rwa [add_block] at this|exact this) (IsS131.ge HI0.out))
         replace hx293_0:=pw_cell_below HB.out hx293_0
         replace hx293_0:=(cell_far (p:=⟨g,1,none⟩) (by first|(rw [add_block];exact hn293_0)|(show (Addr.add _ _).block≠_;rw [add_block];exact hn293_0)|exact hn293_0) (.int .i64 (wrap64 (s0_1 + 1)))).trans hx293_0
         (try have hy293_0:=fun (n_:Nat)=>(show (((w.drewN n_).setCell ⟨g,1,none⟩ (.int .i64 (wrap64 (s0_1 + 1))))).cell? _=some _ from hx293_0))
         clear hn293_0
         replace p293:=eq_true p293
         replace q293:=eq_true q293
         have p294:0≤((ji15):Int):=zod
         have q294:(ji15) < (s0_0.length:Int):=zod
         obtain ⟨ad294,e294,hx294_0⟩:=Kd.at_int HSz19_0 (ji15) p294 q294
         obtain rfl:ad293=ad294:=(by injection e294)
         have hn294_0:ad293.block≠g:=Nat.ne_of_lt (Nat.lt_of_lt_of_le (by have:=World.block_lt_of_cell? _ _ hx294_0;first|rwa [add_block] at this|exact this) (IsS131.ge HI0.out))
         replace hx294_0:=pw_cell_below HB.out hx294_0
         replace hx294_0:=(cell_far (p:=⟨g,1,none⟩) (by first|(rw [add_block];exact hn294_0)|(show (Addr.add _ _).block≠_;rw [add_block];exact hn294_0)|exact hn294_0) (.int .i64 (wrap64 (s0_1 + 1)))).trans hx294_0
         (try have hy294_0:=fun (n_:Nat)=>(show (((w.drewN n_).setCell ⟨g,1,none⟩ (.int .i64 (wrap64 (s0_1 + 1))))).cell? _=some _ from hx294_0))
         clear hn294_0
         replace p294:=eq_true p294
         replace q294:=eq_true q294
         go_enter Try.func83,Try.ntmps83
         go_wp2
         repeat (go_quiet (fail);try go_wp2)
         go_ret
         exact ⟨by first|rfl|(simp [errW_none,errW_some] <;> rfl)|(simp only [← hji12,← hji15];first|rfl|(simp [errW_none,errW_some] <;> rfl))|(simp [*,errW_none,errW_some] <;> rfl),zi131,zg131,zhk⟩
       ·rw [if_neg c17] at H
        exact absurd H (by simp)
      ·rw [if_neg c16] at H
       exact absurd H (by simp)
     ·rw [if_neg c14] at H
      exact absurd H (by simp)
    ·rw [if_neg c13] at H
     exact absurd H (by simp)

/-! ### spec_l12Rd_num: function 62 -/
def spec_l12Rd_num.f (s0_0:List Int) (s0_1:Int) (l1:List Int):Option (Int × Int):=(spec_l12Rd_pick.f s0_0 s0_1 (l1.length:Int)).bind fun bt295=>(if 0≤bt295.1 then (if bt295.1 < (l1.length:Int) then (some (rd l1 bt295.1,bt295.2)) else (none)) else (none))
set_option maxHeartbeats 8000000 in
set_option maxRecDepth 100000 in
theorem spec_l12Rd_num.calls (g:Nat) (s0_0:List Int) (s0_1:Int) (A1:Option Addr) (c1:Nat) (l1:List Int) (r1:Int) (r2:Int) (w0 w:World) (hI:IsS131 w0 w g s0_0 s0_1) (hB:Below w0.heap.size w0 w) (hr1:Kd.C (Kd.int .i64) w A1 l1.length l1) (hc1:l1.length≤c1) (hf1 : ∀ ad,A1=some ad→0 < l1.length→ad.block≠g) (h:spec_l12Rd_num.f s0_0 s0_1 l1=some (r1,r2)) :
  Calls Try.prog 62 #[.pointer (some ⟨g,0,none⟩),.slice A1 l1.length c1] w fun e w'=>e=.returned (.int .i64 r1)∧IsS131 w0 w' g s0_0 r2∧Below w0.heap.size w0 w'∧KeepBut w w' g none:=by
 have HR1:=Aside0.mk hr1
 have HC1:=Aside0.mk hc1
 clear hr1 hc1
 have HI0:=Aside0.mk hI
 have HK:=Aside0.mk (KeepBut.refl w g none)
 have HL:=Aside0.mk hB.size
 clear hI
 have HW0:=Aside0.mk hB.size
 have HB:=Aside0.mk hB
 clear hB
 have H:((spec_l12Rd_pick.f s0_0 s0_1 (l1.length:Int)).bind fun bt295=>(if 0≤bt295.1 then (if bt295.1 < (l1.length:Int) then (some (rd l1 bt295.1,bt295.2)) else (none)) else (none)))=some (r1,r2):=h
 clear h
 replace H:=Option.bind_eq_some_iff.mp H
 obtain ⟨⟨t295,t296⟩,A30,H⟩:=H
 (try dsimp only at H)
 have A3:=Aside0.mk A30
 clear A30
 by_cases c4:0≤t295
 ·rw [if_pos c4] at H
  have c4b0:decide (0≤t295)=true:=decide_eq_true c4
  clear c4
  by_cases c5:t295 < (l1.length:Int)
  ·rw [if_pos c5] at H
   have c5b0:decide (t295 < (l1.length:Int))=true:=decide_eq_true c5
   clear c5
   simp only [Option.some.injEq,Prod.mk.injEq] at H
   obtain ⟨rfl,rfl⟩:=H
   go_enter Try.func62,Try.ntmps62
   go_wp2_with (first|((with_reducible refine gate_callee (f:=83) rfl ?_);refine goesL_ (some 9) rfl rfl Try.func83 (by kernel_rfl) rfl #[.pointer (some ⟨g,0,none⟩),.int .i64 (l1.length:Int)] rfl zar ?_;(with_reducible refine (spec_l12Rd_pick.calls g s0_0 s0_1 (l1.length:Int) t295 t296 w0 _ ?side1 ?side2 A3.out).mono ?_);(case side1=>exact zi131);(case side2=>exact zg131);rintro e w6 ⟨rfl,hi,hb,hk⟩;refine ⟨_,rfl,?_⟩;have n0_:=Aside0.mk (KeepBut.trans zhk hk (.inl rfl));have n1_:=Aside0.mk (hb);have n2_:=Aside0.mk (hi);clear HK;clear HB;clear HI0;have HK:=n0_;have HB:=n1_;have HI0:=n2_;clear n0_ n1_ n2_;(try clear hb);(try clear hb2);(try clear hk);(try clear hi);have p297:0≤(t295:Int):=zod;have q297:t295 < (l1.length:Int):=zod;obtain ⟨ad297,e297,hx297_0⟩:=Kd.at_int HR1.out t295 p297 q297;cases e297;replace hx297_0:=keep_cell HK.out hx297_0 (by first|(rw [add_block];exact hf1 _ rfl (by omega))|exact hf1 _ rfl (by omega)|exact hf1 ad297 rfl (by omega));replace p297:=eq_true p297;replace q297:=eq_true q297))
   go_ret
   exact ⟨by first|rfl|(simp [errW_none,errW_some] <;> rfl)|(simp [*,errW_none,errW_some] <;> rfl),zi131,zg131,zhk⟩
  ·rw [if_neg c5] at H
   exact absurd H (by simp)
 ·rw [if_neg c4] at H
  exact absurd H (by simp)

/-! ### spec_l1Row: function 122 -/
def spec_l1Row.l0:Nat→Int→List Int→Int→List Int→Int→Option (List Int × Int)
 | 0,_,_,_,_,_=>none
 | k + 1,x1,x5,x6,x1000,x1001=>if x6 < x1 then ((spec_l12Rd_num.f x1000 x1001 (([0,1,2,3,1,2,(-1),5]:List Int))).bind fun bt304=>(if x5.length < 17592186044416 then (spec_l1Row.l0 k x1 (x5 ++ [bt304.1]) (wrap64 (x6 + 1)) x1000 bt304.2) else (none))) else (some (x5,x1001))
def spec_l1Row.f (k:Nat) (s0_0:List Int) (s0_1:Int) (a1:Int):Option (List Int × Int):=spec_l1Row.l0 k a1 (([]:List Int)) 0 s0_0 s0_1
theorem spec_l1Row.mono_l : ∀ k,(∀ y0 y1 y2 y3 y4,LeO (spec_l1Row.l0 k y0 y1 y2 y3 y4) (spec_l1Row.l0 (k + 1) y0 y1 y2 y3 y4))
 | 0=>fun _ _ _ _ _ r h=>by simp [spec_l1Row.l0] at h
 | k + 1=>by
  have ih0:=spec_l1Row.mono_l k
  ·intro y0 y1 y2 y3 y4
   unfold spec_l1Row.l0
   repeat' first
   | (with_reducible exact ih0 _ _ _ _ _)
   | (with_reducible exact LeO.refl _)
   | (with_reducible exact LeO.none _)
   | (with_reducible refine LeO.ite ?_ ?_)
   | (with_reducible refine LeO.bind ?_ (fun _=>?_))
   | exact LeO.none _
   | refine LeO.ite ?_ ?_
   | refine LeO.bind ?_ (fun _=>?_)
theorem spec_l1Row.mono : ∀ a0 a1 a2 k,LeO (spec_l1Row.f k a0 a1 a2) (spec_l1Row.f (k + 1) a0 a1 a2):=by
 intro a0 a1 a2 k
 have ih0:=spec_l1Row.mono_l k
 unfold spec_l1Row.f
 repeat' first
   | (with_reducible exact ih0 _ _ _ _ _)
   | (with_reducible exact LeO.refl _)
   | (with_reducible exact LeO.none _)
   | (with_reducible refine LeO.ite ?_ ?_)
   | (with_reducible refine LeO.bind ?_ (fun _=>?_))
   | exact LeO.none _
   | refine LeO.ite ?_ ?_
   | refine LeO.bind ?_ (fun _=>?_)
set_option maxHeartbeats 8000000 in
set_option maxRecDepth 100000 in
theorem spec_l1Row.calls (k:Nat) (g:Nat) (s0_0:List Int) (s0_1:Int) (a1:Int) (r1:List Int) (r2:Int) (w0 w:World) (hI:IsS131 w0 w g s0_0 s0_1) (hB:Below w0.heap.size w0 w) (h:spec_l1Row.f k s0_0 s0_1 a1=some (r1,r2)) :
  Calls Try.prog 122 #[.pointer (some ⟨g,0,none⟩),.int .i64 a1] w fun e w'=>∃ v0_:Value,e=.returned (v0_)∧Kd.R (Kd.int .i64) 3 w' w.heap.size (fun _=>True) v0_ r1∧IsS131 w0 w' g s0_0 r2∧Below w0.heap.size w0 w'∧KeepBut w w' g none:=by
 have HI0:=Aside0.mk hI
 have HK:=Aside0.mk (KeepBut.refl w g none)
 have HL:=Aside0.mk hB.size
 clear hI
 have HW0:=Aside0.mk hB.size
 have HB:=Aside0.mk hB
 clear hB
 have H:(spec_l1Row.l0 k a1 (([]:List Int)) 0 s0_0 s0_1)=some (r1,r2):=h
 clear h
 obtain ⟨y298,hy298⟩ : ∃ y_:List Int,y_=(([]:List Int)):=⟨_,rfl⟩
 replace H:(spec_l1Row.l0 k a1 y298 0 s0_0 s0_1)=some (r1,r2):=by first|(rw [hy298];with_reducible exact H)|(have H2_:=(Option.bind_some _ _).symm.trans H;rw [hy298];with_reducible exact H2_)|(have H2_:=(Option.bind_some _ _).symm.trans H;with_reducible exact H2_)|with_reducible exact H|(rw [hy298];exact H)|exact H
 have Ny298:=Aside0.mk hy298
 clear hy298
 have H':=Aside0.mk H
 clear H
 go_enter Try.func122,Try.ntmps122
 go_wp2_with (first|((with_reducible refine gate_dst (N:=7) rfl ?_);refine Kd.R_lit (Kd.int .i64) _ 3 ?hg (N:=7) ?hd (xs:=([]:List Int)) (inner:=[]) (ok:=fun _=>True) (okp:=fun _=>True) ?hr ?hp (fun _ hk=>hk) trivial (Below.refl _ _) (Nat.le_refl _) (by simp) ?_;(case hd=>rfl);(case hg=>rfl);(case hr=>first|(go_simp;done)|(go_simp;rfl));(case hp=>exact (Reps.none _ _));intro v299 w3 ho4 hb hg_ hnew_;clear hg_ hnew_;(first|rw [← Ny298.out] at ho4|(simp only [Int.reduceToNat] at ho4;rw [← Ny298.out] at ho4));have n0_:=Aside0.mk (Kd.R_lower ho4 (keep_size (w:=w) (g:=g) (row:=none) zhk));have n1_:=Aside0.mk (IsS131.below zi131 hb);have n2_:=Aside0.mk (KeepBut.trans zhk (KeepBut.of_below hb g none) (.inl rfl));have n3_:=Aside0.mk (below_step zg131 hb);clear HI0;clear HK;clear HB;have HO300:=n0_;have HI0:=n1_;have HK:=n2_;have HB:=n3_;clear n0_ n1_ n2_ n3_;clear hb ho4))
 go_loopg [5,6] k (fun kq v5 v6 w'=>∃ (x5_1:List Int) (x6_1:Int) (x1001_1:Int),v6=.int .i64 x6_1∧Aside0 (spec_l1Row.l0 kq a1 x5_1 x6_1 s0_0 x1001_1=some (r1,r2))∧Aside0 (kq≤k)∧Aside0 (Kd.R (Kd.int .i64) 3 w' w.heap.size (fun _=>True) v5 x5_1)∧Aside0 (IsS131 w0 w' g s0_0 x1001_1)∧Aside0 (KeepBut w w' g none)∧Aside0 (Below w0.heap.size w0 w'))
 case atStart=>exact ⟨(y298),(0),(s0_1),(by first|rfl|(simp;done)|(simp [*];done)),H',⟨Nat.le_refl _⟩,⟨by (with_reducible repeat (first|apply Kd.R_alloc|apply Kd.R_drewN|apply Kd.R_drew));exact HO300.out⟩,⟨zi131⟩,⟨zhk⟩,⟨zg131⟩⟩
 case round =>
  clear H'
  try clear c1
  try clear p2
  obtain ⟨x5_1,x6_1,x1001_1,rfl,HA,HK1,HO_5,HI0,HK,HB⟩:=hrel
  cases gk with
  | zero=>exact absurd HA.out (by simp [spec_l1Row.l0])
  | succ k1 =>
   have H:=HA.out
   clear HA
   simp only [spec_l1Row.l0] at H
   by_cases c5:x6_1 < a1
   ·rw [if_pos c5] at H
    have c5b0:decide (x6_1 < a1)=true:=decide_eq_true c5
    clear c5
    obtain ⟨y301,hy301⟩ : ∃ y_:List Int,y_=(([0,1,2,3,1,2,(-1),5]:List Int)):=⟨_,rfl⟩
    replace H:((spec_l12Rd_num.f s0_0 x1001_1 y301).bind fun bt304=>(if x5_1.length < 17592186044416 then (spec_l1Row.l0 k1 a1 (x5_1 ++ [bt304.1]) (wrap64 (x6_1 + 1)) s0_0 bt304.2) else (none)))=some (r1,r2):=by first|(rw [hy301];with_reducible exact H)|(have H2_:=(Option.bind_some _ _).symm.trans H;rw [hy301];with_reducible exact H2_)|(have H2_:=(Option.bind_some _ _).symm.trans H;with_reducible exact H2_)|with_reducible exact H|(rw [hy301];exact H)|exact H
    have Ny301:=Aside0.mk hy301
    clear hy301
    replace H:=Option.bind_eq_some_iff.mp H
    obtain ⟨⟨t304,t305⟩,A60,H⟩:=H
    (try dsimp only at H)
    have A6:=Aside0.mk A60
    clear A60
    by_cases c7:x5_1.length < 17592186044416
    ·rw [if_pos c7] at H
     have LMc7:=Aside0.mk c7
     clear c7
     obtain ⟨y306,hy306⟩ : ∃ y_:List Int,y_=(x5_1 ++ [t304]):=⟨_,rfl⟩
     replace H:(spec_l1Row.l0 k1 a1 y306 (wrap64 (x6_1 + 1)) s0_0 t305)=some (r1,r2):=by first|(rw [hy306];with_reducible exact H)|(have H2_:=(Option.bind_some _ _).symm.trans H;rw [hy306];with_reducible exact H2_)|(have H2_:=(Option.bind_some _ _).symm.trans H;with_reducible exact H2_)|with_reducible exact H|(rw [hy306];exact H)|exact H
     have Ny306:=Aside0.mk hy306
     clear hy306
     have H':=Aside0.mk H
     clear H
     go_wp2_with (first|((with_reducible refine gate_dst (N:=15) rfl ?_);refine Kd.R_lit (Kd.int .i64) _ 3 ?hg (N:=15) ?hd (xs:=([0,1,2,3,1,2,(-1),5]:List Int)) (inner:=[.int .i64 0,.int .i64 1,.int .i64 2,.int .i64 3,.int .i64 1,.int .i64 2,.int .i64 (-1),.int .i64 5]) (ok:=fun _=>True) (okp:=fun _=>True) ?hr ?hp (fun _ hk=>hk) trivial (Below.refl _ _) (Nat.le_refl _) (by simp) ?_;(case hd=>rfl);(case hg=>rfl);(case hr=>first|(go_simp;done)|(go_simp;rfl));(case hp=>exact (Reps.one (show Kd.M (Kd.int .i64) _ _ _ 0 [.int .i64 0] from rfl) (Reps.one (show Kd.M (Kd.int .i64) _ _ _ 1 [.int .i64 1] from rfl) (Reps.one (show Kd.M (Kd.int .i64) _ _ _ 2 [.int .i64 2] from rfl) (Reps.one (show Kd.M (Kd.int .i64) _ _ _ 3 [.int .i64 3] from rfl) (Reps.one (show Kd.M (Kd.int .i64) _ _ _ 1 [.int .i64 1] from rfl) (Reps.one (show Kd.M (Kd.int .i64) _ _ _ 2 [.int .i64 2] from rfl) (Reps.one (show Kd.M (Kd.int .i64) _ _ _ (-1) [.int .i64 (-1)] from rfl) (Reps.one (show Kd.M (Kd.int .i64) _ _ _ 5 [.int .i64 5] from rfl) (Reps.none _ _))))))))));intro v302 w8 ho9 hb hg_ hnew_;clear hg_ hnew_;(first|rw [← Ny301.out] at ho9|(simp only [Int.reduceToNat] at ho9;rw [← Ny301.out] at ho9));have n0_:=Aside0.mk (Kd.R_elder' (by (with_reducible repeat (first|apply Kd.R_alloc|apply Kd.R_drewN|apply Kd.R_drew));exact HO_5.out) (Kd.R_base ho9) hb);have n1_:=Aside0.mk (Kd.R_lower (Kd.R_new' ho9 (Kd.R_lt (by (with_reducible repeat (first|apply Kd.R_alloc|apply Kd.R_drewN|apply Kd.R_drew));exact HO_5.out))) (keep_size (w:=w) (g:=g) (row:=none) zhk));have n2_:=Aside0.mk (IsS131.below zi131 hb);have n3_:=Aside0.mk (KeepBut.trans zhk (KeepBut.of_below hb g none) (.inl rfl));have n4_:=Aside0.mk (below_step zg131 hb);clear HO_5;clear HI0;clear HK;clear HB;have HO_5:=n0_;have HO303:=n1_;have HI0:=n2_;have HK:=n3_;have HB:=n4_;clear n0_ n1_ n2_ n3_ n4_;clear hb ho9;obtain ⟨Ao10,co10,eo10⟩:=Kd.R_slice HO303.out;subst eo10)|((with_reducible refine gate_callee (f:=62) rfl ?_);refine goesL_ (some 16) rfl rfl Try.func62 (by kernel_rfl) rfl #[.pointer (some ⟨g,0,none⟩),.slice Ao10 y301.length co10] rfl zar ?_;(with_reducible refine (spec_l12Rd_num.calls g s0_0 x1001_1 _ _ y301 t304 t305 w0 _ ?side1 ?side2 ?side3 ?side4 ?side5 A6.out).mono ?_);(case side1=>exact zi131);(case side2=>exact zg131);(case side3=>repeat (first|exact (Kd.R_reads' HO303.out).2.2|(with_reducible refine Kd.C_alloc ?_ _)|(with_reducible refine Kd.C_drewN ?_ _)|(with_reducible refine Kd.C_drew ?_)));(case side4=>exact (Kd.R_reads' HO303.out).2.1);(case side5=>exact far_slice (IsS131.own_ne HI0.out HO303.out (by decide)));rintro e w11 ⟨rfl,hi,hb,hk⟩;refine ⟨_,rfl,?_⟩;have n0_:=Aside0.mk (Kd.R_mono (Kd.R_keep (IsS131.apart (show IsS131 w0 _ g s0_0 x1001_1 from zi131) (by (with_reducible repeat (first|apply Kd.R_alloc|apply Kd.R_drewN|apply Kd.R_drew));exact HO_5.out) (by decide)) hk (fun _ h=>h.2)) (fun _ h=>h.1));have n1_:=Aside0.mk (Kd.R_mono (Kd.R_keep (IsS131.apart (show IsS131 w0 _ g s0_0 x1001_1 from zi131) (by (with_reducible repeat (first|apply Kd.R_alloc|apply Kd.R_drewN|apply Kd.R_drew));exact HO303.out) (by decide)) hk (fun _ h=>h.2)) (fun _ h=>h.1));have n2_:=Aside0.mk (KeepBut.trans zhk hk (.inl rfl));have n3_:=Aside0.mk (hb);have n4_:=Aside0.mk (hi);clear HO_5;clear HO303;clear HK;clear HB;clear HI0;have HO_5:=n0_;have HO303:=n1_;have HK:=n2_;have HB:=n3_;have HI0:=n4_;clear n0_ n1_ n2_ n3_ n4_;(try clear hb);(try clear hb2);(try clear hk);(try clear hi))|((with_reducible refine gate_builtin (b:=.append) (xs:=#[.tmp 13,.tmp 17]) rfl ?_);at_builtin;refine Kd.R_append (Kd.int .i64) w.heap.size rfl (.tmp 13) (.tmp 17) 52 3 (.int .i64 0) 8 rfl Try.underlying52 info3 rfl (by decide) (by omega) u5 x5_1 t304 [.int .i64 t304] (fun k_=>some k_≠(.slice Ao10 y301.length co10:Value).ownBlock) (fun _=>False) rfl rfl ?aP (fun _ hk=>hk.elim) ?aF ?aO (Below.refl _ _) ?aS ?aL ?_;(case aP=>exact rfl);(case aF=>exact (fun k_ hk=>Kd.fresh' (Kd.R_lt (by (with_reducible repeat (first|apply Kd.R_alloc|apply Kd.R_drewN|apply Kd.R_drew));exact HO303.out)) k_ hk));(case aO=>exact (by (with_reducible repeat (first|apply Kd.R_alloc|apply Kd.R_drewN|apply Kd.R_drew));exact Kd.R_mono HO_5.out (fun _ hk=>hk.2)));(case aS=>exact (keep_size (w:=w) (g:=g) (row:=none) zhk));(case aL=>have:=LMc7.out;omega);intro v307 w12 ho hb hg hat;rw [← Ny306.out] at ho;have n0_:=Aside0.mk (IsS131.grown zi131 hg (IsS131.own_ne HI0.out HO_5.out (by decide)));have n1_:=Aside0.mk (Kd.R_after (ok:=(fun _=>True)) (by (with_reducible repeat (first|apply Kd.R_alloc|apply Kd.R_drewN|apply Kd.R_drew));exact HO303.out) hg hat);have n2_:=Aside0.mk (below_weaken zg131 HL.out hb);have n3_:=Aside0.mk (KeepBut.trans zhk (KeepBut.of_grown hg g) (Kd.R_base2 HO_5.out));have n4_:=Aside0.mk (ho);clear HI0;clear HO303;clear HB;clear HK;clear HO_5;have HI0:=n0_;have HO303:=n1_;have HB:=n2_;have HK:=n3_;have HO308:=n4_;clear n0_ n1_ n2_ n3_ n4_;clear ho hb hg hat))
     go_roundg k1
     case measure=>have:=HK1.out;omega
     case rel=>exact ⟨(y306),(wrap64 (x6_1 + 1)),(t305),(by first|rfl|(simp;done)|(simp [*];done)),H',⟨by have:=HK1.out;omega⟩,⟨by (with_reducible repeat (first|apply Kd.R_alloc|apply Kd.R_drewN|apply Kd.R_drew));exact Kd.R_mono HO308.out (fun _ hk=>trivial)⟩,⟨zi131⟩,⟨zhk⟩,⟨zg131⟩⟩
    ·rw [if_neg c7] at H
     exact absurd H (by simp)
   ·rw [if_neg c5] at H
    have c5b0:decide (x6_1 < a1)=false:=decide_eq_false c5
    clear c5
    simp only [Option.some.injEq,Prod.mk.injEq] at H
    obtain ⟨rfl,rfl⟩:=H
    go_wp2
    go_ret
    exact ⟨_,by first|rfl|(simp [errW_none,errW_some] <;> rfl)|(simp [*,errW_none,errW_some] <;> rfl),by (with_reducible repeat (first|apply Kd.R_alloc|apply Kd.R_drewN|apply Kd.R_drew));exact HO_5.out,zi131,zg131,zhk⟩

/-! ### spec_l2Z: function 114 -/
def spec_l2Z.l0:Nat→Int→List (S54)→Int→List Int→Int→Option ((List (S54)) × Int)
 | 0,_,_,_,_,_=>none
 | k + 1,x1,x7,x8,x1000,x1001=>if x8 > 0 then ((spec_l1Row.f k x1000 x1001 x1).bind fun bt314=>((spec_l12Rd_num.f x1000 bt314.2 (([1,1,1,2,(-1),3,(-2)]:List Int))).bind fun bt321=>((spec_l2Put.f k x7 bt314.1 bt321.1).bind fun t323=>(spec_l2Z.l0 k x1 t323 (wrap64 (x8 - 1)) x1000 bt321.2)))) else (some (x7,x1001))
def spec_l2Z.f (k:Nat) (s0_0:List Int) (s0_1:Int) (a1:Int) (a2:Int):Option ((List (S54)) × Int):=(spec_l12Rd_pick.f s0_0 s0_1 (wrap64 (a2 + 1))).bind fun bt312=>(spec_l2Z.l0 k a1 (([]:List (S54))) bt312.1 s0_0 bt312.2)
theorem spec_l2Z.mono_l : ∀ k,(∀ y0 y1 y2 y3 y4,LeO (spec_l2Z.l0 k y0 y1 y2 y3 y4) (spec_l2Z.l0 (k + 1) y0 y1 y2 y3 y4))
 | 0=>fun _ _ _ _ _ r h=>by simp [spec_l2Z.l0] at h
 | k + 1=>by
  have ih0:=spec_l2Z.mono_l k
  ·intro y0 y1 y2 y3 y4
   unfold spec_l2Z.l0
   repeat' first
   | (with_reducible exact ih0 _ _ _ _ _)
   | (with_reducible exact spec_l1Row.mono _ _ _ _)
   | (with_reducible exact spec_l2Put.mono _ _ _ _)
   | (with_reducible exact LeO.refl _)
   | (with_reducible exact LeO.none _)
   | (with_reducible refine LeO.ite ?_ ?_)
   | (with_reducible refine LeO.bind ?_ (fun _=>?_))
   | exact LeO.none _
   | refine LeO.ite ?_ ?_
   | refine LeO.bind ?_ (fun _=>?_)
theorem spec_l2Z.mono : ∀ a0 a1 a2 a3 k,LeO (spec_l2Z.f k a0 a1 a2 a3) (spec_l2Z.f (k + 1) a0 a1 a2 a3):=by
 intro a0 a1 a2 a3 k
 have ih0:=spec_l2Z.mono_l k
 unfold spec_l2Z.f
 repeat' first
   | (with_reducible exact ih0 _ _ _ _ _)
   | (with_reducible exact spec_l1Row.mono _ _ _ _)
   | (with_reducible exact spec_l2Put.mono _ _ _ _)
   | (with_reducible exact LeO.refl _)
   | (with_reducible exact LeO.none _)
   | (with_reducible refine LeO.ite ?_ ?_)
   | (with_reducible refine LeO.bind ?_ (fun _=>?_))
   | exact LeO.none _
   | refine LeO.ite ?_ ?_
   | refine LeO.bind ?_ (fun _=>?_)
set_option maxHeartbeats 8000000 in
set_option maxRecDepth 100000 in
theorem spec_l2Z.calls (k:Nat) (g:Nat) (s0_0:List Int) (s0_1:Int) (a1:Int) (a2:Int) (r1:List (S54)) (r2:Int) (w0 w:World) (hI:IsS131 w0 w g s0_0 s0_1) (hB:Below w0.heap.size w0 w) (h:spec_l2Z.f k s0_0 s0_1 a1 a2=some (r1,r2)) :
  Calls Try.prog 114 #[.pointer (some ⟨g,0,none⟩),.int .i64 a1,.int .i64 a2] w fun e w'=>∃ v0_:Value,e=.returned (v0_)∧Kd.N k54 54 w' w.heap.size (fun k_=>(w.heap.size≤k_)) v0_ r1∧IsS131 w0 w' g s0_0 r2∧Below w0.heap.size w0 w'∧KeepBut w w' g none:=by
 have HI0:=Aside0.mk hI
 have HK:=Aside0.mk (KeepBut.refl w g none)
 have HL:=Aside0.mk hB.size
 clear hI
 have HW0:=Aside0.mk hB.size
 have HB:=Aside0.mk hB
 clear hB
 have H:((spec_l12Rd_pick.f s0_0 s0_1 (wrap64 (a2 + 1))).bind fun bt312=>(spec_l2Z.l0 k a1 (([]:List (S54))) bt312.1 s0_0 bt312.2))=some (r1,r2):=h
 clear h
 obtain ⟨y309,hy309⟩ : ∃ y_:List (S54),y_=(([]:List (S54))):=⟨_,rfl⟩
 replace H:((spec_l12Rd_pick.f s0_0 s0_1 (wrap64 (a2 + 1))).bind fun bt312=>(spec_l2Z.l0 k a1 y309 bt312.1 s0_0 bt312.2))=some (r1,r2):=by first|(rw [hy309];with_reducible exact H)|(have H2_:=(Option.bind_some _ _).symm.trans H;rw [hy309];with_reducible exact H2_)|(have H2_:=(Option.bind_some _ _).symm.trans H;with_reducible exact H2_)|with_reducible exact H|(rw [hy309];exact H)|exact H
 have Ny309:=Aside0.mk hy309
 clear hy309
 replace H:=Option.bind_eq_some_iff.mp H
 obtain ⟨⟨t312,t313⟩,A40,H⟩:=H
 (try dsimp only at H)
 have A4:=Aside0.mk A40
 clear A40
 have H':=Aside0.mk H
 clear H
 go_enter Try.func114,Try.ntmps114
 go_wp2_with (first|((with_reducible refine gate_dst (N:=9) rfl ?_);refine Kd.N_lit k54 _ 54 ?hg (N':=9) ?hd (xs:=([]:List (S54))) (inner:=[]) (ok:=(fun k_=>(w.heap.size≤k_)∧k_≠g)) (okp:=(fun k_=>(w.heap.size≤k_)∧k_≠g)) ?hr ?hp (fun _ hk=>hk) ((show ∀ k_,w.heap.size≤k_→(fun k_=>(w.heap.size≤k_)∧k_≠g) k_ from fun k_ hk=>⟨(Nat.le_trans (keep_size (w:=w) (g:=g) (row:=none) zhk) hk),IsS131.fresh zi131 k_ hk⟩) _ (Nat.le_refl _)) (Below.refl _ _) (Nat.le_refl _) (by simp) ?_;(case hd=>rfl);(case hg=>rfl);(case hr=>first|(go_simp;done)|(go_simp;rfl));(case hp=>exact (Reps.none _ _));intro v310 w5 ho6 hb hg_ hnew_;clear hg_ hnew_;(first|rw [← Ny309.out] at ho6|(simp only [Int.reduceToNat] at ho6;rw [← Ny309.out] at ho6));have n0_:=Aside0.mk (Kd.N_lower ho6 (keep_size (w:=w) (g:=g) (row:=none) zhk));have n1_:=Aside0.mk (IsS131.below zi131 hb);have n2_:=Aside0.mk (KeepBut.trans zhk (KeepBut.of_below hb g none) (.inl rfl));have n3_:=Aside0.mk (below_step zg131 hb);clear HI0;clear HK;clear HB;have HO311:=n0_;have HI0:=n1_;have HK:=n2_;have HB:=n3_;clear n0_ n1_ n2_ n3_;clear hb ho6)|((with_reducible refine gate_callee (f:=83) rfl ?_);refine goesL_ (some 13) rfl rfl Try.func83 (by kernel_rfl) rfl #[.pointer (some ⟨g,0,none⟩),.int .i64 (wrap64 (a2 + 1))] rfl zar ?_;(with_reducible refine (spec_l12Rd_pick.calls g s0_0 s0_1 (wrap64 (a2 + 1)) t312 t313 w0 _ ?side1 ?side2 A4.out).mono ?_);(case side1=>exact zi131);(case side2=>exact zg131);rintro e w7 ⟨rfl,hi,hb,hk⟩;refine ⟨_,rfl,?_⟩;have n0_:=Aside0.mk (Kd.N_mono (Kd.N_keep (Kd.N_mono (ok:=fun k_=>(((w.heap.size≤k_))∧k_≠g)) (zN HO311.out) (fun k_ hk_=>(⟨hk_,hk_.2⟩:_∧k_≠g))) hk (fun _ h=>h.2)) (fun _ h=>h.1));have n1_:=Aside0.mk (KeepBut.trans zhk hk (.inl rfl));have n2_:=Aside0.mk (hb);have n3_:=Aside0.mk (hi);clear HO311;clear HK;clear HB;clear HI0;have HO311:=n0_;have HK:=n1_;have HB:=n2_;have HI0:=n3_;clear n0_ n1_ n2_ n3_;(try clear hb);(try clear hb2);(try clear hk);(try clear hi)))
 go_loopg [7,8] k (fun kq v7 v8 w'=>∃ (x7_1:List (S54)) (x8_1:Int) (x1001_1:Int),v8=.int .i64 x8_1∧Aside0 (spec_l2Z.l0 kq a1 x7_1 x8_1 s0_0 x1001_1=some (r1,r2))∧Aside0 (kq≤k)∧Aside0 (Kd.N k54 54 w' w.heap.size (fun k_=>(w.heap.size≤k_)∧k_≠g) v7 x7_1)∧Aside0 (IsS131 w0 w' g s0_0 x1001_1)∧Aside0 (KeepBut w w' g none)∧Aside0 (Below w0.heap.size w0 w'))
 case atStart=>exact ⟨(y309),(t312),(t313),(by first|rfl|(simp;done)|(simp [*];done)),H',⟨Nat.le_refl _⟩,⟨by (with_reducible repeat (first|apply Kd.N_alloc|apply Kd.N_drewN|apply Kd.N_drew));exact HO311.out⟩,⟨zi131⟩,⟨zhk⟩,⟨zg131⟩⟩
 case round =>
  clear H'
  try clear c1
  try clear p2
  try clear p6
  obtain ⟨x7_1,x8_1,x1001_1,rfl,HA,HK1,HO_7,HI0,HK,HB⟩:=hrel
  cases gk with
  | zero=>exact absurd HA.out (by simp [spec_l2Z.l0])
  | succ k1 =>
   have H:=HA.out
   clear HA
   simp only [spec_l2Z.l0] at H
   by_cases c8:x8_1 > 0
   ·rw [if_pos c8] at H
    have c8b0:decide (0 < x8_1)=true:=decide_eq_true c8
    clear c8
    replace H:=Option.bind_eq_some_iff.mp H
    obtain ⟨⟨t314,t317⟩,A90,H⟩:=H
    (try dsimp only at H)
    have A9:=Aside0.mk A90
    clear A90
    obtain ⟨y318,hy318⟩ : ∃ y_:List Int,y_=(([1,1,1,2,(-1),3,(-2)]:List Int)):=⟨_,rfl⟩
    replace H:((spec_l12Rd_num.f s0_0 t317 y318).bind fun bt321=>((spec_l2Put.f k1 x7_1 t314 bt321.1).bind fun t323=>(spec_l2Z.l0 k1 a1 t323 (wrap64 (x8_1 - 1)) s0_0 bt321.2)))=some (r1,r2):=by first|(rw [hy318];with_reducible exact H)|(have H2_:=(Option.bind_some _ _).symm.trans H;rw [hy318];with_reducible exact H2_)|(have H2_:=(Option.bind_some _ _).symm.trans H;with_reducible exact H2_)|with_reducible exact H|(rw [hy318];exact H)|exact H
    have Ny318:=Aside0.mk hy318
    clear hy318
    replace H:=Option.bind_eq_some_iff.mp H
    obtain ⟨⟨t321,t322⟩,A100,H⟩:=H
    (try dsimp only at H)
    have A10:=Aside0.mk A100
    clear A100
    replace H:=Option.bind_eq_some_iff.mp H
    obtain ⟨t323,A110,H⟩:=H
    (try dsimp only at H)
    have A11:=Aside0.mk A110
    clear A110
    have H':=Aside0.mk H
    clear H
    go_wp2_with (first|((with_reducible refine gate_callee (f:=122) rfl ?_);refine goesL_ (some 21) rfl rfl Try.func122 (by kernel_rfl) rfl #[.pointer (some ⟨g,0,none⟩),.int .i64 a1] rfl zar ?_;(with_reducible refine (spec_l1Row.calls k1 g s0_0 x1001_1 a1 t314 t317 w0 _ ?side1 ?side2 A9.out).mono ?_);(case side1=>exact zi131);(case side2=>exact zg131);rintro e w12 ⟨v315,rfl,ho0,hi,hb,hk⟩;refine ⟨_,rfl,?_⟩;have n0_:=Aside0.mk (Kd.N_mono (Kd.N_told (Kd.N_oldK (Kd.N_mono (ok:=fun k_=>(((w.heap.size≤k_))∧k_≠g)) (zN HO_7.out) (fun k_ hk_=>(⟨hk_,hk_.2⟩:_∧k_≠g))) hk) (Kd.R_base ho0)) (fun _ h_=>h_.1));have n1_:=Aside0.mk (Kd.R_lower (Kd.R_newM (M:=fun k_=>(w.heap.size≤k_)) ho0 (keep_size (w:=w) (g:=g) (row:=none) zhk) (fun k_ h_=>h_)) (keep_size (w:=w) (g:=g) (row:=none) zhk));have n2_:=Aside0.mk (KeepBut.trans zhk hk (.inl rfl));have n3_:=Aside0.mk (hb);have n4_:=Aside0.mk (hi);clear HO_7;clear HK;clear HB;clear HI0;have HO_7:=n0_;have HO316:=n1_;have HK:=n2_;have HB:=n3_;have HI0:=n4_;clear n0_ n1_ n2_ n3_ n4_;(try clear hb);(try clear hb2);(try clear hk);(try clear hi);(try clear ho0))|((with_reducible refine gate_dst (N:=23) rfl ?_);refine Kd.R_lit (Kd.int .i64) _ 3 ?hg (N:=23) ?hd (xs:=([1,1,1,2,(-1),3,(-2)]:List Int)) (inner:=[.int .i64 1,.int .i64 1,.int .i64 1,.int .i64 2,.int .i64 (-1),.int .i64 3,.int .i64 (-2)]) (ok:=fun _=>True) (okp:=fun _=>True) ?hr ?hp (fun _ hk=>hk) trivial (Below.refl _ _) (Nat.le_refl _) (by simp) ?_;(case hd=>rfl);(case hg=>rfl);(case hr=>first|(go_simp;done)|(go_simp;rfl));(case hp=>exact (Reps.one (show Kd.M (Kd.int .i64) _ _ _ 1 [.int .i64 1] from rfl) (Reps.one (show Kd.M (Kd.int .i64) _ _ _ 1 [.int .i64 1] from rfl) (Reps.one (show Kd.M (Kd.int .i64) _ _ _ 1 [.int .i64 1] from rfl) (Reps.one (show Kd.M (Kd.int .i64) _ _ _ 2 [.int .i64 2] from rfl) (Reps.one (show Kd.M (Kd.int .i64) _ _ _ (-1) [.int .i64 (-1)] from rfl) (Reps.one (show Kd.M (Kd.int .i64) _ _ _ 3 [.int .i64 3] from rfl) (Reps.one (show Kd.M (Kd.int .i64) _ _ _ (-2) [.int .i64 (-2)] from rfl) (Reps.none _ _)))))))));intro v319 w13 ho14 hb hg_ hnew_;clear hg_ hnew_;(first|rw [← Ny318.out] at ho14|(simp only [Int.reduceToNat] at ho14;rw [← Ny318.out] at ho14));have n0_:=Aside0.mk (Kd.N_elder' (zN HO_7.out) (Kd.R_base ho14) hb);have n1_:=Aside0.mk (Kd.R_elder' (by (with_reducible repeat (first|apply Kd.R_alloc|apply Kd.R_drewN|apply Kd.R_drew));exact HO316.out) (Kd.R_base ho14) hb);have n2_:=Aside0.mk (Kd.R_lower (Kd.R_new' (Kd.R_newM (M:=fun k_=>(w.heap.size≤k_)) ho14 (keep_size (w:=w) (g:=g) (row:=none) zhk) (fun k_ h_=>h_)) (Kd.R_lt (by (with_reducible repeat (first|apply Kd.R_alloc|apply Kd.R_drewN|apply Kd.R_drew));exact HO316.out))) (keep_size (w:=w) (g:=g) (row:=none) zhk));have n3_:=Aside0.mk (IsS131.below zi131 hb);have n4_:=Aside0.mk (KeepBut.trans zhk (KeepBut.of_below hb g none) (.inl rfl));have n5_:=Aside0.mk (below_step zg131 hb);clear HO_7;clear HO316;clear HI0;clear HK;clear HB;have HO_7:=n0_;have HO316:=n1_;have HO320:=n2_;have HI0:=n3_;have HK:=n4_;have HB:=n5_;clear n0_ n1_ n2_ n3_ n4_ n5_;clear hb ho14;obtain ⟨Ao15,co15,eo15⟩:=Kd.R_slice HO320.out;subst eo15)|((with_reducible refine gate_callee (f:=62) rfl ?_);refine goesL_ (some 24) rfl rfl Try.func62 (by kernel_rfl) rfl #[.pointer (some ⟨g,0,none⟩),.slice Ao15 y318.length co15] rfl zar ?_;(with_reducible refine (spec_l12Rd_num.calls g s0_0 t317 _ _ y318 t321 t322 w0 _ ?side1 ?side2 ?side3 ?side4 ?side5 A10.out).mono ?_);(case side1=>exact zi131);(case side2=>exact zg131);(case side3=>repeat (first|exact (Kd.R_reads' HO320.out).2.2|(with_reducible refine Kd.C_alloc ?_ _)|(with_reducible refine Kd.C_drewN ?_ _)|(with_reducible refine Kd.C_drew ?_)));(case side4=>exact (Kd.R_reads' HO320.out).2.1);(case side5=>exact far_slice (IsS131.own_ne HI0.out HO320.out (by decide)));rintro e w16 ⟨rfl,hi,hb,hk⟩;refine ⟨_,rfl,?_⟩;have n0_:=Aside0.mk (Kd.N_mono (Kd.N_keep (Kd.N_mono (ok:=fun k_=>(((((w.heap.size≤k_))∧k_≠g)∧some k_≠(v315:Value).ownBlock)∧some k_≠(.slice Ao15 y318.length co15:Value).ownBlock)) (zN HO_7.out) (fun k_ hk_=>(⟨hk_,hk_.1.1.2⟩:_∧k_≠g))) hk (fun _ h=>h.2)) (fun _ h=>h.1));have n1_:=Aside0.mk (Kd.R_mono (Kd.R_keep (IsS131.apart (show IsS131 w0 _ g s0_0 t317 from zi131) (by (with_reducible repeat (first|apply Kd.R_alloc|apply Kd.R_drewN|apply Kd.R_drew));exact HO316.out) (by decide)) hk (fun _ h=>h.2)) (fun _ h=>h.1));have n2_:=Aside0.mk (Kd.R_mono (Kd.R_keep (IsS131.apart (show IsS131 w0 _ g s0_0 t317 from zi131) (by (with_reducible repeat (first|apply Kd.R_alloc|apply Kd.R_drewN|apply Kd.R_drew));exact HO320.out) (by decide)) hk (fun _ h=>h.2)) (fun _ h=>h.1));have n3_:=Aside0.mk (KeepBut.trans zhk hk (.inl rfl));have n4_:=Aside0.mk (hb);have n5_:=Aside0.mk (hi);clear HO_7;clear HO316;clear HO320;clear HK;clear HB;clear HI0;have HO_7:=n0_;have HO316:=n1_;have HO320:=n2_;have HK:=n3_;have HB:=n4_;have HI0:=n5_;clear n0_ n1_ n2_ n3_ n4_ n5_;(try clear hb);(try clear hb2);(try clear hk);(try clear hi);obtain ⟨Ao17,co17,eo17⟩:=Kd.N_slice HO_7.out;subst eo17;obtain ⟨Ao18,co18,eo18⟩:=Kd.R_slice HO316.out;subst eo18)|((with_reducible refine gate_callee (f:=107) rfl ?_);refine goesL_ (some 25) rfl rfl Try.func107 (by kernel_rfl) rfl #[.slice Ao17 x7_1.length co17,.slice Ao18 t314.length co18,.int .i64 t321] rfl zar ?_;(refine (spec_l2Put.calls k1 w.heap.size (fun k_=>(w.heap.size≤k_)∧some k_≠(.slice Ao18 t314.length co18:Value).ownBlock∧some k_≠(.slice Ao15 y318.length co15:Value).ownBlock∧k_≠g) (.slice Ao17 x7_1.length co17) x7_1 _ _ t314 t321 t323 ?w0_ _ ?side1 ?side2 ?side3 ?side4 ?side5 ?side6 A11.out).mono ?_);(case side1=>exact (keep_size (w:=w) (g:=g) (row:=none) zhk));(case side2=>exact (Below.refl _ _));(case side3=>exact (by (with_reducible repeat (first|apply Kd.N_alloc|apply Kd.N_drewN|apply Kd.N_drew));exact Kd.N_mono HO_7.out (fun _ hk=>⟨hk.1.1.1,⟨hk.1.2,⟨hk.2,hk.1.1.2⟩⟩⟩)));(case side4=>exact (fun k_ hk=>⟨(Nat.le_trans (keep_size (w:=w) (g:=g) (row:=none) zhk) hk),Kd.fresh' (Kd.R_lt (by (with_reducible repeat (first|apply Kd.R_alloc|apply Kd.R_drewN|apply Kd.R_drew));exact HO316.out)) k_ hk,Kd.fresh' (Kd.R_lt (by (with_reducible repeat (first|apply Kd.R_alloc|apply Kd.R_drewN|apply Kd.R_drew));exact HO320.out)) k_ hk,IsS131.fresh zi131 k_ hk⟩));(case side5=>repeat (first|exact (Kd.R_reads' HO316.out).2.2|(with_reducible refine Kd.C_alloc ?_ _)|(with_reducible refine Kd.C_drewN ?_ _)|(with_reducible refine Kd.C_drew ?_)));(case side6=>exact (Kd.R_reads' HO316.out).2.1);rintro e w19 ⟨v324,rfl,ho,hb,hg,hat⟩;refine ⟨_,rfl,?_⟩;have n0_:=Aside0.mk (IsS131.grown zi131 hg (IsS131.own_neN HI0.out HO_7.out (by decide)));have n1_:=Aside0.mk (Kd.R_over' (by (with_reducible repeat (first|apply Kd.R_alloc|apply Kd.R_drewN|apply Kd.R_drew));exact HO316.out) (Kd.N_typed (zN HO_7.out)) (by decide) hg);have n2_:=Aside0.mk (Kd.R_over' (by (with_reducible repeat (first|apply Kd.R_alloc|apply Kd.R_drewN|apply Kd.R_drew));exact HO320.out) (Kd.N_typed (zN HO_7.out)) (by decide) hg);have n3_:=Aside0.mk (below_weaken zg131 HL.out hb);have n4_:=Aside0.mk (KeepBut.trans zhk (KeepBut.of_grown hg g) (Kd.N_base2 HO_7.out));have n5_:=Aside0.mk (ho);clear HI0;clear HO316;clear HO320;clear HB;clear HK;clear HO_7;have HI0:=n0_;have HO316:=n1_;have HO320:=n2_;have HB:=n3_;have HK:=n4_;have HO325:=n5_;clear n0_ n1_ n2_ n3_ n4_ n5_;clear ho hb hg hat))
    go_roundg k1
    case measure=>have:=HK1.out;omega
    case rel=>exact ⟨(t323),(wrap64 (x8_1 - 1)),(t322),(by first|rfl|(simp;done)|(simp [*];done)),H',⟨by have:=HK1.out;omega⟩,⟨by (with_reducible repeat (first|apply Kd.N_alloc|apply Kd.N_drewN|apply Kd.N_drew));exact Kd.N_mono HO325.out (fun _ hk=>⟨hk.1,hk.2.2.2⟩)⟩,⟨zi131⟩,⟨zhk⟩,⟨zg131⟩⟩
   ·rw [if_neg c8] at H
    have c8b0:decide (0 < x8_1)=false:=decide_eq_false c8
    clear c8
    simp only [Option.some.injEq,Prod.mk.injEq] at H
    obtain ⟨rfl,rfl⟩:=H
    go_wp2
    go_ret
    exact ⟨_,by first|rfl|(simp [errW_none,errW_some] <;> rfl)|(simp [*,errW_none,errW_some] <;> rfl),by (with_reducible repeat (first|apply Kd.N_alloc|apply Kd.N_drewN|apply Kd.N_drew));exact Kd.N_mono HO_7.out (fun _ hk=>hk.1),zi131,zg131,zhk⟩

end Go.Proofs.Ytaifnkapbffmaaa.PFnZ
