-- Written by wip/tools/pp.py, a program of this session over the kit's printer: not the kit's own print
import Derived.Test.YtlpgnkndjmfcjaaPFnExactPlanWidex0
namespace Go.Proofs.Ytlpgnkndjmfcjaa.PFnExactPlanWide
open Go.RowKit Go.Proofs.YtlpgnkndjmfcjaaW.PrintWords Go.Proofs.YtlpgnkndjmfcjaaW.PrintLast Go.Proofs.YtlpgnkndjmfcjaaW.PrintMore
attribute [local go_sem] max2_int min2_int max_two min_two max_three min_three max_four min_four   -- for this text's walks alone
set_option linter.unusedVariables false
set_option linter.unusedSimpArgs false

theorem eqA33 (d:Nat) (w:World) (x0 y0:Int) (x1 y1:Int) (x2 y2:Int) (x3 y3:Int) :
  (Op.equalIn (d + 2) 33 (.agg #[.int .i64 x0,.int .i64 x1,.int .i64 x2,.int .i64 x3]) (.agg #[.int .i64 y0,.int .i64 y1,.int .i64 y2,.int .i64 y3])).run Try.prog w=.ok (x0 == y0 && (x1 == y1 && (x2 == y2 && (x3 == y3)))) w:=by
 refine eqA_of Try.underlying33 (by kernel_rfl) ?_
 refine eqf_cons (by rfl) (by go_simp;rfl) (by go_simp;rfl) (by go_simp) ?_
 refine eqf_cons (by rfl) (by go_simp;rfl) (by go_simp;rfl) (by go_simp) ?_
 refine eqf_cons (by rfl) (by go_simp;rfl) (by go_simp;rfl) (by go_simp) ?_
 exact eqf_last (by rfl) (by go_simp;rfl) (by go_simp;rfl) (by go_simp)
/-! ### laws_szCellS: function 17 -/
def laws_szCellS.f (l0:List (S23)) (a1:Int):Option (Int):=if (wrap64 (a1 - (l0.length:Int))) < 0 then (some (-1)) else (some (wrap64 (a1 - (l0.length:Int))))
set_option maxHeartbeats 8000000 in
set_option maxRecDepth 100000 in
theorem laws_szCellS.calls (A0:Option Addr) (c0:Nat) (l0:List (S23)) (a1:Int) (r:Int) (w:World) (hr0:Kd.C k23 w A0 l0.length l0) (hc0:l0.length≤c0) (h:laws_szCellS.f l0 a1=some r) :
  Calls Try.prog 17 #[.slice A0 l0.length c0,.int .i64 a1] w fun e w'=>e=.returned (.int .i64 r)∧Drawn0 w w':=by
 have HR0:=Aside0.mk hr0
 have HC0:=Aside0.mk hc0
 clear hr0 hc0
 have H:(if (wrap64 (a1 - (l0.length:Int))) < 0 then (some (-1)) else (some (wrap64 (a1 - (l0.length:Int)))))=some r:=h
 clear h
 by_cases c3:(wrap64 (a1 - (l0.length:Int))) < 0
 ·rw [if_pos c3] at H
  have c3b0:decide ((wrap64 (a1 - (l0.length:Int))) < 0)=true:=decide_eq_true c3
  clear c3
  obtain rfl:=Option.some.inj H
  go_enter Try.func17,Try.ntmps17
  go_wp2
  go_ret
  exact ⟨by first|rfl|(simp;done)|(simp [*];done),zdw⟩
 ·rw [if_neg c3] at H
  have c3b0:decide ((wrap64 (a1 - (l0.length:Int))) < 0)=false:=decide_eq_false c3
  clear c3
  obtain rfl:=Option.some.inj H
  go_enter Try.func17,Try.ntmps17
  go_wp2
  go_ret
  exact ⟨by first|rfl|(simp;done)|(simp [*];done),zdw⟩

/-! ### laws_szIntS: function 18 -/
def laws_szIntS.f (l0:List Int) (a1:Int):Option (Int):=if (wrap64 (a1 - (l0.length:Int))) < 0 then (some (-1)) else (some (wrap64 (a1 - (l0.length:Int))))
set_option maxHeartbeats 8000000 in
set_option maxRecDepth 100000 in
theorem laws_szIntS.calls (A0:Option Addr) (c0:Nat) (l0:List Int) (a1:Int) (r:Int) (w:World) (hr0:Kd.C (Kd.int .i64) w A0 l0.length l0) (hc0:l0.length≤c0) (h:laws_szIntS.f l0 a1=some r) :
  Calls Try.prog 18 #[.slice A0 l0.length c0,.int .i64 a1] w fun e w'=>e=.returned (.int .i64 r)∧Drawn0 w w':=by
 have HR0:=Aside0.mk hr0
 have HC0:=Aside0.mk hc0
 clear hr0 hc0
 have H:(if (wrap64 (a1 - (l0.length:Int))) < 0 then (some (-1)) else (some (wrap64 (a1 - (l0.length:Int)))))=some r:=h
 clear h
 by_cases c3:(wrap64 (a1 - (l0.length:Int))) < 0
 ·rw [if_pos c3] at H
  have c3b0:decide ((wrap64 (a1 - (l0.length:Int))) < 0)=true:=decide_eq_true c3
  clear c3
  obtain rfl:=Option.some.inj H
  go_enter Try.func18,Try.ntmps18
  go_wp2
  go_ret
  exact ⟨by first|rfl|(simp;done)|(simp [*];done),zdw⟩
 ·rw [if_neg c3] at H
  have c3b0:decide ((wrap64 (a1 - (l0.length:Int))) < 0)=false:=decide_eq_false c3
  clear c3
  obtain rfl:=Option.some.inj H
  go_enter Try.func18,Try.ntmps18
  go_wp2
  go_ret
  exact ⟨by first|rfl|(simp;done)|(simp [*];done),zdw⟩


/-! ### laws_toIntS: function 15 -/
def laws_toIntS.l0:Nat→List Int→List Int→Int→Option (List Int)
 | 0,_,_,_=>none
 | k + 1,x0,x3,x4=>if x4 < (x0.length:Int) then (if 0≤x4 then (if x4 < (x3.length:Int) then (laws_toIntS.l0 k x0 (x3.set (x4:Int).toNat (rd x0 x4)) (wrap64 (x4 + 1))) else (none)) else (none)) else (some x3)
def laws_toIntS.f (k:Nat) (l0:List Int):Option (List Int):=if 0≤(l0.length:Int) then (if ((l0.length:Int):Int).toNat≤35184372088832 then (laws_toIntS.l0 k l0 (List.replicate ((l0.length:Int):Int).toNat 0) 0) else (none)) else (none)
theorem laws_toIntS.mono_l : ∀ k,(∀ y0 y1 y2,LeO (laws_toIntS.l0 k y0 y1 y2) (laws_toIntS.l0 (k + 1) y0 y1 y2))
 | 0=>fun _ _ _ r h=>by simp [laws_toIntS.l0] at h
 | k + 1=>by
  have ih0:=laws_toIntS.mono_l k
  ·intro y0 y1 y2
   unfold laws_toIntS.l0
   repeat' first
   | (with_reducible exact ih0 _ _ _)
   | (with_reducible exact LeO.refl _)
   | (with_reducible exact LeO.none _)
   | (with_reducible refine LeO.ite ?_ ?_)
   | (with_reducible refine LeO.bind ?_ (fun _=>?_))
   | exact LeO.none _
   | refine LeO.ite ?_ ?_
   | refine LeO.bind ?_ (fun _=>?_)
theorem laws_toIntS.mono : ∀ a0 k,LeO (laws_toIntS.f k a0) (laws_toIntS.f (k + 1) a0):=by
 intro a0 k
 have ih0:=laws_toIntS.mono_l k
 unfold laws_toIntS.f
 repeat' first
   | (with_reducible exact ih0 _ _ _)
   | (with_reducible exact LeO.refl _)
   | (with_reducible exact LeO.none _)
   | (with_reducible refine LeO.ite ?_ ?_)
   | (with_reducible refine LeO.bind ?_ (fun _=>?_))
   | exact LeO.none _
   | refine LeO.ite ?_ ?_
   | refine LeO.bind ?_ (fun _=>?_)
set_option maxHeartbeats 8000000 in
set_option maxRecDepth 100000 in
theorem laws_toIntS.calls (k:Nat) (A0:Option Addr) (c0:Nat) (l0:List Int) (r:List Int) (w:World) (hr0:Kd.C (Kd.int .i64) w A0 l0.length l0) (hc0:l0.length≤c0) (h:laws_toIntS.f k l0=some r) :
  Calls Try.prog 15 #[.slice A0 l0.length c0] w fun e w'=>∃ v0_:Value,e=.returned (v0_)∧Kd.R (Kd.int .i64) 3 w' w.heap.size (fun _=>True) v0_ r∧Below w.heap.size w w':=by
 have HR0:=Aside0.mk hr0
 have HC0:=Aside0.mk hc0
 clear hr0 hc0
 have HB:=Aside0.mk (Below.refl w.heap.size w)
 have H:(if 0≤(l0.length:Int) then (if ((l0.length:Int):Int).toNat≤35184372088832 then (laws_toIntS.l0 k l0 (List.replicate ((l0.length:Int):Int).toNat 0) 0) else (none)) else (none))=some r:=h
 clear h
 by_cases c2:0≤(l0.length:Int)
 ·rw [if_pos c2] at H
  have c2b0:=eq_true c2
  have c2b1:decide (0≤(l0.length:Int))=true:=decide_eq_true c2
  clear c2
  by_cases c3:((l0.length:Int):Int).toNat≤35184372088832
  ·rw [if_pos c3] at H
   have c3b0:=eq_true c3
   have c3b1:decide (((l0.length:Int):Int).toNat≤35184372088832)=true:=decide_eq_true c3
   clear c3
   obtain ⟨y107,hy107⟩ : ∃ y_:List Int,y_=(List.replicate ((l0.length:Int):Int).toNat 0):=⟨_,rfl⟩
   replace H:(laws_toIntS.l0 k l0 y107 0)=some r:=by first|(rw [hy107];with_reducible exact H)|(have H2_:=(Option.bind_some _ _).symm.trans H;rw [hy107];with_reducible exact H2_)|(have H2_:=(Option.bind_some _ _).symm.trans H;with_reducible exact H2_)|with_reducible exact H|(rw [hy107];exact H)|exact H
   have Ny107:=Aside0.mk hy107
   clear hy107
   have H':=Aside0.mk H
   clear H
   go_enter Try.func15,Try.ntmps15
   go_wp2_with (first|((with_reducible refine gate_dst (N:=7) rfl ?_);refine Kd.R_make (Kd.int .i64) _ 3 rfl (N:=7) rfl 27 _ _ rfl (l0.length:Int) rfl rfl Try.underlying27 (.int .i64 0) 8 info3 rfl (by decide) (by omega) 0 (ok:=fun _=>True) (okp:=fun _=>True) rfl (fun _ hk=>hk) trivial (zod) (Nat.le_trans (Nat.mul_le_mul_right _ (zod:(l0.length:Int).toNat≤35184372088832)) (by omega)) (Below.refl _ _) (Nat.le_refl _) ?_;intro v108 w4 ho5 hb hg_ hnew_;clear hg_ hnew_;(first|rw [← Ny107.out] at ho5|(simp only [Int.reduceToNat] at ho5;rw [← Ny107.out] at ho5));have n0_:=Aside0.mk (Kd.R_lower ho5 (below_size zhb));have n1_:=Aside0.mk (below_step zhb hb);clear HB;have HO109:=n0_;have HB:=n1_;clear n0_ n1_;clear hb ho5))
   go_loopg [4] k (fun kq v4 w'=>∃ (x3_1:List Int) (x4_1:Int),v4=.int .i64 x4_1∧Aside0 (laws_toIntS.l0 kq l0 x3_1 x4_1=some r)∧Aside0 (kq≤k)∧Aside0 (Kd.R (Kd.int .i64) 3 w' w.heap.size (fun _=>True) v108 x3_1)∧Aside0 (Below w.heap.size w w'))
   case atStart=>exact ⟨(y107),(0),(by first|rfl|(simp;done)|(simp [*];done)),H',⟨Nat.le_refl _⟩,⟨by (with_reducible repeat (first|apply Kd.R_alloc|apply Kd.R_drewN|apply Kd.R_drew));exact HO109.out⟩,⟨zhb⟩⟩
   case round =>
    clear H'
    try clear c1
    try clear c2
    try clear c2b0
    try clear c2b1
    try clear p2
    try clear c3
    try clear c3b0
    try clear c3b1
    obtain ⟨x3_1,x4_1,rfl,HA,HK1,HO_3,HB⟩:=hrel
    cases gk with
    | zero=>exact absurd HA.out (by simp [laws_toIntS.l0])
    | succ k1 =>
     have H:=HA.out
     clear HA
     simp only [laws_toIntS.l0] at H
     by_cases c6:x4_1 < (l0.length:Int)
     ·rw [if_pos c6] at H
      have c6b0:decide (x4_1 < (l0.length:Int))=true:=decide_eq_true c6
      clear c6
      by_cases c7:0≤x4_1
      ·rw [if_pos c7] at H
       have c7b0:decide (0≤x4_1)=true:=decide_eq_true c7
       clear c7
       by_cases c8:x4_1 < (x3_1.length:Int)
       ·rw [if_pos c8] at H
        have c8b0:decide (x4_1 < (x3_1.length:Int))=true:=decide_eq_true c8
        clear c8
        obtain ⟨y111,hy111⟩ : ∃ y_:List Int,y_=(x3_1.set (x4_1:Int).toNat (rd l0 x4_1)):=⟨_,rfl⟩
        replace H:(laws_toIntS.l0 k1 l0 y111 (wrap64 (x4_1 + 1)))=some r:=by first|(rw [hy111];with_reducible exact H)|(have H2_:=(Option.bind_some _ _).symm.trans H;rw [hy111];with_reducible exact H2_)|(have H2_:=(Option.bind_some _ _).symm.trans H;with_reducible exact H2_)|with_reducible exact H|(rw [hy111];exact H)|exact H
        have Ny111:=Aside0.mk hy111
        clear hy111
        have H':=Aside0.mk H
        clear H
        have p110:0≤(x4_1:Int):=zod
        have q110:x4_1 < (l0.length:Int):=zod
        obtain ⟨ad110,e110,hx110_0⟩:=Kd.at_int HR0.out x4_1 p110 q110
        cases e110
        replace hx110_0:=(HB.out.cell (World.block_lt_of_cell? w _ hx110_0)).trans hx110_0
        replace p110:=eq_true p110
        replace q110:=eq_true q110
        have p9:0≤(x4_1:Int):=zod
        have q9:(x4_1:Int) < ((x3_1.length:Int):Int):=zod
        obtain ⟨go9,co9,eo9,gb9,gl9,cl9,HG9⟩:=Kd.R_form HO_3.out (by omega)
        (first|cases eo9|(injection eo9 with ea_ en_ ec_;(first|subst ea_|(injection ea_ with ea_;subst ea_));subst ec_;clear en_))
        have GB9:=Aside0.mk gb9
        have GG9:=Aside0.mk HG9
        clear gb9 gl9 HG9
        obtain ⟨hx9_0,hf9_0⟩:=Kd.R_celln 0 HO_3.out (x4_1:Int) p9 q9
        replace p9:=eq_true p9
        replace q9:=eq_true q9
        have HP10:=Kd.R_putg HO_3.out (x4_1:Int) (rd l0 x4_1)
        go_wp2_with (first|((with_reducible refine gate_store (t:=3) (p:=20) rfl ?_);refine store_event (t:=3) (p:=20) (v:=?vo_w11) (w1:=(wr.setCell ⟨go9,(x4_1:Int).toNat,none⟩ (.int .i64 (rd l0 x4_1)))) ?hg ?ho ?hn ?hr ?_;(case ho=>rfl);(case hg=>rfl);(case hn=>rfl);(case hr=>first|(go_simp;done)|(go_simp;rfl));intro w11 hw;have hg:wr.grownBy w11 (some go9):=(by rw [hw];exact HP10.2);have hp_:Kd.R (Kd.int .i64) 3 w11 w.heap.size (fun _=>True) (.slice (some ⟨go9,0,none⟩) x3_1.length co9) y111:=(by rw [hw,Ny111.out];exact HP10.1);clear HP10;have n0_:=Aside0.mk (hp_);have n1_:=Aside0.mk ((by rw [hw];exact below_set (HB.out) GB9.out:Below w.heap.size w w11));clear HO_3;clear HB;have HO_3:=n0_;have HB:=n1_;clear n0_ n1_;clear hg hw hp_))
        go_roundg k1
        case measure=>have:=HK1.out;omega
        case rel=>exact ⟨(y111),(wrap64 (x4_1 + 1)),(by first|rfl|(simp;done)|(simp [*];done)),H',⟨by have:=HK1.out;omega⟩,⟨by (with_reducible repeat (first|apply Kd.R_alloc|apply Kd.R_drewN|apply Kd.R_drew));exact HO_3.out⟩,⟨zhb⟩⟩
       ·rw [if_neg c8] at H
        exact absurd H (by simp)
      ·rw [if_neg c7] at H
       exact absurd H (by simp)
     ·rw [if_neg c6] at H
      have c6b0:decide (x4_1 < (l0.length:Int))=false:=decide_eq_false c6
      clear c6
      obtain rfl:=Option.some.inj H
      go_wp2
      go_ret
      exact ⟨_,by first|rfl|(simp [errW_none,errW_some] <;> rfl)|(simp [*,errW_none,errW_some] <;> rfl),by (with_reducible repeat (first|apply Kd.R_alloc|apply Kd.R_drewN|apply Kd.R_drew));exact HO_3.out,zhb⟩
  ·rw [if_neg c3] at H
   exact absurd H (by simp)
 ·rw [if_neg c2] at H
  exact absurd H (by simp)

/-! ### laws_toCell: function 42 -/
def laws_toCell.f (a0_0:Int) (a0_1:Int) (a0_2:Int) (a0_3:Int):Option (Int × Int × Int × Int):=some (a0_0,a0_1,a0_2,a0_3)
set_option maxHeartbeats 8000000 in
set_option maxRecDepth 100000 in
theorem laws_toCell.calls (a0_0:Int) (a0_1:Int) (a0_2:Int) (a0_3:Int) (r1:Int) (r2:Int) (r3:Int) (r4:Int) (w:World) (h:laws_toCell.f a0_0 a0_1 a0_2 a0_3=some (r1,r2,r3,r4)) :
  Calls Try.prog 42 #[.agg #[.int .i64 a0_0,.int .i64 a0_1,.int .i64 a0_2,.int .i64 a0_3]] w fun e w'=>e=.returned (.agg #[.int .i64 r1,.int .i64 r2,.int .i64 r3,.int .i64 r4])∧Below w.heap.size w w':=by
 have hu23:=Try.underlying23
 have hu33:=Try.underlying33
 have HB:=Aside0.mk (Below.refl w.heap.size w)
 have H:(some (a0_0,a0_1,a0_2,a0_3))=some (r1,r2,r3,r4):=h
 clear h
 simp only [Option.some.injEq,Prod.mk.injEq] at H
 obtain ⟨rfl,rfl,rfl,rfl⟩:=H
 go_enter Try.func42,Try.ntmps42
 go_wp2_with (first|((with_reducible refine gate_dst (N:=1) rfl ?_);refine box_event ?hg (N:=1) ?hd (cs:=#[.int .i64 a0_0,.int .i64 a0_1,.int .i64 a0_2,.int .i64 a0_3]) (t:=23) ?hr ?_;(case hd=>rfl);(case hg=>rfl);(case hr=>first|(go_simp;done)|(go_simp;rfl));intro gb112 hg w2 hbox hb;have n0_:=Aside0.mk (below_step zhb hb);have n1_:=Aside0.mk (hbox);have n2_:=Aside0.mk ((by rw [hg];exact (below_size zhb):w.heap.size≤gb112));have n3_:=Aside0.mk ((by rw [hg];exact (below_size zhb):w.heap.size≤gb112));clear HB;have HB:=n0_;have BK112:=n1_;have GW112:=n2_;have GE112:=n3_;clear n0_ n1_ n2_ n3_;clear hb hbox hg)|((with_reducible refine gate_dst (N:=2) rfl ?_);refine box_event ?hg (N:=2) ?hd (cs:=#[.int .i64 0,.int .i64 0,.int .i64 0,.int .i64 0]) (t:=33) ?hr ?_;(case hd=>rfl);(case hg=>rfl);(case hr=>first|(go_simp;done)|(go_simp;rfl));intro gb113 hg w3 hbox hb;have n0_:=Aside0.mk (blk_below (g:=gb112) (o:=.cells #[.int .i64 a0_0,.int .i64 a0_1,.int .i64 a0_2,.int .i64 a0_3] 23 (0,0)) (by (with_reducible repeat (first|refine blk_drewN ?_ _|refine blk_drew ?_|refine blk_alloc ?_ _));exact BK112.out) hb);have n1_:=Aside0.mk (below_step (by repeat (first|(with_reducible first|exact HB.out|apply below_alloc|apply pw_below_drewN|apply below_drew1|refine below_set ?_ GE112.out)|exact HB.out)) hb);have n2_:=Aside0.mk (hbox);have n3_:=Aside0.mk ((by rw [hg];exact (below_size (by repeat (first|(with_reducible first|exact HB.out|apply below_alloc|apply pw_below_drewN|apply below_drew1|refine below_set ?_ GE112.out)|exact HB.out))):w.heap.size≤gb113));have n4_:=Aside0.mk ((by rw [hg];exact (below_size (by repeat (first|(with_reducible first|exact HB.out|apply below_alloc|apply pw_below_drewN|apply below_drew1|refine below_set ?_ GE112.out)|exact HB.out))):w.heap.size≤gb113));have n5_:=Aside0.mk ((by rw [hg];exact Nat.ne_of_lt (blk_lt (g:=gb112) (o:=.cells #[.int .i64 a0_0,.int .i64 a0_1,.int .i64 a0_2,.int .i64 a0_3] 23 (0,0)) (by (with_reducible repeat (first|refine blk_drewN ?_ _|refine blk_drew ?_|refine blk_alloc ?_ _));exact BK112.out)):gb112≠gb113));have n6_:=Aside0.mk ((by rw [hg];exact Nat.ne_of_gt (blk_lt (g:=gb112) (o:=.cells #[.int .i64 a0_0,.int .i64 a0_1,.int .i64 a0_2,.int .i64 a0_3] 23 (0,0)) (by (with_reducible repeat (first|refine blk_drewN ?_ _|refine blk_drew ?_|refine blk_alloc ?_ _));exact BK112.out)):gb113≠gb112));clear BK112;clear HB;have BK112:=n0_;have HB:=n1_;have BK113:=n2_;have GW113:=n3_;have GE113:=n4_;have NB112_113:=n5_;have NB113_112:=n6_;clear n0_ n1_ n2_ n3_ n4_ n5_ n6_;clear hb hbox hg)|((with_reducible refine gate_dst (N:=3) rfl ?_);refine box_event ?hg (N:=3) ?hd (cs:=#[.int .i64 0,.int .i64 0,.int .i64 0,.int .i64 0]) (t:=33) ?hr ?_;(case hd=>rfl);(case hg=>rfl);(case hr=>first|(go_simp;done)|(go_simp;rfl));intro gb114 hg w4 hbox hb;have n0_:=Aside0.mk (blk_below (g:=gb112) (o:=.cells #[.int .i64 a0_0,.int .i64 a0_1,.int .i64 a0_2,.int .i64 a0_3] 23 (0,0)) (by (with_reducible repeat (first|refine blk_drewN ?_ _|refine blk_drew ?_|refine blk_alloc ?_ _));exact BK112.out) hb);have n1_:=Aside0.mk (blk_below (g:=gb113) (o:=.cells #[.int .i64 0,.int .i64 0,.int .i64 0,.int .i64 0] 33 (0,0)) (by (with_reducible repeat (first|refine blk_drewN ?_ _|refine blk_drew ?_|refine blk_alloc ?_ _));exact BK113.out) hb);have n2_:=Aside0.mk (below_step (by repeat (first|(with_reducible first|exact HB.out|apply below_alloc|apply pw_below_drewN|apply below_drew1|refine below_set ?_ GE112.out|refine below_set ?_ GE113.out)|exact HB.out)) hb);have n3_:=Aside0.mk (hbox);have n4_:=Aside0.mk ((by rw [hg];exact (below_size (by repeat (first|(with_reducible first|exact HB.out|apply below_alloc|apply pw_below_drewN|apply below_drew1|refine below_set ?_ GE112.out|refine below_set ?_ GE113.out)|exact HB.out))):w.heap.size≤gb114));have n5_:=Aside0.mk ((by rw [hg];exact (below_size (by repeat (first|(with_reducible first|exact HB.out|apply below_alloc|apply pw_below_drewN|apply below_drew1|refine below_set ?_ GE112.out|refine below_set ?_ GE113.out)|exact HB.out))):w.heap.size≤gb114));have n6_:=Aside0.mk ((by rw [hg];exact Nat.ne_of_lt (blk_lt (g:=gb112) (o:=.cells #[.int .i64 a0_0,.int .i64 a0_1,.int .i64 a0_2,.int .i64 a0_3] 23 (0,0)) (by (with_reducible repeat (first|refine blk_drewN ?_ _|refine blk_drew ?_|refine blk_alloc ?_ _));exact BK112.out)):gb112≠gb114));have n7_:=Aside0.mk ((by rw [hg];exact Nat.ne_of_gt (blk_lt (g:=gb112) (o:=.cells #[.int .i64 a0_0,.int .i64 a0_1,.int .i64 a0_2,.int .i64 a0_3] 23 (0,0)) (by (with_reducible repeat (first|refine blk_drewN ?_ _|refine blk_drew ?_|refine blk_alloc ?_ _));exact BK112.out)):gb114≠gb112));have n8_:=Aside0.mk ((by rw [hg];exact Nat.ne_of_lt (blk_lt (g:=gb113) (o:=.cells #[.int .i64 0,.int .i64 0,.int .i64 0,.int .i64 0] 33 (0,0)) (by (with_reducible repeat (first|refine blk_drewN ?_ _|refine blk_drew ?_|refine blk_alloc ?_ _));exact BK113.out)):gb113≠gb114));have n9_:=Aside0.mk ((by rw [hg];exact Nat.ne_of_gt (blk_lt (g:=gb113) (o:=.cells #[.int .i64 0,.int .i64 0,.int .i64 0,.int .i64 0] 33 (0,0)) (by (with_reducible repeat (first|refine blk_drewN ?_ _|refine blk_drew ?_|refine blk_alloc ?_ _));exact BK113.out)):gb114≠gb113));clear BK112;clear BK113;clear HB;have BK112:=n0_;have BK113:=n1_;have HB:=n2_;have BK114:=n3_;have GW114:=n4_;have GE114:=n5_;have NB112_114:=n6_;have NB114_112:=n7_;have NB113_114:=n8_;have NB114_113:=n9_;clear n0_ n1_ n2_ n3_ n4_ n5_ n6_ n7_ n8_ n9_;clear hb hbox hg;have hnb5:=NB112_113.out;have hnc5:=NB113_112.out;have hnb6:=NB112_114.out;have hnc6:=NB114_112.out;have hcz7_0:w4.cell? ⟨gb112,0,none⟩=some (.int .i64 a0_0):=(blk_cell BK112.out 0).trans rfl;have hcz7_1:w4.cell? ⟨gb112,1,none⟩=some (.int .i64 a0_1):=(blk_cell BK112.out 1).trans rfl;have hcz7_2:w4.cell? ⟨gb112,2,none⟩=some (.int .i64 a0_2):=(blk_cell BK112.out 2).trans rfl;have hcz7_3:w4.cell? ⟨gb112,3,none⟩=some (.int .i64 a0_3):=(blk_cell BK112.out 3).trans rfl;have hfz7_0:=blk_frozen BK112.out 0;have hfz7_1:=blk_frozen BK112.out 1;have hfz7_2:=blk_frozen BK112.out 2;have hfz7_3:=blk_frozen BK112.out 3;have hnb8:=NB114_113.out;have hnc8:=NB113_114.out;have hcz9_0:w4.cell? ⟨gb114,0,none⟩=some (.int .i64 0):=(blk_cell BK114.out 0).trans rfl;have hcz9_1:w4.cell? ⟨gb114,1,none⟩=some (.int .i64 0):=(blk_cell BK114.out 1).trans rfl;have hcz9_2:w4.cell? ⟨gb114,2,none⟩=some (.int .i64 0):=(blk_cell BK114.out 2).trans rfl;have hcz9_3:w4.cell? ⟨gb114,3,none⟩=some (.int .i64 0):=(blk_cell BK114.out 3).trans rfl;have hfz9_0:=blk_frozen BK114.out 0;have hfz9_1:=blk_frozen BK114.out 1;have hfz9_2:=blk_frozen BK114.out 2;have hfz9_3:=blk_frozen BK114.out 3;have hcz10_0:w4.cell? ⟨gb113,0,none⟩=some (.int .i64 0):=(blk_cell BK113.out 0).trans rfl;have hcz10_1:w4.cell? ⟨gb113,1,none⟩=some (.int .i64 0):=(blk_cell BK113.out 1).trans rfl;have hcz10_2:w4.cell? ⟨gb113,2,none⟩=some (.int .i64 0):=(blk_cell BK113.out 2).trans rfl;have hcz10_3:w4.cell? ⟨gb113,3,none⟩=some (.int .i64 0):=(blk_cell BK113.out 3).trans rfl;have hfz10_0:=blk_frozen BK113.out 0;have hfz10_1:=blk_frozen BK113.out 1;have hfz10_2:=blk_frozen BK113.out 2;have hfz10_3:=blk_frozen BK113.out 3))
 refine bodyPost_ret (results_cell_row rfl _ _ gb113 33 #[.int .i64 a0_0,.int .i64 a0_1,.int .i64 a0_2,.int .i64 a0_3] (0,0) _ rfl (by (with_reducible repeat (first|refine blk_drewN ?_ _|refine blk_drew ?_|refine blk_alloc ?_ _));refine blk_put (cs:=#[.int .i64 a0_0,.int .i64 a0_1,.int .i64 a0_2,.int .i64 0]) ?_ 3 _ rfl;(with_reducible repeat (first|refine blk_drewN ?_ _|refine blk_drew ?_|refine blk_alloc ?_ _));refine blk_put (cs:=#[.int .i64 a0_0,.int .i64 a0_1,.int .i64 0,.int .i64 0]) ?_ 2 _ rfl;(with_reducible repeat (first|refine blk_drewN ?_ _|refine blk_drew ?_|refine blk_alloc ?_ _));refine blk_put (cs:=#[.int .i64 a0_0,.int .i64 0,.int .i64 0,.int .i64 0]) ?_ 1 _ rfl;(with_reducible repeat (first|refine blk_drewN ?_ _|refine blk_drew ?_|refine blk_alloc ?_ _));refine blk_put (cs:=#[.int .i64 0,.int .i64 0,.int .i64 0,.int .i64 0]) ?_ 0 _ rfl;(with_reducible repeat (first|refine blk_drewN ?_ _|refine blk_drew ?_|refine blk_alloc ?_ _));refine blk_far ?_ NB113_114.out _;(with_reducible repeat (first|refine blk_drewN ?_ _|refine blk_drew ?_|refine blk_alloc ?_ _));refine blk_far ?_ NB113_114.out _;(with_reducible repeat (first|refine blk_drewN ?_ _|refine blk_drew ?_|refine blk_alloc ?_ _));refine blk_far ?_ NB113_114.out _;(with_reducible repeat (first|refine blk_drewN ?_ _|refine blk_drew ?_|refine blk_alloc ?_ _));refine blk_far ?_ NB113_114.out _;(with_reducible repeat (first|refine blk_drewN ?_ _|refine blk_drew ?_|refine blk_alloc ?_ _));exact BK113.out) Try.underlying33 rfl (by kernel_rfl)) rfl ?_
 exact ⟨by first|rfl|(simp [errW_none,errW_some] <;> rfl)|(simp [*,errW_none,errW_some] <;> rfl),by repeat (first|(with_reducible first|exact HB.out|apply below_alloc|apply pw_below_drewN|apply below_drew1|refine below_set ?_ GE112.out|refine below_set ?_ GE113.out|refine below_set ?_ GE114.out)|exact HB.out)⟩

/-! ### laws_toTest: function 21 -/
def laws_toTest.f (a0_0:Int) (a0_1:Bool) (a0_2:Int) (a0_3:Int) (a0_4:Int) (a0_5:Int) (a0_6:Int) (a0_7:Int) (a0_8:Int) (a0_9:Int):Option (Int × Bool × Int × Int × Int × Int × Int × Int × Int × Int):=(laws_toCell.f a0_2 a0_3 a0_4 a0_5).bind fun bt118=>((laws_toCell.f a0_6 a0_7 a0_8 a0_9).bind fun bt122=>(some (a0_0,a0_1,bt118.1,bt118.2.1,bt118.2.2.1,bt118.2.2.2,bt122.1,bt122.2.1,bt122.2.2.1,bt122.2.2.2)))
set_option maxHeartbeats 8000000 in
set_option maxRecDepth 100000 in
theorem laws_toTest.calls (a0_0:Int) (a0_1:Bool) (a0_2:Int) (a0_3:Int) (a0_4:Int) (a0_5:Int) (a0_6:Int) (a0_7:Int) (a0_8:Int) (a0_9:Int) (r1:Int) (r2:Bool) (r3:Int) (r4:Int) (r5:Int) (r6:Int) (r7:Int) (r8:Int) (r9:Int) (r10:Int) (w:World) (h:laws_toTest.f a0_0 a0_1 a0_2 a0_3 a0_4 a0_5 a0_6 a0_7 a0_8 a0_9=some (r1,r2,r3,r4,r5,r6,r7,r8,r9,r10)) :
  Calls Try.prog 21 #[.agg #[.int .i64 a0_0,.bool a0_1,.int .i64 a0_2,.int .i64 a0_3,.int .i64 a0_4,.int .i64 a0_5,.int .i64 a0_6,.int .i64 a0_7,.int .i64 a0_8,.int .i64 a0_9]] w fun e w'=>e=.returned (.agg #[.int .i64 r1,.bool r2,.int .i64 r3,.int .i64 r4,.int .i64 r5,.int .i64 r6,.int .i64 r7,.int .i64 r8,.int .i64 r9,.int .i64 r10])∧Below w.heap.size w w':=by
 have hu25:=Try.underlying25
 have hu35:=Try.underlying35
 have hu23:=Try.underlying23
 have hu33:=Try.underlying33
 have HB:=Aside0.mk (Below.refl w.heap.size w)
 have H:((laws_toCell.f a0_2 a0_3 a0_4 a0_5).bind fun bt118=>((laws_toCell.f a0_6 a0_7 a0_8 a0_9).bind fun bt122=>(some (a0_0,a0_1,bt118.1,bt118.2.1,bt118.2.2.1,bt118.2.2.2,bt122.1,bt122.2.1,bt122.2.2.1,bt122.2.2.2))))=some (r1,r2,r3,r4,r5,r6,r7,r8,r9,r10):=h
 clear h
 replace H:=Option.bind_eq_some_iff.mp H
 obtain ⟨⟨t118,t119,t120,t121⟩,A20,H⟩:=H
 (try dsimp only at H)
 have A2:=Aside0.mk A20
 clear A20
 replace H:=Option.bind_eq_some_iff.mp H
 obtain ⟨⟨t122,t123,t124,t125⟩,A30,H⟩:=H
 (try dsimp only at H)
 have A3:=Aside0.mk A30
 clear A30
 simp only [Option.some.injEq,Prod.mk.injEq] at H
 obtain ⟨rfl,rfl,rfl,rfl,rfl,rfl,rfl,rfl,rfl,rfl⟩:=H
 go_enter Try.func21,Try.ntmps21
 go_wp2_with (first|((with_reducible refine gate_dst (N:=1) rfl ?_);refine box_event ?hg (N:=1) ?hd (cs:=#[.int .i64 a0_0,.bool a0_1,.int .i64 a0_2,.int .i64 a0_3,.int .i64 a0_4,.int .i64 a0_5,.int .i64 a0_6,.int .i64 a0_7,.int .i64 a0_8,.int .i64 a0_9]) (t:=25) ?hr ?_;(case hd=>rfl);(case hg=>rfl);(case hr=>first|(go_simp;done)|(go_simp;rfl));intro gb115 hg w4 hbox hb;have n0_:=Aside0.mk (below_step zhb hb);have n1_:=Aside0.mk (hbox);have n2_:=Aside0.mk ((by rw [hg];exact (below_size zhb):w.heap.size≤gb115));have n3_:=Aside0.mk ((by rw [hg];exact (below_size zhb):w.heap.size≤gb115));clear HB;have HB:=n0_;have BK115:=n1_;have GW115:=n2_;have GE115:=n3_;clear n0_ n1_ n2_ n3_;clear hb hbox hg)|((with_reducible refine gate_dst (N:=2) rfl ?_);refine box_event ?hg (N:=2) ?hd (cs:=#[.int .i64 0,.bool false,.int .i64 0,.int .i64 0,.int .i64 0,.int .i64 0,.int .i64 0,.int .i64 0,.int .i64 0,.int .i64 0]) (t:=35) ?hr ?_;(case hd=>rfl);(case hg=>rfl);(case hr=>first|(go_simp;done)|(go_simp;rfl));intro gb116 hg w5 hbox hb;have n0_:=Aside0.mk (blk_below (g:=gb115) (o:=.cells #[.int .i64 a0_0,.bool a0_1,.int .i64 a0_2,.int .i64 a0_3,.int .i64 a0_4,.int .i64 a0_5,.int .i64 a0_6,.int .i64 a0_7,.int .i64 a0_8,.int .i64 a0_9] 25 (0,0)) (by (with_reducible repeat (first|refine blk_drewN ?_ _|refine blk_drew ?_|refine blk_alloc ?_ _));exact BK115.out) hb);have n1_:=Aside0.mk (below_step (by repeat (first|(with_reducible first|exact HB.out|apply below_alloc|apply pw_below_drewN|apply below_drew1|refine below_set ?_ GE115.out)|exact HB.out)) hb);have n2_:=Aside0.mk (hbox);have n3_:=Aside0.mk ((by rw [hg];exact (below_size (by repeat (first|(with_reducible first|exact HB.out|apply below_alloc|apply pw_below_drewN|apply below_drew1|refine below_set ?_ GE115.out)|exact HB.out))):w.heap.size≤gb116));have n4_:=Aside0.mk ((by rw [hg];exact (below_size (by repeat (first|(with_reducible first|exact HB.out|apply below_alloc|apply pw_below_drewN|apply below_drew1|refine below_set ?_ GE115.out)|exact HB.out))):w.heap.size≤gb116));have n5_:=Aside0.mk ((by rw [hg];exact Nat.ne_of_lt (blk_lt (g:=gb115) (o:=.cells #[.int .i64 a0_0,.bool a0_1,.int .i64 a0_2,.int .i64 a0_3,.int .i64 a0_4,.int .i64 a0_5,.int .i64 a0_6,.int .i64 a0_7,.int .i64 a0_8,.int .i64 a0_9] 25 (0,0)) (by (with_reducible repeat (first|refine blk_drewN ?_ _|refine blk_drew ?_|refine blk_alloc ?_ _));exact BK115.out)):gb115≠gb116));have n6_:=Aside0.mk ((by rw [hg];exact Nat.ne_of_gt (blk_lt (g:=gb115) (o:=.cells #[.int .i64 a0_0,.bool a0_1,.int .i64 a0_2,.int .i64 a0_3,.int .i64 a0_4,.int .i64 a0_5,.int .i64 a0_6,.int .i64 a0_7,.int .i64 a0_8,.int .i64 a0_9] 25 (0,0)) (by (with_reducible repeat (first|refine blk_drewN ?_ _|refine blk_drew ?_|refine blk_alloc ?_ _));exact BK115.out)):gb116≠gb115));clear BK115;clear HB;have BK115:=n0_;have HB:=n1_;have BK116:=n2_;have GW116:=n3_;have GE116:=n4_;have NB115_116:=n5_;have NB116_115:=n6_;clear n0_ n1_ n2_ n3_ n4_ n5_ n6_;clear hb hbox hg)|((with_reducible refine gate_dst (N:=3) rfl ?_);refine box_event ?hg (N:=3) ?hd (cs:=#[.int .i64 0,.bool false,.int .i64 0,.int .i64 0,.int .i64 0,.int .i64 0,.int .i64 0,.int .i64 0,.int .i64 0,.int .i64 0]) (t:=35) ?hr ?_;(case hd=>rfl);(case hg=>rfl);(case hr=>first|(go_simp;done)|(go_simp;rfl));intro gb117 hg w6 hbox hb;have n0_:=Aside0.mk (blk_below (g:=gb115) (o:=.cells #[.int .i64 a0_0,.bool a0_1,.int .i64 a0_2,.int .i64 a0_3,.int .i64 a0_4,.int .i64 a0_5,.int .i64 a0_6,.int .i64 a0_7,.int .i64 a0_8,.int .i64 a0_9] 25 (0,0)) (by (with_reducible repeat (first|refine blk_drewN ?_ _|refine blk_drew ?_|refine blk_alloc ?_ _));exact BK115.out) hb);have n1_:=Aside0.mk (blk_below (g:=gb116) (o:=.cells #[.int .i64 0,.bool false,.int .i64 0,.int .i64 0,.int .i64 0,.int .i64 0,.int .i64 0,.int .i64 0,.int .i64 0,.int .i64 0] 35 (0,0)) (by (with_reducible repeat (first|refine blk_drewN ?_ _|refine blk_drew ?_|refine blk_alloc ?_ _));exact BK116.out) hb);have n2_:=Aside0.mk (below_step (by repeat (first|(with_reducible first|exact HB.out|apply below_alloc|apply pw_below_drewN|apply below_drew1|refine below_set ?_ GE115.out|refine below_set ?_ GE116.out)|exact HB.out)) hb);have n3_:=Aside0.mk (hbox);have n4_:=Aside0.mk ((by rw [hg];exact (below_size (by repeat (first|(with_reducible first|exact HB.out|apply below_alloc|apply pw_below_drewN|apply below_drew1|refine below_set ?_ GE115.out|refine below_set ?_ GE116.out)|exact HB.out))):w.heap.size≤gb117));have n5_:=Aside0.mk ((by rw [hg];exact (below_size (by repeat (first|(with_reducible first|exact HB.out|apply below_alloc|apply pw_below_drewN|apply below_drew1|refine below_set ?_ GE115.out|refine below_set ?_ GE116.out)|exact HB.out))):w.heap.size≤gb117));have n6_:=Aside0.mk ((by rw [hg];exact Nat.ne_of_lt (blk_lt (g:=gb115) (o:=.cells #[.int .i64 a0_0,.bool a0_1,.int .i64 a0_2,.int .i64 a0_3,.int .i64 a0_4,.int .i64 a0_5,.int .i64 a0_6,.int .i64 a0_7,.int .i64 a0_8,.int .i64 a0_9] 25 (0,0)) (by (with_reducible repeat (first|refine blk_drewN ?_ _|refine blk_drew ?_|refine blk_alloc ?_ _));exact BK115.out)):gb115≠gb117));have n7_:=Aside0.mk ((by rw [hg];exact Nat.ne_of_gt (blk_lt (g:=gb115) (o:=.cells #[.int .i64 a0_0,.bool a0_1,.int .i64 a0_2,.int .i64 a0_3,.int .i64 a0_4,.int .i64 a0_5,.int .i64 a0_6,.int .i64 a0_7,.int .i64 a0_8,.int .i64 a0_9] 25 (0,0)) (by (with_reducible repeat (first|refine blk_drewN ?_ _|refine blk_drew ?_|refine blk_alloc ?_ _));exact BK115.out)):gb117≠gb115));have n8_:=Aside0.mk ((by rw [hg];exact Nat.ne_of_lt (blk_lt (g:=gb116) (o:=.cells #[.int .i64 0,.bool false,.int .i64 0,.int .i64 0,.int .i64 0,.int .i64 0,.int .i64 0,.int .i64 0,.int .i64 0,.int .i64 0] 35 (0,0)) (by (with_reducible repeat (first|refine blk_drewN ?_ _|refine blk_drew ?_|refine blk_alloc ?_ _));exact BK116.out)):gb116≠gb117));have n9_:=Aside0.mk ((by rw [hg];exact Nat.ne_of_gt (blk_lt (g:=gb116) (o:=.cells #[.int .i64 0,.bool false,.int .i64 0,.int .i64 0,.int .i64 0,.int .i64 0,.int .i64 0,.int .i64 0,.int .i64 0,.int .i64 0] 35 (0,0)) (by (with_reducible repeat (first|refine blk_drewN ?_ _|refine blk_drew ?_|refine blk_alloc ?_ _));exact BK116.out)):gb117≠gb116));clear BK115;clear BK116;clear HB;have BK115:=n0_;have BK116:=n1_;have HB:=n2_;have BK117:=n3_;have GW117:=n4_;have GE117:=n5_;have NB115_117:=n6_;have NB117_115:=n7_;have NB116_117:=n8_;have NB117_116:=n9_;clear n0_ n1_ n2_ n3_ n4_ n5_ n6_ n7_ n8_ n9_;clear hb hbox hg;have hnb7:=NB115_116.out;have hnc7:=NB116_115.out;have hnb8:=NB115_117.out;have hnc8:=NB117_115.out;have hcz9_0:w6.cell? ⟨gb115,0,none⟩=some (.int .i64 a0_0):=(blk_cell BK115.out 0).trans rfl;have hcz9_1:w6.cell? ⟨gb115,1,none⟩=some (.bool a0_1):=(blk_cell BK115.out 1).trans rfl;have hcz9_2:w6.cell? ⟨gb115,2,none⟩=some (.int .i64 a0_2):=(blk_cell BK115.out 2).trans rfl;have hcz9_3:w6.cell? ⟨gb115,3,none⟩=some (.int .i64 a0_3):=(blk_cell BK115.out 3).trans rfl;have hcz9_4:w6.cell? ⟨gb115,4,none⟩=some (.int .i64 a0_4):=(blk_cell BK115.out 4).trans rfl;have hcz9_5:w6.cell? ⟨gb115,5,none⟩=some (.int .i64 a0_5):=(blk_cell BK115.out 5).trans rfl;have hcz9_6:w6.cell? ⟨gb115,6,none⟩=some (.int .i64 a0_6):=(blk_cell BK115.out 6).trans rfl;have hcz9_7:w6.cell? ⟨gb115,7,none⟩=some (.int .i64 a0_7):=(blk_cell BK115.out 7).trans rfl;have hcz9_8:w6.cell? ⟨gb115,8,none⟩=some (.int .i64 a0_8):=(blk_cell BK115.out 8).trans rfl;have hcz9_9:w6.cell? ⟨gb115,9,none⟩=some (.int .i64 a0_9):=(blk_cell BK115.out 9).trans rfl;have hfz9_0:=blk_frozen BK115.out 0;have hfz9_1:=blk_frozen BK115.out 1;have hfz9_2:=blk_frozen BK115.out 2;have hfz9_3:=blk_frozen BK115.out 3;have hfz9_4:=blk_frozen BK115.out 4;have hfz9_5:=blk_frozen BK115.out 5;have hfz9_6:=blk_frozen BK115.out 6;have hfz9_7:=blk_frozen BK115.out 7;have hfz9_8:=blk_frozen BK115.out 8;have hfz9_9:=blk_frozen BK115.out 9;have hnb10:=NB117_116.out;have hnc10:=NB116_117.out;have hcz11_0:w6.cell? ⟨gb117,0,none⟩=some (.int .i64 0):=(blk_cell BK117.out 0).trans rfl;have hcz11_1:w6.cell? ⟨gb117,1,none⟩=some (.bool false):=(blk_cell BK117.out 1).trans rfl;have hcz11_2:w6.cell? ⟨gb117,2,none⟩=some (.int .i64 0):=(blk_cell BK117.out 2).trans rfl;have hcz11_3:w6.cell? ⟨gb117,3,none⟩=some (.int .i64 0):=(blk_cell BK117.out 3).trans rfl;have hcz11_4:w6.cell? ⟨gb117,4,none⟩=some (.int .i64 0):=(blk_cell BK117.out 4).trans rfl;have hcz11_5:w6.cell? ⟨gb117,5,none⟩=some (.int .i64 0):=(blk_cell BK117.out 5).trans rfl;have hcz11_6:w6.cell? ⟨gb117,6,none⟩=some (.int .i64 0):=(blk_cell BK117.out 6).trans rfl;have hcz11_7:w6.cell? ⟨gb117,7,none⟩=some (.int .i64 0):=(blk_cell BK117.out 7).trans rfl;have hcz11_8:w6.cell? ⟨gb117,8,none⟩=some (.int .i64 0):=(blk_cell BK117.out 8).trans rfl;have hcz11_9:w6.cell? ⟨gb117,9,none⟩=some (.int .i64 0):=(blk_cell BK117.out 9).trans rfl;have hfz11_0:=blk_frozen BK117.out 0;have hfz11_1:=blk_frozen BK117.out 1;have hfz11_2:=blk_frozen BK117.out 2;have hfz11_3:=blk_frozen BK117.out 3;have hfz11_4:=blk_frozen BK117.out 4;have hfz11_5:=blk_frozen BK117.out 5;have hfz11_6:=blk_frozen BK117.out 6;have hfz11_7:=blk_frozen BK117.out 7;have hfz11_8:=blk_frozen BK117.out 8;have hfz11_9:=blk_frozen BK117.out 9)|((with_reducible refine gate_callee (f:=42) rfl ?_);refine goesL_ (some 12) rfl rfl Try.func42 (by kernel_rfl) rfl #[.agg #[.int .i64 a0_2,.int .i64 a0_3,.int .i64 a0_4,.int .i64 a0_5]] rfl zar ?_;(with_reducible refine (laws_toCell.calls a0_2 a0_3 a0_4 a0_5 t118 t119 t120 t121 _ A2.out).mono ?_);rintro e w12 ⟨rfl,hb⟩;refine ⟨_,rfl,?_⟩;have n0_:=Aside0.mk (blk_below (g:=gb115) (o:=.cells #[.int .i64 a0_0,.bool a0_1,.int .i64 a0_2,.int .i64 a0_3,.int .i64 a0_4,.int .i64 a0_5,.int .i64 a0_6,.int .i64 a0_7,.int .i64 a0_8,.int .i64 a0_9] 25 (0,0)) (by (with_reducible repeat (first|refine blk_drewN ?_ _|refine blk_drew ?_|refine blk_alloc ?_ _));refine blk_far ?_ NB115_117.out _;(with_reducible repeat (first|refine blk_drewN ?_ _|refine blk_drew ?_|refine blk_alloc ?_ _));refine blk_far ?_ NB115_117.out _;(with_reducible repeat (first|refine blk_drewN ?_ _|refine blk_drew ?_|refine blk_alloc ?_ _));exact BK115.out) hb);have n1_:=Aside0.mk (blk_below (g:=gb116) (o:=.cells #[.int .i64 0,.bool false,.int .i64 0,.int .i64 0,.int .i64 0,.int .i64 0,.int .i64 0,.int .i64 0,.int .i64 0,.int .i64 0] 35 (0,0)) (by (with_reducible repeat (first|refine blk_drewN ?_ _|refine blk_drew ?_|refine blk_alloc ?_ _));refine blk_far ?_ NB116_117.out _;(with_reducible repeat (first|refine blk_drewN ?_ _|refine blk_drew ?_|refine blk_alloc ?_ _));refine blk_far ?_ NB116_117.out _;(with_reducible repeat (first|refine blk_drewN ?_ _|refine blk_drew ?_|refine blk_alloc ?_ _));exact BK116.out) hb);have n2_:=Aside0.mk (blk_below (g:=gb117) (o:=.cells #[.int .i64 a0_0,.bool a0_1,.int .i64 0,.int .i64 0,.int .i64 0,.int .i64 0,.int .i64 0,.int .i64 0,.int .i64 0,.int .i64 0] 35 (0,0)) (by (with_reducible repeat (first|refine blk_drewN ?_ _|refine blk_drew ?_|refine blk_alloc ?_ _));refine blk_put (cs:=#[.int .i64 a0_0,.bool false,.int .i64 0,.int .i64 0,.int .i64 0,.int .i64 0,.int .i64 0,.int .i64 0,.int .i64 0,.int .i64 0]) ?_ 1 _ rfl;(with_reducible repeat (first|refine blk_drewN ?_ _|refine blk_drew ?_|refine blk_alloc ?_ _));refine blk_put (cs:=#[.int .i64 0,.bool false,.int .i64 0,.int .i64 0,.int .i64 0,.int .i64 0,.int .i64 0,.int .i64 0,.int .i64 0,.int .i64 0]) ?_ 0 _ rfl;(with_reducible repeat (first|refine blk_drewN ?_ _|refine blk_drew ?_|refine blk_alloc ?_ _));exact BK117.out) hb);have n3_:=Aside0.mk (below_step (by repeat (first|(with_reducible first|exact HB.out|apply below_alloc|apply pw_below_drewN|apply below_drew1|refine below_set ?_ GE115.out|refine below_set ?_ GE116.out|refine below_set ?_ GE117.out)|exact HB.out)) hb);clear BK115;clear BK116;clear BK117;clear HB;have BK115:=n0_;have BK116:=n1_;have BK117:=n2_;have HB:=n3_;clear n0_ n1_ n2_ n3_;(try clear hb);(try clear hb2);(try clear hk);(try clear hi);have hcz13_0:w12.cell? ⟨gb117,0,none⟩=some (.int .i64 a0_0):=(blk_cell BK117.out 0).trans rfl;have hcz13_1:w12.cell? ⟨gb117,1,none⟩=some (.bool a0_1):=(blk_cell BK117.out 1).trans rfl;have hcz13_2:w12.cell? ⟨gb117,2,none⟩=some (.int .i64 0):=(blk_cell BK117.out 2).trans rfl;have hcz13_3:w12.cell? ⟨gb117,3,none⟩=some (.int .i64 0):=(blk_cell BK117.out 3).trans rfl;have hcz13_4:w12.cell? ⟨gb117,4,none⟩=some (.int .i64 0):=(blk_cell BK117.out 4).trans rfl;have hcz13_5:w12.cell? ⟨gb117,5,none⟩=some (.int .i64 0):=(blk_cell BK117.out 5).trans rfl;have hcz13_6:w12.cell? ⟨gb117,6,none⟩=some (.int .i64 0):=(blk_cell BK117.out 6).trans rfl;have hcz13_7:w12.cell? ⟨gb117,7,none⟩=some (.int .i64 0):=(blk_cell BK117.out 7).trans rfl;have hcz13_8:w12.cell? ⟨gb117,8,none⟩=some (.int .i64 0):=(blk_cell BK117.out 8).trans rfl;have hcz13_9:w12.cell? ⟨gb117,9,none⟩=some (.int .i64 0):=(blk_cell BK117.out 9).trans rfl;have hfz13_0:=blk_frozen BK117.out 0;have hfz13_1:=blk_frozen BK117.out 1;have hfz13_2:=blk_frozen BK117.out 2;have hfz13_3:=blk_frozen BK117.out 3;have hfz13_4:=blk_frozen BK117.out 4;have hfz13_5:=blk_frozen BK117.out 5;have hfz13_6:=blk_frozen BK117.out 6;have hfz13_7:=blk_frozen BK117.out 7;have hfz13_8:=blk_frozen BK117.out 8;have hfz13_9:=blk_frozen BK117.out 9;have hcz14_0:w12.cell? ⟨gb115,0,none⟩=some (.int .i64 a0_0):=(blk_cell BK115.out 0).trans rfl;have hcz14_1:w12.cell? ⟨gb115,1,none⟩=some (.bool a0_1):=(blk_cell BK115.out 1).trans rfl;have hcz14_2:w12.cell? ⟨gb115,2,none⟩=some (.int .i64 a0_2):=(blk_cell BK115.out 2).trans rfl;have hcz14_3:w12.cell? ⟨gb115,3,none⟩=some (.int .i64 a0_3):=(blk_cell BK115.out 3).trans rfl;have hcz14_4:w12.cell? ⟨gb115,4,none⟩=some (.int .i64 a0_4):=(blk_cell BK115.out 4).trans rfl;have hcz14_5:w12.cell? ⟨gb115,5,none⟩=some (.int .i64 a0_5):=(blk_cell BK115.out 5).trans rfl;have hcz14_6:w12.cell? ⟨gb115,6,none⟩=some (.int .i64 a0_6):=(blk_cell BK115.out 6).trans rfl;have hcz14_7:w12.cell? ⟨gb115,7,none⟩=some (.int .i64 a0_7):=(blk_cell BK115.out 7).trans rfl;have hcz14_8:w12.cell? ⟨gb115,8,none⟩=some (.int .i64 a0_8):=(blk_cell BK115.out 8).trans rfl;have hcz14_9:w12.cell? ⟨gb115,9,none⟩=some (.int .i64 a0_9):=(blk_cell BK115.out 9).trans rfl;have hfz14_0:=blk_frozen BK115.out 0;have hfz14_1:=blk_frozen BK115.out 1;have hfz14_2:=blk_frozen BK115.out 2;have hfz14_3:=blk_frozen BK115.out 3;have hfz14_4:=blk_frozen BK115.out 4;have hfz14_5:=blk_frozen BK115.out 5;have hfz14_6:=blk_frozen BK115.out 6;have hfz14_7:=blk_frozen BK115.out 7;have hfz14_8:=blk_frozen BK115.out 8;have hfz14_9:=blk_frozen BK115.out 9)|((with_reducible refine gate_callee (f:=42) rfl ?_);refine goesL_ (some 16) rfl rfl Try.func42 (by kernel_rfl) rfl #[.agg #[.int .i64 a0_6,.int .i64 a0_7,.int .i64 a0_8,.int .i64 a0_9]] rfl zar ?_;(with_reducible refine (laws_toCell.calls a0_6 a0_7 a0_8 a0_9 t122 t123 t124 t125 _ A3.out).mono ?_);rintro e w15 ⟨rfl,hb⟩;refine ⟨_,rfl,?_⟩;have n0_:=Aside0.mk (blk_below (g:=gb115) (o:=.cells #[.int .i64 a0_0,.bool a0_1,.int .i64 a0_2,.int .i64 a0_3,.int .i64 a0_4,.int .i64 a0_5,.int .i64 a0_6,.int .i64 a0_7,.int .i64 a0_8,.int .i64 a0_9] 25 (0,0)) (by (with_reducible repeat (first|refine blk_drewN ?_ _|refine blk_drew ?_|refine blk_alloc ?_ _));refine blk_far ?_ NB115_117.out _;(with_reducible repeat (first|refine blk_drewN ?_ _|refine blk_drew ?_|refine blk_alloc ?_ _));refine blk_far ?_ NB115_117.out _;(with_reducible repeat (first|refine blk_drewN ?_ _|refine blk_drew ?_|refine blk_alloc ?_ _));refine blk_far ?_ NB115_117.out _;(with_reducible repeat (first|refine blk_drewN ?_ _|refine blk_drew ?_|refine blk_alloc ?_ _));refine blk_far ?_ NB115_117.out _;(with_reducible repeat (first|refine blk_drewN ?_ _|refine blk_drew ?_|refine blk_alloc ?_ _));exact BK115.out) hb);have n1_:=Aside0.mk (blk_below (g:=gb116) (o:=.cells #[.int .i64 0,.bool false,.int .i64 0,.int .i64 0,.int .i64 0,.int .i64 0,.int .i64 0,.int .i64 0,.int .i64 0,.int .i64 0] 35 (0,0)) (by (with_reducible repeat (first|refine blk_drewN ?_ _|refine blk_drew ?_|refine blk_alloc ?_ _));refine blk_far ?_ NB116_117.out _;(with_reducible repeat (first|refine blk_drewN ?_ _|refine blk_drew ?_|refine blk_alloc ?_ _));refine blk_far ?_ NB116_117.out _;(with_reducible repeat (first|refine blk_drewN ?_ _|refine blk_drew ?_|refine blk_alloc ?_ _));refine blk_far ?_ NB116_117.out _;(with_reducible repeat (first|refine blk_drewN ?_ _|refine blk_drew ?_|refine blk_alloc ?_ _));refine blk_far ?_ NB116_117.out _;(with_reducible repeat (first|refine blk_drewN ?_ _|refine blk_drew ?_|refine blk_alloc ?_ _));exact BK116.out) hb);have n2_:=Aside0.mk (blk_below (g:=gb117) (o:=.cells #[.int .i64 a0_0,.bool a0_1,.int .i64 t118,.int .i64 t119,.int .i64 t120,.int .i64 t121,.int .i64 0,.int .i64 0,.int .i64 0,.int .i64 0] 35 (0,0)) (by (with_reducible repeat (first|refine blk_drewN ?_ _|refine blk_drew ?_|refine blk_alloc ?_ _));refine blk_put (cs:=#[.int .i64 a0_0,.bool a0_1,.int .i64 t118,.int .i64 t119,.int .i64 t120,.int .i64 0,.int .i64 0,.int .i64 0,.int .i64 0,.int .i64 0]) ?_ 5 _ rfl;(with_reducible repeat (first|refine blk_drewN ?_ _|refine blk_drew ?_|refine blk_alloc ?_ _));refine blk_put (cs:=#[.int .i64 a0_0,.bool a0_1,.int .i64 t118,.int .i64 t119,.int .i64 0,.int .i64 0,.int .i64 0,.int .i64 0,.int .i64 0,.int .i64 0]) ?_ 4 _ rfl;(with_reducible repeat (first|refine blk_drewN ?_ _|refine blk_drew ?_|refine blk_alloc ?_ _));refine blk_put (cs:=#[.int .i64 a0_0,.bool a0_1,.int .i64 t118,.int .i64 0,.int .i64 0,.int .i64 0,.int .i64 0,.int .i64 0,.int .i64 0,.int .i64 0]) ?_ 3 _ rfl;(with_reducible repeat (first|refine blk_drewN ?_ _|refine blk_drew ?_|refine blk_alloc ?_ _));refine blk_put (cs:=#[.int .i64 a0_0,.bool a0_1,.int .i64 0,.int .i64 0,.int .i64 0,.int .i64 0,.int .i64 0,.int .i64 0,.int .i64 0,.int .i64 0]) ?_ 2 _ rfl;(with_reducible repeat (first|refine blk_drewN ?_ _|refine blk_drew ?_|refine blk_alloc ?_ _));exact BK117.out) hb);have n3_:=Aside0.mk (below_step (by repeat (first|(with_reducible first|exact HB.out|apply below_alloc|apply pw_below_drewN|apply below_drew1|refine below_set ?_ GE115.out|refine below_set ?_ GE116.out|refine below_set ?_ GE117.out)|exact HB.out)) hb);clear BK115;clear BK116;clear BK117;clear HB;have BK115:=n0_;have BK116:=n1_;have BK117:=n2_;have HB:=n3_;clear n0_ n1_ n2_ n3_;(try clear hb);(try clear hb2);(try clear hk);(try clear hi);have hcz16_0:w15.cell? ⟨gb117,0,none⟩=some (.int .i64 a0_0):=(blk_cell BK117.out 0).trans rfl;have hcz16_1:w15.cell? ⟨gb117,1,none⟩=some (.bool a0_1):=(blk_cell BK117.out 1).trans rfl;have hcz16_2:w15.cell? ⟨gb117,2,none⟩=some (.int .i64 t118):=(blk_cell BK117.out 2).trans rfl;have hcz16_3:w15.cell? ⟨gb117,3,none⟩=some (.int .i64 t119):=(blk_cell BK117.out 3).trans rfl;have hcz16_4:w15.cell? ⟨gb117,4,none⟩=some (.int .i64 t120):=(blk_cell BK117.out 4).trans rfl;have hcz16_5:w15.cell? ⟨gb117,5,none⟩=some (.int .i64 t121):=(blk_cell BK117.out 5).trans rfl;have hcz16_6:w15.cell? ⟨gb117,6,none⟩=some (.int .i64 0):=(blk_cell BK117.out 6).trans rfl;have hcz16_7:w15.cell? ⟨gb117,7,none⟩=some (.int .i64 0):=(blk_cell BK117.out 7).trans rfl;have hcz16_8:w15.cell? ⟨gb117,8,none⟩=some (.int .i64 0):=(blk_cell BK117.out 8).trans rfl;have hcz16_9:w15.cell? ⟨gb117,9,none⟩=some (.int .i64 0):=(blk_cell BK117.out 9).trans rfl;have hfz16_0:=blk_frozen BK117.out 0;have hfz16_1:=blk_frozen BK117.out 1;have hfz16_2:=blk_frozen BK117.out 2;have hfz16_3:=blk_frozen BK117.out 3;have hfz16_4:=blk_frozen BK117.out 4;have hfz16_5:=blk_frozen BK117.out 5;have hfz16_6:=blk_frozen BK117.out 6;have hfz16_7:=blk_frozen BK117.out 7;have hfz16_8:=blk_frozen BK117.out 8;have hfz16_9:=blk_frozen BK117.out 9;have hcz17_0:w15.cell? ⟨gb116,0,none⟩=some (.int .i64 0):=(blk_cell BK116.out 0).trans rfl;have hcz17_1:w15.cell? ⟨gb116,1,none⟩=some (.bool false):=(blk_cell BK116.out 1).trans rfl;have hcz17_2:w15.cell? ⟨gb116,2,none⟩=some (.int .i64 0):=(blk_cell BK116.out 2).trans rfl;have hcz17_3:w15.cell? ⟨gb116,3,none⟩=some (.int .i64 0):=(blk_cell BK116.out 3).trans rfl;have hcz17_4:w15.cell? ⟨gb116,4,none⟩=some (.int .i64 0):=(blk_cell BK116.out 4).trans rfl;have hcz17_5:w15.cell? ⟨gb116,5,none⟩=some (.int .i64 0):=(blk_cell BK116.out 5).trans rfl;have hcz17_6:w15.cell? ⟨gb116,6,none⟩=some (.int .i64 0):=(blk_cell BK116.out 6).trans rfl;have hcz17_7:w15.cell? ⟨gb116,7,none⟩=some (.int .i64 0):=(blk_cell BK116.out 7).trans rfl;have hcz17_8:w15.cell? ⟨gb116,8,none⟩=some (.int .i64 0):=(blk_cell BK116.out 8).trans rfl;have hcz17_9:w15.cell? ⟨gb116,9,none⟩=some (.int .i64 0):=(blk_cell BK116.out 9).trans rfl;have hfz17_0:=blk_frozen BK116.out 0;have hfz17_1:=blk_frozen BK116.out 1;have hfz17_2:=blk_frozen BK116.out 2;have hfz17_3:=blk_frozen BK116.out 3;have hfz17_4:=blk_frozen BK116.out 4;have hfz17_5:=blk_frozen BK116.out 5;have hfz17_6:=blk_frozen BK116.out 6;have hfz17_7:=blk_frozen BK116.out 7;have hfz17_8:=blk_frozen BK116.out 8;have hfz17_9:=blk_frozen BK116.out 9))
 refine bodyPost_ret (results_cell_row rfl _ _ gb116 35 #[.int .i64 a0_0,.bool a0_1,.int .i64 t118,.int .i64 t119,.int .i64 t120,.int .i64 t121,.int .i64 t122,.int .i64 t123,.int .i64 t124,.int .i64 t125] (0,0) _ rfl (by (with_reducible repeat (first|refine blk_drewN ?_ _|refine blk_drew ?_|refine blk_alloc ?_ _));refine blk_put (cs:=#[.int .i64 a0_0,.bool a0_1,.int .i64 t118,.int .i64 t119,.int .i64 t120,.int .i64 t121,.int .i64 t122,.int .i64 t123,.int .i64 t124,.int .i64 0]) ?_ 9 _ rfl;(with_reducible repeat (first|refine blk_drewN ?_ _|refine blk_drew ?_|refine blk_alloc ?_ _));refine blk_put (cs:=#[.int .i64 a0_0,.bool a0_1,.int .i64 t118,.int .i64 t119,.int .i64 t120,.int .i64 t121,.int .i64 t122,.int .i64 t123,.int .i64 0,.int .i64 0]) ?_ 8 _ rfl;(with_reducible repeat (first|refine blk_drewN ?_ _|refine blk_drew ?_|refine blk_alloc ?_ _));refine blk_put (cs:=#[.int .i64 a0_0,.bool a0_1,.int .i64 t118,.int .i64 t119,.int .i64 t120,.int .i64 t121,.int .i64 t122,.int .i64 0,.int .i64 0,.int .i64 0]) ?_ 7 _ rfl;(with_reducible repeat (first|refine blk_drewN ?_ _|refine blk_drew ?_|refine blk_alloc ?_ _));refine blk_put (cs:=#[.int .i64 a0_0,.bool a0_1,.int .i64 t118,.int .i64 t119,.int .i64 t120,.int .i64 t121,.int .i64 0,.int .i64 0,.int .i64 0,.int .i64 0]) ?_ 6 _ rfl;(with_reducible repeat (first|refine blk_drewN ?_ _|refine blk_drew ?_|refine blk_alloc ?_ _));refine blk_put (cs:=#[.int .i64 a0_0,.bool a0_1,.int .i64 t118,.int .i64 t119,.int .i64 t120,.int .i64 0,.int .i64 0,.int .i64 0,.int .i64 0,.int .i64 0]) ?_ 5 _ rfl;(with_reducible repeat (first|refine blk_drewN ?_ _|refine blk_drew ?_|refine blk_alloc ?_ _));refine blk_put (cs:=#[.int .i64 a0_0,.bool a0_1,.int .i64 t118,.int .i64 t119,.int .i64 0,.int .i64 0,.int .i64 0,.int .i64 0,.int .i64 0,.int .i64 0]) ?_ 4 _ rfl;(with_reducible repeat (first|refine blk_drewN ?_ _|refine blk_drew ?_|refine blk_alloc ?_ _));refine blk_put (cs:=#[.int .i64 a0_0,.bool a0_1,.int .i64 t118,.int .i64 0,.int .i64 0,.int .i64 0,.int .i64 0,.int .i64 0,.int .i64 0,.int .i64 0]) ?_ 3 _ rfl;(with_reducible repeat (first|refine blk_drewN ?_ _|refine blk_drew ?_|refine blk_alloc ?_ _));refine blk_put (cs:=#[.int .i64 a0_0,.bool a0_1,.int .i64 0,.int .i64 0,.int .i64 0,.int .i64 0,.int .i64 0,.int .i64 0,.int .i64 0,.int .i64 0]) ?_ 2 _ rfl;(with_reducible repeat (first|refine blk_drewN ?_ _|refine blk_drew ?_|refine blk_alloc ?_ _));refine blk_put (cs:=#[.int .i64 a0_0,.bool false,.int .i64 0,.int .i64 0,.int .i64 0,.int .i64 0,.int .i64 0,.int .i64 0,.int .i64 0,.int .i64 0]) ?_ 1 _ rfl;(with_reducible repeat (first|refine blk_drewN ?_ _|refine blk_drew ?_|refine blk_alloc ?_ _));refine blk_put (cs:=#[.int .i64 0,.bool false,.int .i64 0,.int .i64 0,.int .i64 0,.int .i64 0,.int .i64 0,.int .i64 0,.int .i64 0,.int .i64 0]) ?_ 0 _ rfl;(with_reducible repeat (first|refine blk_drewN ?_ _|refine blk_drew ?_|refine blk_alloc ?_ _));refine blk_far ?_ NB116_117.out _;(with_reducible repeat (first|refine blk_drewN ?_ _|refine blk_drew ?_|refine blk_alloc ?_ _));refine blk_far ?_ NB116_117.out _;(with_reducible repeat (first|refine blk_drewN ?_ _|refine blk_drew ?_|refine blk_alloc ?_ _));refine blk_far ?_ NB116_117.out _;(with_reducible repeat (first|refine blk_drewN ?_ _|refine blk_drew ?_|refine blk_alloc ?_ _));refine blk_far ?_ NB116_117.out _;(with_reducible repeat (first|refine blk_drewN ?_ _|refine blk_drew ?_|refine blk_alloc ?_ _));exact BK116.out) Try.underlying35 rfl (by kernel_rfl)) rfl ?_
 exact ⟨by first|rfl|(simp [errW_none,errW_some] <;> rfl)|(simp [*,errW_none,errW_some] <;> rfl),by repeat (first|(with_reducible first|exact HB.out|apply below_alloc|apply pw_below_drewN|apply below_drew1|refine below_set ?_ GE115.out|refine below_set ?_ GE116.out|refine below_set ?_ GE117.out)|exact HB.out)⟩

/-! ### laws_toCellS: function 22 -/
def laws_toCellS.l0:Nat→List (S23)→List (S33)→Int→Option ((List (S33)))
 | 0,_,_,_=>none
 | k + 1,x0,x3,x4=>if x4 < (x0.length:Int) then (if 0≤x4 then ((laws_toCell.f ((rd_T23 x0 x4).f0) ((rd_T23 x0 x4).f1) ((rd_T23 x0 x4).f2) ((rd_T23 x0 x4).f3)).bind fun bt130=>(if x4 < (x3.length:Int) then (laws_toCellS.l0 k x0 (x3.set (x4:Int).toNat (⟨bt130.1,bt130.2.1,bt130.2.2.1,bt130.2.2.2⟩:S33)) (wrap64 (x4 + 1))) else (none))) else (none)) else (some x3)
def laws_toCellS.f (k:Nat) (l0:List (S23)):Option ((List (S33))):=if 0≤(l0.length:Int) then (if ((l0.length:Int):Int).toNat≤8796093022208 then (laws_toCellS.l0 k l0 (List.replicate ((l0.length:Int):Int).toNat z33) 0) else (none)) else (none)
theorem laws_toCellS.mono_l : ∀ k,(∀ y0 y1 y2,LeO (laws_toCellS.l0 k y0 y1 y2) (laws_toCellS.l0 (k + 1) y0 y1 y2))
 | 0=>fun _ _ _ r h=>by simp [laws_toCellS.l0] at h
 | k + 1=>by
  have ih0:=laws_toCellS.mono_l k
  ·intro y0 y1 y2
   unfold laws_toCellS.l0
   repeat' first
   | (with_reducible exact ih0 _ _ _)
   | (with_reducible exact LeO.refl _)
   | (with_reducible exact LeO.none _)
   | (with_reducible refine LeO.ite ?_ ?_)
   | (with_reducible refine LeO.bind ?_ (fun _=>?_))
   | exact LeO.none _
   | refine LeO.ite ?_ ?_
   | refine LeO.bind ?_ (fun _=>?_)
theorem laws_toCellS.mono : ∀ a0 k,LeO (laws_toCellS.f k a0) (laws_toCellS.f (k + 1) a0):=by
 intro a0 k
 have ih0:=laws_toCellS.mono_l k
 unfold laws_toCellS.f
 repeat' first
   | (with_reducible exact ih0 _ _ _)
   | (with_reducible exact LeO.refl _)
   | (with_reducible exact LeO.none _)
   | (with_reducible refine LeO.ite ?_ ?_)
   | (with_reducible refine LeO.bind ?_ (fun _=>?_))
   | exact LeO.none _
   | refine LeO.ite ?_ ?_
   | refine LeO.bind ?_ (fun _=>?_)
set_option maxHeartbeats 8000000 in
set_option maxRecDepth 100000 in
theorem laws_toCellS.calls (k:Nat) (A0:Option Addr) (c0:Nat) (l0:List (S23)) (r:List (S33)) (w:World) (hr0:Kd.C k23 w A0 l0.length l0) (hc0:l0.length≤c0) (h:laws_toCellS.f k l0=some r) :
  Calls Try.prog 22 #[.slice A0 l0.length c0] w fun e w'=>∃ v0_:Value,e=.returned (v0_)∧Kd.R k33 33 w' w.heap.size (fun _=>True) v0_ r∧Below w.heap.size w w':=by
 have hu23:=Try.underlying23
 have hu33:=Try.underlying33
 have HR0:=Aside0.mk hr0
 have HC0:=Aside0.mk hc0
 clear hr0 hc0
 have HB:=Aside0.mk (Below.refl w.heap.size w)
 have H:(if 0≤(l0.length:Int) then (if ((l0.length:Int):Int).toNat≤8796093022208 then (laws_toCellS.l0 k l0 (List.replicate ((l0.length:Int):Int).toNat z33) 0) else (none)) else (none))=some r:=h
 clear h
 by_cases c2:0≤(l0.length:Int)
 ·rw [if_pos c2] at H
  have c2b0:=eq_true c2
  have c2b1:decide (0≤(l0.length:Int))=true:=decide_eq_true c2
  clear c2
  by_cases c3:((l0.length:Int):Int).toNat≤8796093022208
  ·rw [if_pos c3] at H
   have c3b0:=eq_true c3
   have c3b1:decide (((l0.length:Int):Int).toNat≤8796093022208)=true:=decide_eq_true c3
   clear c3
   obtain ⟨y126,hy126⟩ : ∃ y_:List (S33),y_=(List.replicate ((l0.length:Int):Int).toNat z33):=⟨_,rfl⟩
   replace H:(laws_toCellS.l0 k l0 y126 0)=some r:=by first|(rw [hy126];with_reducible exact H)|(have H2_:=(Option.bind_some _ _).symm.trans H;rw [hy126];with_reducible exact H2_)|(have H2_:=(Option.bind_some _ _).symm.trans H;with_reducible exact H2_)|with_reducible exact H|(rw [hy126];exact H)|exact H
   have Ny126:=Aside0.mk hy126
   clear hy126
   have H':=Aside0.mk H
   clear H
   go_enter Try.func22,Try.ntmps22
   go_wp2_with (first|((with_reducible refine gate_dst (N:=7) rfl ?_);refine Kd.R_make k33 _ 33 rfl (N:=7) rfl 36 _ _ rfl (l0.length:Int) rfl rfl Try.underlying36 (.agg #[(.int .i64 0),(.int .i64 0),(.int .i64 0),(.int .i64 0)]) 32 info33 rfl (by decide) (by omega) z33 (ok:=fun _=>True) (okp:=fun _=>True) (k33_mkM _ _ _ z33 ) (fun _ hk=>hk) trivial (zod) (Nat.le_trans (Nat.mul_le_mul_right _ (zod:(l0.length:Int).toNat≤8796093022208)) (by omega)) (Below.refl _ _) (Nat.le_refl _) ?_;intro v127 w4 ho5 hb hg_ hnew_;clear hg_ hnew_;(first|rw [← Ny126.out] at ho5|(simp only [Int.reduceToNat] at ho5;rw [← Ny126.out] at ho5));have n0_:=Aside0.mk (Kd.R_lower ho5 (below_size zhb));have n1_:=Aside0.mk (below_step zhb hb);clear HB;have HO128:=n0_;have HB:=n1_;clear n0_ n1_;clear hb ho5))
   go_loopg [4] k (fun kq v4 w'=>∃ (x3_1:List (S33)) (x4_1:Int),v4=.int .i64 x4_1∧Aside0 (laws_toCellS.l0 kq l0 x3_1 x4_1=some r)∧Aside0 (kq≤k)∧Aside0 (Kd.R k33 33 w' w.heap.size (fun _=>True) v127 x3_1)∧Aside0 (Below w.heap.size w w'))
   case atStart=>exact ⟨(y126),(0),(by first|rfl|(simp;done)|(simp [*];done)),H',⟨Nat.le_refl _⟩,⟨by (with_reducible repeat (first|apply Kd.R_alloc|apply Kd.R_drewN|apply Kd.R_drew));exact HO128.out⟩,⟨zhb⟩⟩
   case round =>
    clear H'
    try clear c2
    try clear c2b0
    try clear c2b1
    try clear p2
    try clear c3
    try clear c3b0
    try clear c3b1
    obtain ⟨x3_1,x4_1,rfl,HA,HK1,HO_3,HB⟩:=hrel
    cases gk with
    | zero=>exact absurd HA.out (by simp [laws_toCellS.l0])
    | succ k1 =>
     have H:=HA.out
     clear HA
     simp only [laws_toCellS.l0] at H
     by_cases c6:x4_1 < (l0.length:Int)
     ·rw [if_pos c6] at H
      have c6b0:decide (x4_1 < (l0.length:Int))=true:=decide_eq_true c6
      clear c6
      by_cases c7:0≤x4_1
      ·rw [if_pos c7] at H
       have c7b0:decide (0≤x4_1)=true:=decide_eq_true c7
       clear c7
       replace H:=Option.bind_eq_some_iff.mp H
       obtain ⟨⟨t130,t131,t132,t133⟩,A80,H⟩:=H
       (try dsimp only at H)
       have A8:=Aside0.mk A80
       clear A80
       by_cases c9:x4_1 < (x3_1.length:Int)
       ·rw [if_pos c9] at H
        have c9b0:decide (x4_1 < (x3_1.length:Int))=true:=decide_eq_true c9
        clear c9
        obtain ⟨y134,hy134⟩ : ∃ y_:List (S33),y_=(x3_1.set (x4_1:Int).toNat (⟨t130,t131,t132,t133⟩:S33)):=⟨_,rfl⟩
        replace H:(laws_toCellS.l0 k1 l0 y134 (wrap64 (x4_1 + 1)))=some r:=by first|(rw [hy134];with_reducible exact H)|(have H2_:=(Option.bind_some _ _).symm.trans H;rw [hy134];with_reducible exact H2_)|(have H2_:=(Option.bind_some _ _).symm.trans H;with_reducible exact H2_)|with_reducible exact H|(rw [hy134];exact H)|exact H
        have Ny134:=Aside0.mk hy134
        clear hy134
        have H':=Aside0.mk H
        clear H
        have p129:0≤(x4_1:Int):=zod
        have q129:x4_1 < (l0.length:Int):=zod
        obtain ⟨ad129,e129,hx129_0,hx129_1,hx129_2,hx129_3⟩:=at_T23 HR0.out x4_1 p129 q129
        cases e129
        replace hx129_0:=(HB.out.cell (World.block_lt_of_cell? w _ hx129_0)).trans hx129_0
        replace hx129_1:=(HB.out.cell (World.block_lt_of_cell? w _ hx129_1)).trans hx129_1
        replace hx129_2:=(HB.out.cell (World.block_lt_of_cell? w _ hx129_2)).trans hx129_2
        replace hx129_3:=(HB.out.cell (World.block_lt_of_cell? w _ hx129_3)).trans hx129_3
        replace p129:=eq_true p129
        replace q129:=eq_true q129
        go_wp2_with (first|((with_reducible refine gate_callee (f:=42) rfl ?_);refine goesL_ (some 20) rfl rfl Try.func42 (by kernel_rfl) rfl #[.agg #[.int .i64 ((rd_T23 l0 x4_1).f0),.int .i64 ((rd_T23 l0 x4_1).f1),.int .i64 ((rd_T23 l0 x4_1).f2),.int .i64 ((rd_T23 l0 x4_1).f3)]] rfl zar ?_;(with_reducible refine (laws_toCell.calls ((rd_T23 l0 x4_1).f0) ((rd_T23 l0 x4_1).f1) ((rd_T23 l0 x4_1).f2) ((rd_T23 l0 x4_1).f3) t130 t131 t132 t133 _ A8.out).mono ?_);rintro e w11 ⟨rfl,hb⟩;refine ⟨_,rfl,?_⟩;have n0_:=Aside0.mk (Kd.R_below (by (with_reducible repeat (first|apply Kd.R_alloc|apply Kd.R_drewN|apply Kd.R_drew));exact HO_3.out) hb);have n1_:=Aside0.mk (below_step zhb hb);clear HO_3;clear HB;have HO_3:=n0_;have HB:=n1_;clear n0_ n1_;(try clear hb);(try clear hb2);(try clear hk);(try clear hi);have p10:0≤(x4_1:Int):=zod;have q10:(x4_1:Int) < ((x3_1.length:Int):Int):=zod;obtain ⟨go10,co10,eo10,gb10,gl10,cl10,HG10⟩:=Kd.R_form HO_3.out (by omega);(first|cases eo10|(injection eo10 with ea_ en_ ec_;(first|subst ea_|(injection ea_ with ea_;subst ea_));subst ec_;clear en_));have GB10:=Aside0.mk gb10;have GG10:=Aside0.mk HG10;clear gb10 gl10 HG10;obtain ⟨ce10,hcl10,hM10,hcc10,hfr10⟩:=Kd.R_elem HO_3.out z33 (x4_1:Int) p10 q10;obtain rfl:=k33_openM hM10;have hx10_0:w11.cell? ⟨go10,(x4_1:Int).toNat * 4,none⟩=some (.int .i64 ((rd_T33 x3_1 x4_1).f0)):=hcc10 0 _ rfl;have hx10_1:w11.cell? ⟨go10,(x4_1:Int).toNat * 4 + 1,none⟩=some (.int .i64 ((rd_T33 x3_1 x4_1).f1)):=hcc10 1 _ rfl;have hx10_2:w11.cell? ⟨go10,(x4_1:Int).toNat * 4 + 2,none⟩=some (.int .i64 ((rd_T33 x3_1 x4_1).f2)):=hcc10 2 _ rfl;have hx10_3:w11.cell? ⟨go10,(x4_1:Int).toNat * 4 + 3,none⟩=some (.int .i64 ((rd_T33 x3_1 x4_1).f3)):=hcc10 3 _ rfl;have hf10_0:w11.frozen? ⟨go10,(x4_1:Int).toNat * 4,none⟩=false:=hfr10 0;have hf10_1:w11.frozen? ⟨go10,(x4_1:Int).toNat * 4 + 1,none⟩=false:=hfr10 1;have hf10_2:w11.frozen? ⟨go10,(x4_1:Int).toNat * 4 + 2,none⟩=false:=hfr10 2;have hf10_3:w11.frozen? ⟨go10,(x4_1:Int).toNat * 4 + 3,none⟩=false:=hfr10 3;clear hcl10 hcc10 hfr10 hM10;replace p10:=eq_true p10;replace q10:=eq_true q10;have HX12:=Aside0.mk (show Kd.R k33 33 w11 w.heap.size (fun _=>True) (.slice (some ⟨go10,0,none⟩) x3_1.length co10) x3_1 from (by (with_reducible repeat (first|apply Kd.R_alloc|apply Kd.R_drewN|apply Kd.R_drew));exact HO_3.out));obtain ⟨ce12,hcl12,hM12,hcc12,hfr12⟩:=Kd.R_elem HX12.out z33 (x4_1:Int) (zod) (by have h_:(x4_1:Int) < ((x3_1.length:Int):Int):=zod;first|exact h_|(have e_:=(Kd.R_reads' HO_3.out).1;omega)|simpa using h_);obtain rfl:=k33_openM hM12;have HP12:=Kd.R_seg HX12.out (x4_1:Int) (zod) (by have h_:(x4_1:Int) < ((x3_1.length:Int):Int):=zod;first|exact h_|(have e_:=(Kd.R_reads' HO_3.out).1;omega)|simpa using h_) (seg:=[.int .i64 t130,.int .i64 t131,.int .i64 t132,.int .i64 t133]) (j:=0) hcl12 hcc12 (show 4≤4 from by decide) (x':=(⟨t130,t131,t132,t133⟩:S33)) (k33_mkM _ _ _ (⟨t130,t131,t132,t133⟩:S33) ) (fun _ hk=>hk);have hx12_0:=hcc12 0 _ rfl;(try simp only [show (k33).sz=4 from rfl,Nat.mul_one,Nat.add_zero] at hx12_0);have hf12_0:=hfr12 0;(try simp only [show (k33).sz=4 from rfl,Nat.mul_one,Nat.add_zero] at hf12_0);have hx12_1:=hcc12 1 _ rfl;(try simp only [show (k33).sz=4 from rfl,Nat.mul_one,Nat.add_zero] at hx12_1);have hf12_1:=hfr12 1;(try simp only [show (k33).sz=4 from rfl,Nat.mul_one,Nat.add_zero] at hf12_1);have hx12_2:=hcc12 2 _ rfl;(try simp only [show (k33).sz=4 from rfl,Nat.mul_one,Nat.add_zero] at hx12_2);have hf12_2:=hfr12 2;(try simp only [show (k33).sz=4 from rfl,Nat.mul_one,Nat.add_zero] at hf12_2);have hx12_3:=hcc12 3 _ rfl;(try simp only [show (k33).sz=4 from rfl,Nat.mul_one,Nat.add_zero] at hx12_3);have hf12_3:=hfr12 3;(try simp only [show (k33).sz=4 from rfl,Nat.mul_one,Nat.add_zero] at hf12_3);clear hcl12 hcc12 hfr12 hM12)|((with_reducible refine gate_store (t:=33) (p:=21) rfl ?_);refine store_event (t:=33) (p:=21) (v:=?vo_w13) (w1:=((((w11.setCell ⟨go10,(x4_1:Int).toNat * 4,none⟩ (.int .i64 t130)).setCell ⟨go10,(x4_1:Int).toNat * 4 + 1,none⟩ (.int .i64 t131)).setCell ⟨go10,(x4_1:Int).toNat * 4 + 2,none⟩ (.int .i64 t132)).setCell ⟨go10,(x4_1:Int).toNat * 4 + 3,none⟩ (.int .i64 t133))) ?hg ?ho ?hn ?hr ?_;(case ho=>rfl);(case hg=>rfl);(case hn=>rfl);(case hr=>first|(go_simp;done)|(go_simp;rfl));intro w13 hw;have hg:w11.grownBy w13 (some go10):=(by rw [hw];exact HP12.2);have hp_:Kd.R k33 33 w13 w.heap.size (fun _=>True) (.slice (some ⟨go10,0,none⟩) x3_1.length co10) y134:=(by rw [hw,Ny134.out];exact HP12.1);clear HP12;have n0_:=Aside0.mk (hp_);have n1_:=Aside0.mk ((by rw [hw];exact below_set (below_set (below_set (below_set (HB.out) GB10.out) GB10.out) GB10.out) GB10.out:Below w.heap.size w w13));clear HO_3;clear HB;have HO_3:=n0_;have HB:=n1_;clear n0_ n1_;clear hg hw hp_))
        go_roundg k1
        case measure=>have:=HK1.out;omega
        case rel=>exact ⟨(y134),(wrap64 (x4_1 + 1)),(by first|rfl|(simp;done)|(simp [*];done)),H',⟨by have:=HK1.out;omega⟩,⟨by (with_reducible repeat (first|apply Kd.R_alloc|apply Kd.R_drewN|apply Kd.R_drew));exact HO_3.out⟩,⟨zhb⟩⟩
       ·rw [if_neg c9] at H
        exact absurd H (by simp)
      ·rw [if_neg c7] at H
       exact absurd H (by simp)
     ·rw [if_neg c6] at H
      have c6b0:decide (x4_1 < (l0.length:Int))=false:=decide_eq_false c6
      clear c6
      obtain rfl:=Option.some.inj H
      go_wp2
      go_ret
      exact ⟨_,by first|rfl|(simp [errW_none,errW_some] <;> rfl)|(simp [*,errW_none,errW_some] <;> rfl),by (with_reducible repeat (first|apply Kd.R_alloc|apply Kd.R_drewN|apply Kd.R_drew));exact HO_3.out,zhb⟩
  ·rw [if_neg c3] at H
   exact absurd H (by simp)
 ·rw [if_neg c2] at H
  exact absurd H (by simp)


/-! ### laws_eqIntS: function 16 -/
def laws_eqIntS.l0:Nat→List Int→List Int→Int→Option (Bool)
 | 0,_,_,_=>none
 | k + 1,x0,x1,x5=>if x5 < (x0.length:Int) then (if 0≤x5 then (if x5 < (x1.length:Int) then (if (rd x0 x5)=(rd x1 x5) then (laws_eqIntS.l0 k x0 x1 (wrap64 (x5 + 1))) else (some false)) else (none)) else (none)) else (some true)
def laws_eqIntS.f (k:Nat) (l0:List Int) (l1:List Int):Option (Bool):=if (l0.length:Int)=(l1.length:Int) then (laws_eqIntS.l0 k l0 l1 0) else (some false)
theorem laws_eqIntS.mono_l : ∀ k,(∀ y0 y1 y2,LeO (laws_eqIntS.l0 k y0 y1 y2) (laws_eqIntS.l0 (k + 1) y0 y1 y2))
 | 0=>fun _ _ _ r h=>by simp [laws_eqIntS.l0] at h
 | k + 1=>by
  have ih0:=laws_eqIntS.mono_l k
  ·intro y0 y1 y2
   unfold laws_eqIntS.l0
   repeat' first
   | (with_reducible exact ih0 _ _ _)
   | (with_reducible exact LeO.refl _)
   | (with_reducible exact LeO.none _)
   | (with_reducible refine LeO.ite ?_ ?_)
   | (with_reducible refine LeO.bind ?_ (fun _=>?_))
   | exact LeO.none _
   | refine LeO.ite ?_ ?_
   | refine LeO.bind ?_ (fun _=>?_)
theorem laws_eqIntS.mono : ∀ a0 a1 k,LeO (laws_eqIntS.f k a0 a1) (laws_eqIntS.f (k + 1) a0 a1):=by
 intro a0 a1 k
 have ih0:=laws_eqIntS.mono_l k
 unfold laws_eqIntS.f
 repeat' first
   | (with_reducible exact ih0 _ _ _)
   | (with_reducible exact LeO.refl _)
   | (with_reducible exact LeO.none _)
   | (with_reducible refine LeO.ite ?_ ?_)
   | (with_reducible refine LeO.bind ?_ (fun _=>?_))
   | exact LeO.none _
   | refine LeO.ite ?_ ?_
   | refine LeO.bind ?_ (fun _=>?_)
set_option maxHeartbeats 8000000 in
set_option maxRecDepth 100000 in
theorem laws_eqIntS.calls (k:Nat) (A0:Option Addr) (c0:Nat) (l0:List Int) (A1:Option Addr) (c1:Nat) (l1:List Int) (r:Bool) (w:World) (hr0:Kd.C (Kd.int .i64) w A0 l0.length l0) (hc0:l0.length≤c0) (hr1:Kd.C (Kd.int .i64) w A1 l1.length l1) (hc1:l1.length≤c1) (h:laws_eqIntS.f k l0 l1=some r) :
  Calls Try.prog 16 #[.slice A0 l0.length c0,.slice A1 l1.length c1] w fun e w'=>e=.returned (.bool r)∧Drawn0 w w':=by
 have HR0:=Aside0.mk hr0
 have HC0:=Aside0.mk hc0
 clear hr0 hc0
 have HR1:=Aside0.mk hr1
 have HC1:=Aside0.mk hc1
 clear hr1 hc1
 have H:(if (l0.length:Int)=(l1.length:Int) then (laws_eqIntS.l0 k l0 l1 0) else (some false))=some r:=h
 clear h
 by_cases c3:(l0.length:Int)=(l1.length:Int)
 ·rw [if_pos c3] at H
  have c3b0:((l0.length:Int) == (l1.length:Int))=true:=beq_iff_eq.mpr c3
  have c3b1:((l0.length:Int) != (l1.length:Int))=false:=bne_eq_false_iff_eq.mpr c3
  have c3b2:(l0.length == l1.length)=true:=by first|simpa using c3|(simp at c3 ⊢;omega)
  clear c3
  have H':=Aside0.mk H
  clear H
  go_enter Try.func16,Try.ntmps16
  go_wp2
  repeat (go_quiet (fail);try go_wp2)
  go_loopg [5] k (fun kq v5 w'=>∃ (x5_1:Int),v5=.int .i64 x5_1∧Aside0 (laws_eqIntS.l0 kq l0 l1 x5_1=some r)∧Aside0 (kq≤k)∧Drawn0 w w')
  case atStart=>exact ⟨(0),(by first|rfl|(simp;done)|(simp [*];done)),H',⟨Nat.le_refl _⟩,zdw⟩
  case round =>
   clear H'
   try clear c1
   try clear p2
   try clear c3
   try clear c3b0
   try clear c3b1
   try clear c3b2
   obtain ⟨x5_1,rfl,HA,HK1,⟨m1,rfl⟩⟩:=hrel
   cases gk with
   | zero=>exact absurd HA.out (by simp [laws_eqIntS.l0])
   | succ k1 =>
    have H:=HA.out
    clear HA
    simp only [laws_eqIntS.l0] at H
    by_cases c4:x5_1 < (l0.length:Int)
    ·rw [if_pos c4] at H
     have c4b0:decide (x5_1 < (l0.length:Int))=true:=decide_eq_true c4
     clear c4
     by_cases c5:0≤x5_1
     ·rw [if_pos c5] at H
      have c5b0:decide (0≤x5_1)=true:=decide_eq_true c5
      clear c5
      by_cases c6:x5_1 < (l1.length:Int)
      ·rw [if_pos c6] at H
       have c6b0:decide (x5_1 < (l1.length:Int))=true:=decide_eq_true c6
       clear c6
       by_cases c7:(rd l0 x5_1)=(rd l1 x5_1)
       ·rw [if_pos c7] at H
        have c7b0:((rd l0 x5_1) == (rd l1 x5_1))=true:=beq_iff_eq.mpr c7
        have c7b1:((rd l0 x5_1) != (rd l1 x5_1))=false:=bne_eq_false_iff_eq.mpr c7
        clear c7
        have H':=Aside0.mk H
        clear H
        have p187:0≤(x5_1:Int):=zod
        have q187:x5_1 < (l0.length:Int):=zod
        obtain ⟨ad187,e187,hx187_0⟩:=Kd.at_int HR0.out x5_1 p187 q187
        cases e187
        replace p187:=eq_true p187
        replace q187:=eq_true q187
        have p188:0≤(x5_1:Int):=zod
        have q188:x5_1 < (l1.length:Int):=zod
        obtain ⟨ad188,e188,hx188_0⟩:=Kd.at_int HR1.out x5_1 p188 q188
        cases e188
        replace p188:=eq_true p188
        replace q188:=eq_true q188
        go_wp2
        repeat (go_quiet (fail);try go_wp2)
        go_roundg k1
        case measure=>have:=HK1.out;omega
        case rel=>exact ⟨(wrap64 (x5_1 + 1)),(by first|rfl|(simp;done)|(simp [*];done)),H',⟨by have:=HK1.out;omega⟩,zdw⟩
       ·rw [if_neg c7] at H
        have c7b0:((rd l0 x5_1) == (rd l1 x5_1))=false:=beq_eq_false_iff_ne.mpr c7
        have c7b1:((rd l0 x5_1) != (rd l1 x5_1))=true:=bne_iff_ne.mpr c7
        obtain rfl:=Option.some.inj H
        have p187:0≤(x5_1:Int):=zod
        have q187:x5_1 < (l0.length:Int):=zod
        obtain ⟨ad187,e187,hx187_0⟩:=Kd.at_int HR0.out x5_1 p187 q187
        cases e187
        replace p187:=eq_true p187
        replace q187:=eq_true q187
        have p188:0≤(x5_1:Int):=zod
        have q188:x5_1 < (l1.length:Int):=zod
        obtain ⟨ad188,e188,hx188_0⟩:=Kd.at_int HR1.out x5_1 p188 q188
        cases e188
        replace p188:=eq_true p188
        replace q188:=eq_true q188
        go_wp2
        repeat (go_quiet (fail);try go_wp2)
        go_ret
        exact ⟨by first|rfl|(simp;done)|(simp [*];done),zdw⟩
      ·rw [if_neg c6] at H
       exact absurd H (by simp)
     ·rw [if_neg c5] at H
      exact absurd H (by simp)
    ·rw [if_neg c4] at H
     have c4b0:decide (x5_1 < (l0.length:Int))=false:=decide_eq_false c4
     clear c4
     obtain rfl:=Option.some.inj H
     go_wp2
     repeat (go_quiet (fail);try go_wp2)
     go_ret
     exact ⟨by first|rfl|(simp;done)|(simp [*];done),zdw⟩
 ·rw [if_neg c3] at H
  have c3b0:((l0.length:Int) == (l1.length:Int))=false:=beq_eq_false_iff_ne.mpr c3
  have c3b1:((l0.length:Int) != (l1.length:Int))=true:=bne_iff_ne.mpr c3
  have c3b2:(l0.length == l1.length)=false:=by first|simpa using c3|(simp at c3 ⊢;omega)
  obtain rfl:=Option.some.inj H
  go_enter Try.func16,Try.ntmps16
  go_wp2
  repeat (go_quiet (fail);try go_wp2)
  go_ret
  exact ⟨by first|rfl|(simp;done)|(simp [*];done),zdw⟩

/-! ### laws_eqCell: function 43 -/
def laws_eqCell.f (a0_0:Int) (a0_1:Int) (a0_2:Int) (a0_3:Int) (a1_0:Int) (a1_1:Int) (a1_2:Int) (a1_3:Int):Option (Bool):=if a0_0=a1_0 then (if a0_1=a1_1 then (if a0_2=a1_2 then (if a0_3=a1_3 then (some true) else (some false)) else (some false)) else (some false)) else (some false)
set_option maxHeartbeats 8000000 in
set_option maxRecDepth 100000 in
theorem laws_eqCell.calls (a0_0:Int) (a0_1:Int) (a0_2:Int) (a0_3:Int) (a1_0:Int) (a1_1:Int) (a1_2:Int) (a1_3:Int) (r:Bool) (w:World) (h:laws_eqCell.f a0_0 a0_1 a0_2 a0_3 a1_0 a1_1 a1_2 a1_3=some r) :
  Calls Try.prog 43 #[.agg #[.int .i64 a0_0,.int .i64 a0_1,.int .i64 a0_2,.int .i64 a0_3],.agg #[.int .i64 a1_0,.int .i64 a1_1,.int .i64 a1_2,.int .i64 a1_3]] w fun e w'=>e=.returned (.bool r)∧Below w.heap.size w w':=by
 have hu33:=Try.underlying33
 have HB:=Aside0.mk (Below.refl w.heap.size w)
 have H:(if a0_0=a1_0 then (if a0_1=a1_1 then (if a0_2=a1_2 then (if a0_3=a1_3 then (some true) else (some false)) else (some false)) else (some false)) else (some false))=some r:=h
 clear h
 by_cases c3:a0_0=a1_0
 ·rw [if_pos c3] at H
  have c3b0:(a0_0 == a1_0)=true:=beq_iff_eq.mpr c3
  have c3b1:(a0_0 != a1_0)=false:=bne_eq_false_iff_eq.mpr c3
  clear c3
  by_cases c4:a0_1=a1_1
  ·rw [if_pos c4] at H
   have c4b0:(a0_1 == a1_1)=true:=beq_iff_eq.mpr c4
   have c4b1:(a0_1 != a1_1)=false:=bne_eq_false_iff_eq.mpr c4
   clear c4
   by_cases c5:a0_2=a1_2
   ·rw [if_pos c5] at H
    have c5b0:(a0_2 == a1_2)=true:=beq_iff_eq.mpr c5
    have c5b1:(a0_2 != a1_2)=false:=bne_eq_false_iff_eq.mpr c5
    clear c5
    by_cases c6:a0_3=a1_3
    ·rw [if_pos c6] at H
     have c6b0:(a0_3 == a1_3)=true:=beq_iff_eq.mpr c6
     have c6b1:(a0_3 != a1_3)=false:=bne_eq_false_iff_eq.mpr c6
     clear c6
     obtain rfl:=Option.some.inj H
     go_enter Try.func43,Try.ntmps43
     go_wp2_with (first|((with_reducible refine gate_dst (N:=2) rfl ?_);refine box_event ?hg (N:=2) ?hd (cs:=#[.int .i64 a0_0,.int .i64 a0_1,.int .i64 a0_2,.int .i64 a0_3]) (t:=33) ?hr ?_;(case hd=>rfl);(case hg=>rfl);(case hr=>first|(go_simp;done)|(go_simp;rfl));intro gb189 hg w7 hbox hb;have n0_:=Aside0.mk (below_step zhb hb);have n1_:=Aside0.mk (hbox);have n2_:=Aside0.mk ((by rw [hg];exact (below_size zhb):w.heap.size≤gb189));have n3_:=Aside0.mk ((by rw [hg];exact (below_size zhb):w.heap.size≤gb189));clear HB;have HB:=n0_;have BK189:=n1_;have GW189:=n2_;have GE189:=n3_;clear n0_ n1_ n2_ n3_;clear hb hbox hg)|((with_reducible refine gate_dst (N:=3) rfl ?_);refine box_event ?hg (N:=3) ?hd (cs:=#[.int .i64 a1_0,.int .i64 a1_1,.int .i64 a1_2,.int .i64 a1_3]) (t:=33) ?hr ?_;(case hd=>rfl);(case hg=>rfl);(case hr=>first|(go_simp;done)|(go_simp;rfl));intro gb190 hg w8 hbox hb;have n0_:=Aside0.mk (blk_below (g:=gb189) (o:=.cells #[.int .i64 a0_0,.int .i64 a0_1,.int .i64 a0_2,.int .i64 a0_3] 33 (0,0)) (by (with_reducible repeat (first|refine blk_drewN ?_ _|refine blk_drew ?_|refine blk_alloc ?_ _));exact BK189.out) hb);have n1_:=Aside0.mk (below_step (by repeat (first|(with_reducible first|exact HB.out|apply below_alloc|apply pw_below_drewN|apply below_drew1|refine below_set ?_ GE189.out)|exact HB.out)) hb);have n2_:=Aside0.mk (hbox);have n3_:=Aside0.mk ((by rw [hg];exact (below_size (by repeat (first|(with_reducible first|exact HB.out|apply below_alloc|apply pw_below_drewN|apply below_drew1|refine below_set ?_ GE189.out)|exact HB.out))):w.heap.size≤gb190));have n4_:=Aside0.mk ((by rw [hg];exact (below_size (by repeat (first|(with_reducible first|exact HB.out|apply below_alloc|apply pw_below_drewN|apply below_drew1|refine below_set ?_ GE189.out)|exact HB.out))):w.heap.size≤gb190));have n5_:=Aside0.mk ((by rw [hg];exact Nat.ne_of_lt (blk_lt (g:=gb189) (o:=.cells #[.int .i64 a0_0,.int .i64 a0_1,.int .i64 a0_2,.int .i64 a0_3] 33 (0,0)) (by (with_reducible repeat (first|refine blk_drewN ?_ _|refine blk_drew ?_|refine blk_alloc ?_ _));exact BK189.out)):gb189≠gb190));have n6_:=Aside0.mk ((by rw [hg];exact Nat.ne_of_gt (blk_lt (g:=gb189) (o:=.cells #[.int .i64 a0_0,.int .i64 a0_1,.int .i64 a0_2,.int .i64 a0_3] 33 (0,0)) (by (with_reducible repeat (first|refine blk_drewN ?_ _|refine blk_drew ?_|refine blk_alloc ?_ _));exact BK189.out)):gb190≠gb189));clear BK189;clear HB;have BK189:=n0_;have HB:=n1_;have BK190:=n2_;have GW190:=n3_;have GE190:=n4_;have NB189_190:=n5_;have NB190_189:=n6_;clear n0_ n1_ n2_ n3_ n4_ n5_ n6_;clear hb hbox hg;have hnb9:=NB189_190.out;have hnc9:=NB190_189.out;have hcz10_0:w8.cell? ⟨gb189,0,none⟩=some (.int .i64 a0_0):=(blk_cell BK189.out 0).trans rfl;have hcz10_1:w8.cell? ⟨gb189,1,none⟩=some (.int .i64 a0_1):=(blk_cell BK189.out 1).trans rfl;have hcz10_2:w8.cell? ⟨gb189,2,none⟩=some (.int .i64 a0_2):=(blk_cell BK189.out 2).trans rfl;have hcz10_3:w8.cell? ⟨gb189,3,none⟩=some (.int .i64 a0_3):=(blk_cell BK189.out 3).trans rfl;have hfz10_0:=blk_frozen BK189.out 0;have hfz10_1:=blk_frozen BK189.out 1;have hfz10_2:=blk_frozen BK189.out 2;have hfz10_3:=blk_frozen BK189.out 3;have hcz11_0:w8.cell? ⟨gb190,0,none⟩=some (.int .i64 a1_0):=(blk_cell BK190.out 0).trans rfl;have hcz11_1:w8.cell? ⟨gb190,1,none⟩=some (.int .i64 a1_1):=(blk_cell BK190.out 1).trans rfl;have hcz11_2:w8.cell? ⟨gb190,2,none⟩=some (.int .i64 a1_2):=(blk_cell BK190.out 2).trans rfl;have hcz11_3:w8.cell? ⟨gb190,3,none⟩=some (.int .i64 a1_3):=(blk_cell BK190.out 3).trans rfl;have hfz11_0:=blk_frozen BK190.out 0;have hfz11_1:=blk_frozen BK190.out 1;have hfz11_2:=blk_frozen BK190.out 2;have hfz11_3:=blk_frozen BK190.out 3))
     go_ret
     exact ⟨by first|rfl|(simp [errW_none,errW_some] <;> rfl)|(simp [*,errW_none,errW_some] <;> rfl),by repeat (first|(with_reducible first|exact HB.out|apply below_alloc|apply pw_below_drewN|apply below_drew1|refine below_set ?_ GE189.out|refine below_set ?_ GE190.out)|exact HB.out)⟩
    ·rw [if_neg c6] at H
     have c6b0:(a0_3 == a1_3)=false:=beq_eq_false_iff_ne.mpr c6
     have c6b1:(a0_3 != a1_3)=true:=bne_iff_ne.mpr c6
     obtain rfl:=Option.some.inj H
     go_enter Try.func43,Try.ntmps43
     go_wp2_with (first|((with_reducible refine gate_dst (N:=2) rfl ?_);refine box_event ?hg (N:=2) ?hd (cs:=#[.int .i64 a0_0,.int .i64 a0_1,.int .i64 a0_2,.int .i64 a0_3]) (t:=33) ?hr ?_;(case hd=>rfl);(case hg=>rfl);(case hr=>first|(go_simp;done)|(go_simp;rfl));intro gb189 hg w12 hbox hb;have n0_:=Aside0.mk (below_step zhb hb);have n1_:=Aside0.mk (hbox);have n2_:=Aside0.mk ((by rw [hg];exact (below_size zhb):w.heap.size≤gb189));have n3_:=Aside0.mk ((by rw [hg];exact (below_size zhb):w.heap.size≤gb189));clear HB;have HB:=n0_;have BK189:=n1_;have GW189:=n2_;have GE189:=n3_;clear n0_ n1_ n2_ n3_;clear hb hbox hg)|((with_reducible refine gate_dst (N:=3) rfl ?_);refine box_event ?hg (N:=3) ?hd (cs:=#[.int .i64 a1_0,.int .i64 a1_1,.int .i64 a1_2,.int .i64 a1_3]) (t:=33) ?hr ?_;(case hd=>rfl);(case hg=>rfl);(case hr=>first|(go_simp;done)|(go_simp;rfl));intro gb190 hg w13 hbox hb;have n0_:=Aside0.mk (blk_below (g:=gb189) (o:=.cells #[.int .i64 a0_0,.int .i64 a0_1,.int .i64 a0_2,.int .i64 a0_3] 33 (0,0)) (by (with_reducible repeat (first|refine blk_drewN ?_ _|refine blk_drew ?_|refine blk_alloc ?_ _));exact BK189.out) hb);have n1_:=Aside0.mk (below_step (by repeat (first|(with_reducible first|exact HB.out|apply below_alloc|apply pw_below_drewN|apply below_drew1|refine below_set ?_ GE189.out)|exact HB.out)) hb);have n2_:=Aside0.mk (hbox);have n3_:=Aside0.mk ((by rw [hg];exact (below_size (by repeat (first|(with_reducible first|exact HB.out|apply below_alloc|apply pw_below_drewN|apply below_drew1|refine below_set ?_ GE189.out)|exact HB.out))):w.heap.size≤gb190));have n4_:=Aside0.mk ((by rw [hg];exact (below_size (by repeat (first|(with_reducible first|exact HB.out|apply below_alloc|apply pw_below_drewN|apply below_drew1|refine below_set ?_ GE189.out)|exact HB.out))):w.heap.size≤gb190));have n5_:=Aside0.mk ((by rw [hg];exact Nat.ne_of_lt (blk_lt (g:=gb189) (o:=.cells #[.int .i64 a0_0,.int .i64 a0_1,.int .i64 a0_2,.int .i64 a0_3] 33 (0,0)) (by (with_reducible repeat (first|refine blk_drewN ?_ _|refine blk_drew ?_|refine blk_alloc ?_ _));exact BK189.out)):gb189≠gb190));have n6_:=Aside0.mk ((by rw [hg];exact Nat.ne_of_gt (blk_lt (g:=gb189) (o:=.cells #[.int .i64 a0_0,.int .i64 a0_1,.int .i64 a0_2,.int .i64 a0_3] 33 (0,0)) (by (with_reducible repeat (first|refine blk_drewN ?_ _|refine blk_drew ?_|refine blk_alloc ?_ _));exact BK189.out)):gb190≠gb189));clear BK189;clear HB;have BK189:=n0_;have HB:=n1_;have BK190:=n2_;have GW190:=n3_;have GE190:=n4_;have NB189_190:=n5_;have NB190_189:=n6_;clear n0_ n1_ n2_ n3_ n4_ n5_ n6_;clear hb hbox hg;have hnb14:=NB189_190.out;have hnc14:=NB190_189.out;have hcz15_0:w13.cell? ⟨gb189,0,none⟩=some (.int .i64 a0_0):=(blk_cell BK189.out 0).trans rfl;have hcz15_1:w13.cell? ⟨gb189,1,none⟩=some (.int .i64 a0_1):=(blk_cell BK189.out 1).trans rfl;have hcz15_2:w13.cell? ⟨gb189,2,none⟩=some (.int .i64 a0_2):=(blk_cell BK189.out 2).trans rfl;have hcz15_3:w13.cell? ⟨gb189,3,none⟩=some (.int .i64 a0_3):=(blk_cell BK189.out 3).trans rfl;have hfz15_0:=blk_frozen BK189.out 0;have hfz15_1:=blk_frozen BK189.out 1;have hfz15_2:=blk_frozen BK189.out 2;have hfz15_3:=blk_frozen BK189.out 3;have hcz16_0:w13.cell? ⟨gb190,0,none⟩=some (.int .i64 a1_0):=(blk_cell BK190.out 0).trans rfl;have hcz16_1:w13.cell? ⟨gb190,1,none⟩=some (.int .i64 a1_1):=(blk_cell BK190.out 1).trans rfl;have hcz16_2:w13.cell? ⟨gb190,2,none⟩=some (.int .i64 a1_2):=(blk_cell BK190.out 2).trans rfl;have hcz16_3:w13.cell? ⟨gb190,3,none⟩=some (.int .i64 a1_3):=(blk_cell BK190.out 3).trans rfl;have hfz16_0:=blk_frozen BK190.out 0;have hfz16_1:=blk_frozen BK190.out 1;have hfz16_2:=blk_frozen BK190.out 2;have hfz16_3:=blk_frozen BK190.out 3))
     go_ret
     exact ⟨by first|rfl|(simp [errW_none,errW_some] <;> rfl)|(simp [*,errW_none,errW_some] <;> rfl),by repeat (first|(with_reducible first|exact HB.out|apply below_alloc|apply pw_below_drewN|apply below_drew1|refine below_set ?_ GE189.out|refine below_set ?_ GE190.out)|exact HB.out)⟩
   ·rw [if_neg c5] at H
    have c5b0:(a0_2 == a1_2)=false:=beq_eq_false_iff_ne.mpr c5
    have c5b1:(a0_2 != a1_2)=true:=bne_iff_ne.mpr c5
    obtain rfl:=Option.some.inj H
    go_enter Try.func43,Try.ntmps43
    go_wp2_with (first|((with_reducible refine gate_dst (N:=2) rfl ?_);refine box_event ?hg (N:=2) ?hd (cs:=#[.int .i64 a0_0,.int .i64 a0_1,.int .i64 a0_2,.int .i64 a0_3]) (t:=33) ?hr ?_;(case hd=>rfl);(case hg=>rfl);(case hr=>first|(go_simp;done)|(go_simp;rfl));intro gb189 hg w17 hbox hb;have n0_:=Aside0.mk (below_step zhb hb);have n1_:=Aside0.mk (hbox);have n2_:=Aside0.mk ((by rw [hg];exact (below_size zhb):w.heap.size≤gb189));have n3_:=Aside0.mk ((by rw [hg];exact (below_size zhb):w.heap.size≤gb189));clear HB;have HB:=n0_;have BK189:=n1_;have GW189:=n2_;have GE189:=n3_;clear n0_ n1_ n2_ n3_;clear hb hbox hg)|((with_reducible refine gate_dst (N:=3) rfl ?_);refine box_event ?hg (N:=3) ?hd (cs:=#[.int .i64 a1_0,.int .i64 a1_1,.int .i64 a1_2,.int .i64 a1_3]) (t:=33) ?hr ?_;(case hd=>rfl);(case hg=>rfl);(case hr=>first|(go_simp;done)|(go_simp;rfl));intro gb190 hg w18 hbox hb;have n0_:=Aside0.mk (blk_below (g:=gb189) (o:=.cells #[.int .i64 a0_0,.int .i64 a0_1,.int .i64 a0_2,.int .i64 a0_3] 33 (0,0)) (by (with_reducible repeat (first|refine blk_drewN ?_ _|refine blk_drew ?_|refine blk_alloc ?_ _));exact BK189.out) hb);have n1_:=Aside0.mk (below_step (by repeat (first|(with_reducible first|exact HB.out|apply below_alloc|apply pw_below_drewN|apply below_drew1|refine below_set ?_ GE189.out)|exact HB.out)) hb);have n2_:=Aside0.mk (hbox);have n3_:=Aside0.mk ((by rw [hg];exact (below_size (by repeat (first|(with_reducible first|exact HB.out|apply below_alloc|apply pw_below_drewN|apply below_drew1|refine below_set ?_ GE189.out)|exact HB.out))):w.heap.size≤gb190));have n4_:=Aside0.mk ((by rw [hg];exact (below_size (by repeat (first|(with_reducible first|exact HB.out|apply below_alloc|apply pw_below_drewN|apply below_drew1|refine below_set ?_ GE189.out)|exact HB.out))):w.heap.size≤gb190));have n5_:=Aside0.mk ((by rw [hg];exact Nat.ne_of_lt (blk_lt (g:=gb189) (o:=.cells #[.int .i64 a0_0,.int .i64 a0_1,.int .i64 a0_2,.int .i64 a0_3] 33 (0,0)) (by (with_reducible repeat (first|refine blk_drewN ?_ _|refine blk_drew ?_|refine blk_alloc ?_ _));exact BK189.out)):gb189≠gb190));have n6_:=Aside0.mk ((by rw [hg];exact Nat.ne_of_gt (blk_lt (g:=gb189) (o:=.cells #[.int .i64 a0_0,.int .i64 a0_1,.int .i64 a0_2,.int .i64 a0_3] 33 (0,0)) (by (with_reducible repeat (first|refine blk_drewN ?_ _|refine blk_drew ?_|refine blk_alloc ?_ _));exact BK189.out)):gb190≠gb189));clear BK189;clear HB;have BK189:=n0_;have HB:=n1_;have BK190:=n2_;have GW190:=n3_;have GE190:=n4_;have NB189_190:=n5_;have NB190_189:=n6_;clear n0_ n1_ n2_ n3_ n4_ n5_ n6_;clear hb hbox hg;have hnb19:=NB189_190.out;have hnc19:=NB190_189.out;have hcz20_0:w18.cell? ⟨gb189,0,none⟩=some (.int .i64 a0_0):=(blk_cell BK189.out 0).trans rfl;have hcz20_1:w18.cell? ⟨gb189,1,none⟩=some (.int .i64 a0_1):=(blk_cell BK189.out 1).trans rfl;have hcz20_2:w18.cell? ⟨gb189,2,none⟩=some (.int .i64 a0_2):=(blk_cell BK189.out 2).trans rfl;have hcz20_3:w18.cell? ⟨gb189,3,none⟩=some (.int .i64 a0_3):=(blk_cell BK189.out 3).trans rfl;have hfz20_0:=blk_frozen BK189.out 0;have hfz20_1:=blk_frozen BK189.out 1;have hfz20_2:=blk_frozen BK189.out 2;have hfz20_3:=blk_frozen BK189.out 3;have hcz21_0:w18.cell? ⟨gb190,0,none⟩=some (.int .i64 a1_0):=(blk_cell BK190.out 0).trans rfl;have hcz21_1:w18.cell? ⟨gb190,1,none⟩=some (.int .i64 a1_1):=(blk_cell BK190.out 1).trans rfl;have hcz21_2:w18.cell? ⟨gb190,2,none⟩=some (.int .i64 a1_2):=(blk_cell BK190.out 2).trans rfl;have hcz21_3:w18.cell? ⟨gb190,3,none⟩=some (.int .i64 a1_3):=(blk_cell BK190.out 3).trans rfl;have hfz21_0:=blk_frozen BK190.out 0;have hfz21_1:=blk_frozen BK190.out 1;have hfz21_2:=blk_frozen BK190.out 2;have hfz21_3:=blk_frozen BK190.out 3))
    go_ret
    exact ⟨by first|rfl|(simp [errW_none,errW_some] <;> rfl)|(simp [*,errW_none,errW_some] <;> rfl),by repeat (first|(with_reducible first|exact HB.out|apply below_alloc|apply pw_below_drewN|apply below_drew1|refine below_set ?_ GE189.out|refine below_set ?_ GE190.out)|exact HB.out)⟩
  ·rw [if_neg c4] at H
   have c4b0:(a0_1 == a1_1)=false:=beq_eq_false_iff_ne.mpr c4
   have c4b1:(a0_1 != a1_1)=true:=bne_iff_ne.mpr c4
   obtain rfl:=Option.some.inj H
   go_enter Try.func43,Try.ntmps43
   go_wp2_with (first|((with_reducible refine gate_dst (N:=2) rfl ?_);refine box_event ?hg (N:=2) ?hd (cs:=#[.int .i64 a0_0,.int .i64 a0_1,.int .i64 a0_2,.int .i64 a0_3]) (t:=33) ?hr ?_;(case hd=>rfl);(case hg=>rfl);(case hr=>first|(go_simp;done)|(go_simp;rfl));intro gb189 hg w22 hbox hb;have n0_:=Aside0.mk (below_step zhb hb);have n1_:=Aside0.mk (hbox);have n2_:=Aside0.mk ((by rw [hg];exact (below_size zhb):w.heap.size≤gb189));have n3_:=Aside0.mk ((by rw [hg];exact (below_size zhb):w.heap.size≤gb189));clear HB;have HB:=n0_;have BK189:=n1_;have GW189:=n2_;have GE189:=n3_;clear n0_ n1_ n2_ n3_;clear hb hbox hg)|((with_reducible refine gate_dst (N:=3) rfl ?_);refine box_event ?hg (N:=3) ?hd (cs:=#[.int .i64 a1_0,.int .i64 a1_1,.int .i64 a1_2,.int .i64 a1_3]) (t:=33) ?hr ?_;(case hd=>rfl);(case hg=>rfl);(case hr=>first|(go_simp;done)|(go_simp;rfl));intro gb190 hg w23 hbox hb;have n0_:=Aside0.mk (blk_below (g:=gb189) (o:=.cells #[.int .i64 a0_0,.int .i64 a0_1,.int .i64 a0_2,.int .i64 a0_3] 33 (0,0)) (by (with_reducible repeat (first|refine blk_drewN ?_ _|refine blk_drew ?_|refine blk_alloc ?_ _));exact BK189.out) hb);have n1_:=Aside0.mk (below_step (by repeat (first|(with_reducible first|exact HB.out|apply below_alloc|apply pw_below_drewN|apply below_drew1|refine below_set ?_ GE189.out)|exact HB.out)) hb);have n2_:=Aside0.mk (hbox);have n3_:=Aside0.mk ((by rw [hg];exact (below_size (by repeat (first|(with_reducible first|exact HB.out|apply below_alloc|apply pw_below_drewN|apply below_drew1|refine below_set ?_ GE189.out)|exact HB.out))):w.heap.size≤gb190));have n4_:=Aside0.mk ((by rw [hg];exact (below_size (by repeat (first|(with_reducible first|exact HB.out|apply below_alloc|apply pw_below_drewN|apply below_drew1|refine below_set ?_ GE189.out)|exact HB.out))):w.heap.size≤gb190));have n5_:=Aside0.mk ((by rw [hg];exact Nat.ne_of_lt (blk_lt (g:=gb189) (o:=.cells #[.int .i64 a0_0,.int .i64 a0_1,.int .i64 a0_2,.int .i64 a0_3] 33 (0,0)) (by (with_reducible repeat (first|refine blk_drewN ?_ _|refine blk_drew ?_|refine blk_alloc ?_ _));exact BK189.out)):gb189≠gb190));have n6_:=Aside0.mk ((by rw [hg];exact Nat.ne_of_gt (blk_lt (g:=gb189) (o:=.cells #[.int .i64 a0_0,.int .i64 a0_1,.int .i64 a0_2,.int .i64 a0_3] 33 (0,0)) (by (with_reducible repeat (first|refine blk_drewN ?_ _|refine blk_drew ?_|refine blk_alloc ?_ _));exact BK189.out)):gb190≠gb189));clear BK189;clear HB;have BK189:=n0_;have HB:=n1_;have BK190:=n2_;have GW190:=n3_;have GE190:=n4_;have NB189_190:=n5_;have NB190_189:=n6_;clear n0_ n1_ n2_ n3_ n4_ n5_ n6_;clear hb hbox hg;have hnb24:=NB189_190.out;have hnc24:=NB190_189.out;have hcz25_0:w23.cell? ⟨gb189,0,none⟩=some (.int .i64 a0_0):=(blk_cell BK189.out 0).trans rfl;have hcz25_1:w23.cell? ⟨gb189,1,none⟩=some (.int .i64 a0_1):=(blk_cell BK189.out 1).trans rfl;have hcz25_2:w23.cell? ⟨gb189,2,none⟩=some (.int .i64 a0_2):=(blk_cell BK189.out 2).trans rfl;have hcz25_3:w23.cell? ⟨gb189,3,none⟩=some (.int .i64 a0_3):=(blk_cell BK189.out 3).trans rfl;have hfz25_0:=blk_frozen BK189.out 0;have hfz25_1:=blk_frozen BK189.out 1;have hfz25_2:=blk_frozen BK189.out 2;have hfz25_3:=blk_frozen BK189.out 3;have hcz26_0:w23.cell? ⟨gb190,0,none⟩=some (.int .i64 a1_0):=(blk_cell BK190.out 0).trans rfl;have hcz26_1:w23.cell? ⟨gb190,1,none⟩=some (.int .i64 a1_1):=(blk_cell BK190.out 1).trans rfl;have hcz26_2:w23.cell? ⟨gb190,2,none⟩=some (.int .i64 a1_2):=(blk_cell BK190.out 2).trans rfl;have hcz26_3:w23.cell? ⟨gb190,3,none⟩=some (.int .i64 a1_3):=(blk_cell BK190.out 3).trans rfl;have hfz26_0:=blk_frozen BK190.out 0;have hfz26_1:=blk_frozen BK190.out 1;have hfz26_2:=blk_frozen BK190.out 2;have hfz26_3:=blk_frozen BK190.out 3))
   go_ret
   exact ⟨by first|rfl|(simp [errW_none,errW_some] <;> rfl)|(simp [*,errW_none,errW_some] <;> rfl),by repeat (first|(with_reducible first|exact HB.out|apply below_alloc|apply pw_below_drewN|apply below_drew1|refine below_set ?_ GE189.out|refine below_set ?_ GE190.out)|exact HB.out)⟩
 ·rw [if_neg c3] at H
  have c3b0:(a0_0 == a1_0)=false:=beq_eq_false_iff_ne.mpr c3
  have c3b1:(a0_0 != a1_0)=true:=bne_iff_ne.mpr c3
  obtain rfl:=Option.some.inj H
  go_enter Try.func43,Try.ntmps43
  go_wp2_with (first|((with_reducible refine gate_dst (N:=2) rfl ?_);refine box_event ?hg (N:=2) ?hd (cs:=#[.int .i64 a0_0,.int .i64 a0_1,.int .i64 a0_2,.int .i64 a0_3]) (t:=33) ?hr ?_;(case hd=>rfl);(case hg=>rfl);(case hr=>first|(go_simp;done)|(go_simp;rfl));intro gb189 hg w27 hbox hb;have n0_:=Aside0.mk (below_step zhb hb);have n1_:=Aside0.mk (hbox);have n2_:=Aside0.mk ((by rw [hg];exact (below_size zhb):w.heap.size≤gb189));have n3_:=Aside0.mk ((by rw [hg];exact (below_size zhb):w.heap.size≤gb189));clear HB;have HB:=n0_;have BK189:=n1_;have GW189:=n2_;have GE189:=n3_;clear n0_ n1_ n2_ n3_;clear hb hbox hg)|((with_reducible refine gate_dst (N:=3) rfl ?_);refine box_event ?hg (N:=3) ?hd (cs:=#[.int .i64 a1_0,.int .i64 a1_1,.int .i64 a1_2,.int .i64 a1_3]) (t:=33) ?hr ?_;(case hd=>rfl);(case hg=>rfl);(case hr=>first|(go_simp;done)|(go_simp;rfl));intro gb190 hg w28 hbox hb;have n0_:=Aside0.mk (blk_below (g:=gb189) (o:=.cells #[.int .i64 a0_0,.int .i64 a0_1,.int .i64 a0_2,.int .i64 a0_3] 33 (0,0)) (by (with_reducible repeat (first|refine blk_drewN ?_ _|refine blk_drew ?_|refine blk_alloc ?_ _));exact BK189.out) hb);have n1_:=Aside0.mk (below_step (by repeat (first|(with_reducible first|exact HB.out|apply below_alloc|apply pw_below_drewN|apply below_drew1|refine below_set ?_ GE189.out)|exact HB.out)) hb);have n2_:=Aside0.mk (hbox);have n3_:=Aside0.mk ((by rw [hg];exact (below_size (by repeat (first|(with_reducible first|exact HB.out|apply below_alloc|apply pw_below_drewN|apply below_drew1|refine below_set ?_ GE189.out)|exact HB.out))):w.heap.size≤gb190));have n4_:=Aside0.mk ((by rw [hg];exact (below_size (by repeat (first|(with_reducible first|exact HB.out|apply below_alloc|apply pw_below_drewN|apply below_drew1|refine below_set ?_ GE189.out)|exact HB.out))):w.heap.size≤gb190));have n5_:=Aside0.mk ((by rw [hg];exact Nat.ne_of_lt (blk_lt (g:=gb189) (o:=.cells #[.int .i64 a0_0,.int .i64 a0_1,.int .i64 a0_2,.int .i64 a0_3] 33 (0,0)) (by (with_reducible repeat (first|refine blk_drewN ?_ _|refine blk_drew ?_|refine blk_alloc ?_ _));exact BK189.out)):gb189≠gb190));have n6_:=Aside0.mk ((by rw [hg];exact Nat.ne_of_gt (blk_lt (g:=gb189) (o:=.cells #[.int .i64 a0_0,.int .i64 a0_1,.int .i64 a0_2,.int .i64 a0_3] 33 (0,0)) (by (with_reducible repeat (first|refine blk_drewN ?_ _|refine blk_drew ?_|refine blk_alloc ?_ _));exact BK189.out)):gb190≠gb189));clear BK189;clear HB;have BK189:=n0_;have HB:=n1_;have BK190:=n2_;have GW190:=n3_;have GE190:=n4_;have NB189_190:=n5_;have NB190_189:=n6_;clear n0_ n1_ n2_ n3_ n4_ n5_ n6_;clear hb hbox hg;have hnb29:=NB189_190.out;have hnc29:=NB190_189.out;have hcz30_0:w28.cell? ⟨gb189,0,none⟩=some (.int .i64 a0_0):=(blk_cell BK189.out 0).trans rfl;have hcz30_1:w28.cell? ⟨gb189,1,none⟩=some (.int .i64 a0_1):=(blk_cell BK189.out 1).trans rfl;have hcz30_2:w28.cell? ⟨gb189,2,none⟩=some (.int .i64 a0_2):=(blk_cell BK189.out 2).trans rfl;have hcz30_3:w28.cell? ⟨gb189,3,none⟩=some (.int .i64 a0_3):=(blk_cell BK189.out 3).trans rfl;have hfz30_0:=blk_frozen BK189.out 0;have hfz30_1:=blk_frozen BK189.out 1;have hfz30_2:=blk_frozen BK189.out 2;have hfz30_3:=blk_frozen BK189.out 3;have hcz31_0:w28.cell? ⟨gb190,0,none⟩=some (.int .i64 a1_0):=(blk_cell BK190.out 0).trans rfl;have hcz31_1:w28.cell? ⟨gb190,1,none⟩=some (.int .i64 a1_1):=(blk_cell BK190.out 1).trans rfl;have hcz31_2:w28.cell? ⟨gb190,2,none⟩=some (.int .i64 a1_2):=(blk_cell BK190.out 2).trans rfl;have hcz31_3:w28.cell? ⟨gb190,3,none⟩=some (.int .i64 a1_3):=(blk_cell BK190.out 3).trans rfl;have hfz31_0:=blk_frozen BK190.out 0;have hfz31_1:=blk_frozen BK190.out 1;have hfz31_2:=blk_frozen BK190.out 2;have hfz31_3:=blk_frozen BK190.out 3))
  go_ret
  exact ⟨by first|rfl|(simp [errW_none,errW_some] <;> rfl)|(simp [*,errW_none,errW_some] <;> rfl),by repeat (first|(with_reducible first|exact HB.out|apply below_alloc|apply pw_below_drewN|apply below_drew1|refine below_set ?_ GE189.out|refine below_set ?_ GE190.out)|exact HB.out)⟩

/-! ### laws_eqTest: function 27 -/
def laws_eqTest.f (a0_0:Int) (a0_1:Bool) (a0_2:Int) (a0_3:Int) (a0_4:Int) (a0_5:Int) (a0_6:Int) (a0_7:Int) (a0_8:Int) (a0_9:Int) (a1_0:Int) (a1_1:Bool) (a1_2:Int) (a1_3:Int) (a1_4:Int) (a1_5:Int) (a1_6:Int) (a1_7:Int) (a1_8:Int) (a1_9:Int):Option (Bool):=if a0_0=a1_0 then (if (a0_1 != a1_1)=true then (some false) else ((laws_eqCell.f a0_2 a0_3 a0_4 a0_5 a1_2 a1_3 a1_4 a1_5).bind fun t193=>(if t193=true then ((laws_eqCell.f a0_6 a0_7 a0_8 a0_9 a1_6 a1_7 a1_8 a1_9).bind fun t194=>(if t194=true then (some true) else (some false))) else (some false)))) else (some false)
set_option maxHeartbeats 8000000 in
set_option maxRecDepth 100000 in
theorem laws_eqTest.calls (a0_0:Int) (a0_1:Bool) (a0_2:Int) (a0_3:Int) (a0_4:Int) (a0_5:Int) (a0_6:Int) (a0_7:Int) (a0_8:Int) (a0_9:Int) (a1_0:Int) (a1_1:Bool) (a1_2:Int) (a1_3:Int) (a1_4:Int) (a1_5:Int) (a1_6:Int) (a1_7:Int) (a1_8:Int) (a1_9:Int) (r:Bool) (w:World) (h:laws_eqTest.f a0_0 a0_1 a0_2 a0_3 a0_4 a0_5 a0_6 a0_7 a0_8 a0_9 a1_0 a1_1 a1_2 a1_3 a1_4 a1_5 a1_6 a1_7 a1_8 a1_9=some r) :
  Calls Try.prog 27 #[.agg #[.int .i64 a0_0,.bool a0_1,.int .i64 a0_2,.int .i64 a0_3,.int .i64 a0_4,.int .i64 a0_5,.int .i64 a0_6,.int .i64 a0_7,.int .i64 a0_8,.int .i64 a0_9],.agg #[.int .i64 a1_0,.bool a1_1,.int .i64 a1_2,.int .i64 a1_3,.int .i64 a1_4,.int .i64 a1_5,.int .i64 a1_6,.int .i64 a1_7,.int .i64 a1_8,.int .i64 a1_9]] w fun e w'=>e=.returned (.bool r)∧Below w.heap.size w w':=by
 have hu35:=Try.underlying35
 have hu33:=Try.underlying33
 have HB:=Aside0.mk (Below.refl w.heap.size w)
 have H:(if a0_0=a1_0 then (if (a0_1 != a1_1)=true then (some false) else ((laws_eqCell.f a0_2 a0_3 a0_4 a0_5 a1_2 a1_3 a1_4 a1_5).bind fun t193=>(if t193=true then ((laws_eqCell.f a0_6 a0_7 a0_8 a0_9 a1_6 a1_7 a1_8 a1_9).bind fun t194=>(if t194=true then (some true) else (some false))) else (some false)))) else (some false))=some r:=h
 clear h
 by_cases c3:a0_0=a1_0
 ·rw [if_pos c3] at H
  have c3b0:(a0_0 == a1_0)=true:=beq_iff_eq.mpr c3
  have c3b1:(a0_0 != a1_0)=false:=bne_eq_false_iff_eq.mpr c3
  clear c3
  by_cases c4:(a0_1 != a1_1)=true
  ·rw [if_pos c4] at H
   have c4b0:(a0_1 != a1_1)=true:=c4
   (try (have c4b1:decide (a0_1=a1_1)=false:=by simpa using c4))
   (try (have c4b2:(a0_1 == a1_1)=false:=by simpa using c4))
   (try (have c4b3 : ¬ (a0_1=a1_1):=by simpa using c4))
   clear c4
   obtain rfl:=Option.some.inj H
   go_enter Try.func27,Try.ntmps27
   go_wp2_with (first|((with_reducible refine gate_dst (N:=2) rfl ?_);refine box_event ?hg (N:=2) ?hd (cs:=#[.int .i64 a0_0,.bool a0_1,.int .i64 a0_2,.int .i64 a0_3,.int .i64 a0_4,.int .i64 a0_5,.int .i64 a0_6,.int .i64 a0_7,.int .i64 a0_8,.int .i64 a0_9]) (t:=35) ?hr ?_;(case hd=>rfl);(case hg=>rfl);(case hr=>first|(go_simp;done)|(go_simp;rfl));intro gb191 hg w5 hbox hb;have n0_:=Aside0.mk (below_step zhb hb);have n1_:=Aside0.mk (hbox);have n2_:=Aside0.mk ((by rw [hg];exact (below_size zhb):w.heap.size≤gb191));have n3_:=Aside0.mk ((by rw [hg];exact (below_size zhb):w.heap.size≤gb191));clear HB;have HB:=n0_;have BK191:=n1_;have GW191:=n2_;have GE191:=n3_;clear n0_ n1_ n2_ n3_;clear hb hbox hg)|((with_reducible refine gate_dst (N:=3) rfl ?_);refine box_event ?hg (N:=3) ?hd (cs:=#[.int .i64 a1_0,.bool a1_1,.int .i64 a1_2,.int .i64 a1_3,.int .i64 a1_4,.int .i64 a1_5,.int .i64 a1_6,.int .i64 a1_7,.int .i64 a1_8,.int .i64 a1_9]) (t:=35) ?hr ?_;(case hd=>rfl);(case hg=>rfl);(case hr=>first|(go_simp;done)|(go_simp;rfl));intro gb192 hg w6 hbox hb;have n0_:=Aside0.mk (blk_below (g:=gb191) (o:=.cells #[.int .i64 a0_0,.bool a0_1,.int .i64 a0_2,.int .i64 a0_3,.int .i64 a0_4,.int .i64 a0_5,.int .i64 a0_6,.int .i64 a0_7,.int .i64 a0_8,.int .i64 a0_9] 35 (0,0)) (by (with_reducible repeat (first|refine blk_drewN ?_ _|refine blk_drew ?_|refine blk_alloc ?_ _));exact BK191.out) hb);have n1_:=Aside0.mk (below_step (by repeat (first|(with_reducible first|exact HB.out|apply below_alloc|apply pw_below_drewN|apply below_drew1|refine below_set ?_ GE191.out)|exact HB.out)) hb);have n2_:=Aside0.mk (hbox);have n3_:=Aside0.mk ((by rw [hg];exact (below_size (by repeat (first|(with_reducible first|exact HB.out|apply below_alloc|apply pw_below_drewN|apply below_drew1|refine below_set ?_ GE191.out)|exact HB.out))):w.heap.size≤gb192));have n4_:=Aside0.mk ((by rw [hg];exact (below_size (by repeat (first|(with_reducible first|exact HB.out|apply below_alloc|apply pw_below_drewN|apply below_drew1|refine below_set ?_ GE191.out)|exact HB.out))):w.heap.size≤gb192));have n5_:=Aside0.mk ((by rw [hg];exact Nat.ne_of_lt (blk_lt (g:=gb191) (o:=.cells #[.int .i64 a0_0,.bool a0_1,.int .i64 a0_2,.int .i64 a0_3,.int .i64 a0_4,.int .i64 a0_5,.int .i64 a0_6,.int .i64 a0_7,.int .i64 a0_8,.int .i64 a0_9] 35 (0,0)) (by (with_reducible repeat (first|refine blk_drewN ?_ _|refine blk_drew ?_|refine blk_alloc ?_ _));exact BK191.out)):gb191≠gb192));have n6_:=Aside0.mk ((by rw [hg];exact Nat.ne_of_gt (blk_lt (g:=gb191) (o:=.cells #[.int .i64 a0_0,.bool a0_1,.int .i64 a0_2,.int .i64 a0_3,.int .i64 a0_4,.int .i64 a0_5,.int .i64 a0_6,.int .i64 a0_7,.int .i64 a0_8,.int .i64 a0_9] 35 (0,0)) (by (with_reducible repeat (first|refine blk_drewN ?_ _|refine blk_drew ?_|refine blk_alloc ?_ _));exact BK191.out)):gb192≠gb191));clear BK191;clear HB;have BK191:=n0_;have HB:=n1_;have BK192:=n2_;have GW192:=n3_;have GE192:=n4_;have NB191_192:=n5_;have NB192_191:=n6_;clear n0_ n1_ n2_ n3_ n4_ n5_ n6_;clear hb hbox hg;have hnb7:=NB191_192.out;have hnc7:=NB192_191.out;have hcz8_0:w6.cell? ⟨gb191,0,none⟩=some (.int .i64 a0_0):=(blk_cell BK191.out 0).trans rfl;have hcz8_1:w6.cell? ⟨gb191,1,none⟩=some (.bool a0_1):=(blk_cell BK191.out 1).trans rfl;have hcz8_2:w6.cell? ⟨gb191,2,none⟩=some (.int .i64 a0_2):=(blk_cell BK191.out 2).trans rfl;have hcz8_3:w6.cell? ⟨gb191,3,none⟩=some (.int .i64 a0_3):=(blk_cell BK191.out 3).trans rfl;have hcz8_4:w6.cell? ⟨gb191,4,none⟩=some (.int .i64 a0_4):=(blk_cell BK191.out 4).trans rfl;have hcz8_5:w6.cell? ⟨gb191,5,none⟩=some (.int .i64 a0_5):=(blk_cell BK191.out 5).trans rfl;have hcz8_6:w6.cell? ⟨gb191,6,none⟩=some (.int .i64 a0_6):=(blk_cell BK191.out 6).trans rfl;have hcz8_7:w6.cell? ⟨gb191,7,none⟩=some (.int .i64 a0_7):=(blk_cell BK191.out 7).trans rfl;have hcz8_8:w6.cell? ⟨gb191,8,none⟩=some (.int .i64 a0_8):=(blk_cell BK191.out 8).trans rfl;have hcz8_9:w6.cell? ⟨gb191,9,none⟩=some (.int .i64 a0_9):=(blk_cell BK191.out 9).trans rfl;have hfz8_0:=blk_frozen BK191.out 0;have hfz8_1:=blk_frozen BK191.out 1;have hfz8_2:=blk_frozen BK191.out 2;have hfz8_3:=blk_frozen BK191.out 3;have hfz8_4:=blk_frozen BK191.out 4;have hfz8_5:=blk_frozen BK191.out 5;have hfz8_6:=blk_frozen BK191.out 6;have hfz8_7:=blk_frozen BK191.out 7;have hfz8_8:=blk_frozen BK191.out 8;have hfz8_9:=blk_frozen BK191.out 9;have hcz9_0:w6.cell? ⟨gb192,0,none⟩=some (.int .i64 a1_0):=(blk_cell BK192.out 0).trans rfl;have hcz9_1:w6.cell? ⟨gb192,1,none⟩=some (.bool a1_1):=(blk_cell BK192.out 1).trans rfl;have hcz9_2:w6.cell? ⟨gb192,2,none⟩=some (.int .i64 a1_2):=(blk_cell BK192.out 2).trans rfl;have hcz9_3:w6.cell? ⟨gb192,3,none⟩=some (.int .i64 a1_3):=(blk_cell BK192.out 3).trans rfl;have hcz9_4:w6.cell? ⟨gb192,4,none⟩=some (.int .i64 a1_4):=(blk_cell BK192.out 4).trans rfl;have hcz9_5:w6.cell? ⟨gb192,5,none⟩=some (.int .i64 a1_5):=(blk_cell BK192.out 5).trans rfl;have hcz9_6:w6.cell? ⟨gb192,6,none⟩=some (.int .i64 a1_6):=(blk_cell BK192.out 6).trans rfl;have hcz9_7:w6.cell? ⟨gb192,7,none⟩=some (.int .i64 a1_7):=(blk_cell BK192.out 7).trans rfl;have hcz9_8:w6.cell? ⟨gb192,8,none⟩=some (.int .i64 a1_8):=(blk_cell BK192.out 8).trans rfl;have hcz9_9:w6.cell? ⟨gb192,9,none⟩=some (.int .i64 a1_9):=(blk_cell BK192.out 9).trans rfl;have hfz9_0:=blk_frozen BK192.out 0;have hfz9_1:=blk_frozen BK192.out 1;have hfz9_2:=blk_frozen BK192.out 2;have hfz9_3:=blk_frozen BK192.out 3;have hfz9_4:=blk_frozen BK192.out 4;have hfz9_5:=blk_frozen BK192.out 5;have hfz9_6:=blk_frozen BK192.out 6;have hfz9_7:=blk_frozen BK192.out 7;have hfz9_8:=blk_frozen BK192.out 8;have hfz9_9:=blk_frozen BK192.out 9))
   go_ret
   exact ⟨by first|rfl|(simp [errW_none,errW_some] <;> rfl)|(simp [*,errW_none,errW_some] <;> rfl),by repeat (first|(with_reducible first|exact HB.out|apply below_alloc|apply pw_below_drewN|apply below_drew1|refine below_set ?_ GE191.out|refine below_set ?_ GE192.out)|exact HB.out)⟩
  ·rw [if_neg c4] at H
   have c4b0:(a0_1 != a1_1)=false:=by simpa using c4
   (try (have c4b1:decide (a0_1=a1_1)=true:=by simpa using c4))
   (try (have c4b2:(a0_1 == a1_1)=true:=by simpa using c4))
   clear c4
   replace H:=Option.bind_eq_some_iff.mp H
   obtain ⟨t193,A100,H⟩:=H
   (try dsimp only at H)
   have A10:=Aside0.mk A100
   clear A100
   by_cases c11:t193=true
   ·subst c11
    have H1:((laws_eqCell.f a0_6 a0_7 a0_8 a0_9 a1_6 a1_7 a1_8 a1_9).bind fun t194=>(if t194=true then (some true) else (some false)))=some r:=by rw [if_pos rfl] at H;exact H
    clear H
    have H:=H1
    clear H1
    replace H:=Option.bind_eq_some_iff.mp H
    obtain ⟨t194,A120,H⟩:=H
    (try dsimp only at H)
    have A12:=Aside0.mk A120
    clear A120
    by_cases c13:t194=true
    ·subst c13
     have H1:(some true)=some r:=by rw [if_pos rfl] at H;exact H
     clear H
     have H:=H1
     clear H1
     obtain rfl:=Option.some.inj H
     go_enter Try.func27,Try.ntmps27
     go_wp2_with (first|((with_reducible refine gate_dst (N:=2) rfl ?_);refine box_event ?hg (N:=2) ?hd (cs:=#[.int .i64 a0_0,.bool a0_1,.int .i64 a0_2,.int .i64 a0_3,.int .i64 a0_4,.int .i64 a0_5,.int .i64 a0_6,.int .i64 a0_7,.int .i64 a0_8,.int .i64 a0_9]) (t:=35) ?hr ?_;(case hd=>rfl);(case hg=>rfl);(case hr=>first|(go_simp;done)|(go_simp;rfl));intro gb191 hg w14 hbox hb;have n0_:=Aside0.mk (below_step zhb hb);have n1_:=Aside0.mk (hbox);have n2_:=Aside0.mk ((by rw [hg];exact (below_size zhb):w.heap.size≤gb191));have n3_:=Aside0.mk ((by rw [hg];exact (below_size zhb):w.heap.size≤gb191));clear HB;have HB:=n0_;have BK191:=n1_;have GW191:=n2_;have GE191:=n3_;clear n0_ n1_ n2_ n3_;clear hb hbox hg)|((with_reducible refine gate_dst (N:=3) rfl ?_);refine box_event ?hg (N:=3) ?hd (cs:=#[.int .i64 a1_0,.bool a1_1,.int .i64 a1_2,.int .i64 a1_3,.int .i64 a1_4,.int .i64 a1_5,.int .i64 a1_6,.int .i64 a1_7,.int .i64 a1_8,.int .i64 a1_9]) (t:=35) ?hr ?_;(case hd=>rfl);(case hg=>rfl);(case hr=>first|(go_simp;done)|(go_simp;rfl));intro gb192 hg w15 hbox hb;have n0_:=Aside0.mk (blk_below (g:=gb191) (o:=.cells #[.int .i64 a0_0,.bool a0_1,.int .i64 a0_2,.int .i64 a0_3,.int .i64 a0_4,.int .i64 a0_5,.int .i64 a0_6,.int .i64 a0_7,.int .i64 a0_8,.int .i64 a0_9] 35 (0,0)) (by (with_reducible repeat (first|refine blk_drewN ?_ _|refine blk_drew ?_|refine blk_alloc ?_ _));exact BK191.out) hb);have n1_:=Aside0.mk (below_step (by repeat (first|(with_reducible first|exact HB.out|apply below_alloc|apply pw_below_drewN|apply below_drew1|refine below_set ?_ GE191.out)|exact HB.out)) hb);have n2_:=Aside0.mk (hbox);have n3_:=Aside0.mk ((by rw [hg];exact (below_size (by repeat (first|(with_reducible first|exact HB.out|apply below_alloc|apply pw_below_drewN|apply below_drew1|refine below_set ?_ GE191.out)|exact HB.out))):w.heap.size≤gb192));have n4_:=Aside0.mk ((by rw [hg];exact (below_size (by repeat (first|(with_reducible first|exact HB.out|apply below_alloc|apply pw_below_drewN|apply below_drew1|refine below_set ?_ GE191.out)|exact HB.out))):w.heap.size≤gb192));have n5_:=Aside0.mk ((by rw [hg];exact Nat.ne_of_lt (blk_lt (g:=gb191) (o:=.cells #[.int .i64 a0_0,.bool a0_1,.int .i64 a0_2,.int .i64 a0_3,.int .i64 a0_4,.int .i64 a0_5,.int .i64 a0_6,.int .i64 a0_7,.int .i64 a0_8,.int .i64 a0_9] 35 (0,0)) (by (with_reducible repeat (first|refine blk_drewN ?_ _|refine blk_drew ?_|refine blk_alloc ?_ _));exact BK191.out)):gb191≠gb192));have n6_:=Aside0.mk ((by rw [hg];exact Nat.ne_of_gt (blk_lt (g:=gb191) (o:=.cells #[.int .i64 a0_0,.bool a0_1,.int .i64 a0_2,.int .i64 a0_3,.int .i64 a0_4,.int .i64 a0_5,.int .i64 a0_6,.int .i64 a0_7,.int .i64 a0_8,.int .i64 a0_9] 35 (0,0)) (by (with_reducible repeat (first|refine blk_drewN ?_ _|refine blk_drew ?_|refine blk_alloc ?_ _));exact BK191.out)):gb192≠gb191));clear BK191;clear HB;have BK191:=n0_;have HB:=n1_;have BK192:=n2_;have GW192:=n3_;have GE192:=n4_;have NB191_192:=n5_;have NB192_191:=n6_;clear n0_ n1_ n2_ n3_ n4_ n5_ n6_;clear hb hbox hg;have hnb16:=NB191_192.out;have hnc16:=NB192_191.out;have hcz17_0:w15.cell? ⟨gb191,0,none⟩=some (.int .i64 a0_0):=(blk_cell BK191.out 0).trans rfl;have hcz17_1:w15.cell? ⟨gb191,1,none⟩=some (.bool a0_1):=(blk_cell BK191.out 1).trans rfl;have hcz17_2:w15.cell? ⟨gb191,2,none⟩=some (.int .i64 a0_2):=(blk_cell BK191.out 2).trans rfl;have hcz17_3:w15.cell? ⟨gb191,3,none⟩=some (.int .i64 a0_3):=(blk_cell BK191.out 3).trans rfl;have hcz17_4:w15.cell? ⟨gb191,4,none⟩=some (.int .i64 a0_4):=(blk_cell BK191.out 4).trans rfl;have hcz17_5:w15.cell? ⟨gb191,5,none⟩=some (.int .i64 a0_5):=(blk_cell BK191.out 5).trans rfl;have hcz17_6:w15.cell? ⟨gb191,6,none⟩=some (.int .i64 a0_6):=(blk_cell BK191.out 6).trans rfl;have hcz17_7:w15.cell? ⟨gb191,7,none⟩=some (.int .i64 a0_7):=(blk_cell BK191.out 7).trans rfl;have hcz17_8:w15.cell? ⟨gb191,8,none⟩=some (.int .i64 a0_8):=(blk_cell BK191.out 8).trans rfl;have hcz17_9:w15.cell? ⟨gb191,9,none⟩=some (.int .i64 a0_9):=(blk_cell BK191.out 9).trans rfl;have hfz17_0:=blk_frozen BK191.out 0;have hfz17_1:=blk_frozen BK191.out 1;have hfz17_2:=blk_frozen BK191.out 2;have hfz17_3:=blk_frozen BK191.out 3;have hfz17_4:=blk_frozen BK191.out 4;have hfz17_5:=blk_frozen BK191.out 5;have hfz17_6:=blk_frozen BK191.out 6;have hfz17_7:=blk_frozen BK191.out 7;have hfz17_8:=blk_frozen BK191.out 8;have hfz17_9:=blk_frozen BK191.out 9;have hcz18_0:w15.cell? ⟨gb192,0,none⟩=some (.int .i64 a1_0):=(blk_cell BK192.out 0).trans rfl;have hcz18_1:w15.cell? ⟨gb192,1,none⟩=some (.bool a1_1):=(blk_cell BK192.out 1).trans rfl;have hcz18_2:w15.cell? ⟨gb192,2,none⟩=some (.int .i64 a1_2):=(blk_cell BK192.out 2).trans rfl;have hcz18_3:w15.cell? ⟨gb192,3,none⟩=some (.int .i64 a1_3):=(blk_cell BK192.out 3).trans rfl;have hcz18_4:w15.cell? ⟨gb192,4,none⟩=some (.int .i64 a1_4):=(blk_cell BK192.out 4).trans rfl;have hcz18_5:w15.cell? ⟨gb192,5,none⟩=some (.int .i64 a1_5):=(blk_cell BK192.out 5).trans rfl;have hcz18_6:w15.cell? ⟨gb192,6,none⟩=some (.int .i64 a1_6):=(blk_cell BK192.out 6).trans rfl;have hcz18_7:w15.cell? ⟨gb192,7,none⟩=some (.int .i64 a1_7):=(blk_cell BK192.out 7).trans rfl;have hcz18_8:w15.cell? ⟨gb192,8,none⟩=some (.int .i64 a1_8):=(blk_cell BK192.out 8).trans rfl;have hcz18_9:w15.cell? ⟨gb192,9,none⟩=some (.int .i64 a1_9):=(blk_cell BK192.out 9).trans rfl;have hfz18_0:=blk_frozen BK192.out 0;have hfz18_1:=blk_frozen BK192.out 1;have hfz18_2:=blk_frozen BK192.out 2;have hfz18_3:=blk_frozen BK192.out 3;have hfz18_4:=blk_frozen BK192.out 4;have hfz18_5:=blk_frozen BK192.out 5;have hfz18_6:=blk_frozen BK192.out 6;have hfz18_7:=blk_frozen BK192.out 7;have hfz18_8:=blk_frozen BK192.out 8;have hfz18_9:=blk_frozen BK192.out 9)|((with_reducible refine gate_callee (f:=43) rfl ?_);refine goesL_ (some 19) rfl rfl Try.func43 (by kernel_rfl) rfl #[.agg #[.int .i64 a0_2,.int .i64 a0_3,.int .i64 a0_4,.int .i64 a0_5],.agg #[.int .i64 a1_2,.int .i64 a1_3,.int .i64 a1_4,.int .i64 a1_5]] rfl zar ?_;(with_reducible refine (laws_eqCell.calls a0_2 a0_3 a0_4 a0_5 a1_2 a1_3 a1_4 a1_5 true _ A10.out).mono ?_);rintro e w19 ⟨rfl,hb⟩;refine ⟨_,rfl,?_⟩;have n0_:=Aside0.mk (blk_below (g:=gb191) (o:=.cells #[.int .i64 a0_0,.bool a0_1,.int .i64 a0_2,.int .i64 a0_3,.int .i64 a0_4,.int .i64 a0_5,.int .i64 a0_6,.int .i64 a0_7,.int .i64 a0_8,.int .i64 a0_9] 35 (0,0)) (by (with_reducible repeat (first|refine blk_drewN ?_ _|refine blk_drew ?_|refine blk_alloc ?_ _));exact BK191.out) hb);have n1_:=Aside0.mk (blk_below (g:=gb192) (o:=.cells #[.int .i64 a1_0,.bool a1_1,.int .i64 a1_2,.int .i64 a1_3,.int .i64 a1_4,.int .i64 a1_5,.int .i64 a1_6,.int .i64 a1_7,.int .i64 a1_8,.int .i64 a1_9] 35 (0,0)) (by (with_reducible repeat (first|refine blk_drewN ?_ _|refine blk_drew ?_|refine blk_alloc ?_ _));exact BK192.out) hb);have n2_:=Aside0.mk (below_step (by repeat (first|(with_reducible first|exact HB.out|apply below_alloc|apply pw_below_drewN|apply below_drew1|refine below_set ?_ GE191.out|refine below_set ?_ GE192.out)|exact HB.out)) hb);clear BK191;clear BK192;clear HB;have BK191:=n0_;have BK192:=n1_;have HB:=n2_;clear n0_ n1_ n2_;(try clear hb);(try clear hb2);(try clear hk);(try clear hi);have hcz20_0:w19.cell? ⟨gb191,0,none⟩=some (.int .i64 a0_0):=(blk_cell BK191.out 0).trans rfl;have hcz20_1:w19.cell? ⟨gb191,1,none⟩=some (.bool a0_1):=(blk_cell BK191.out 1).trans rfl;have hcz20_2:w19.cell? ⟨gb191,2,none⟩=some (.int .i64 a0_2):=(blk_cell BK191.out 2).trans rfl;have hcz20_3:w19.cell? ⟨gb191,3,none⟩=some (.int .i64 a0_3):=(blk_cell BK191.out 3).trans rfl;have hcz20_4:w19.cell? ⟨gb191,4,none⟩=some (.int .i64 a0_4):=(blk_cell BK191.out 4).trans rfl;have hcz20_5:w19.cell? ⟨gb191,5,none⟩=some (.int .i64 a0_5):=(blk_cell BK191.out 5).trans rfl;have hcz20_6:w19.cell? ⟨gb191,6,none⟩=some (.int .i64 a0_6):=(blk_cell BK191.out 6).trans rfl;have hcz20_7:w19.cell? ⟨gb191,7,none⟩=some (.int .i64 a0_7):=(blk_cell BK191.out 7).trans rfl;have hcz20_8:w19.cell? ⟨gb191,8,none⟩=some (.int .i64 a0_8):=(blk_cell BK191.out 8).trans rfl;have hcz20_9:w19.cell? ⟨gb191,9,none⟩=some (.int .i64 a0_9):=(blk_cell BK191.out 9).trans rfl;have hfz20_0:=blk_frozen BK191.out 0;have hfz20_1:=blk_frozen BK191.out 1;have hfz20_2:=blk_frozen BK191.out 2;have hfz20_3:=blk_frozen BK191.out 3;have hfz20_4:=blk_frozen BK191.out 4;have hfz20_5:=blk_frozen BK191.out 5;have hfz20_6:=blk_frozen BK191.out 6;have hfz20_7:=blk_frozen BK191.out 7;have hfz20_8:=blk_frozen BK191.out 8;have hfz20_9:=blk_frozen BK191.out 9;have hcz21_0:w19.cell? ⟨gb192,0,none⟩=some (.int .i64 a1_0):=(blk_cell BK192.out 0).trans rfl;have hcz21_1:w19.cell? ⟨gb192,1,none⟩=some (.bool a1_1):=(blk_cell BK192.out 1).trans rfl;have hcz21_2:w19.cell? ⟨gb192,2,none⟩=some (.int .i64 a1_2):=(blk_cell BK192.out 2).trans rfl;have hcz21_3:w19.cell? ⟨gb192,3,none⟩=some (.int .i64 a1_3):=(blk_cell BK192.out 3).trans rfl;have hcz21_4:w19.cell? ⟨gb192,4,none⟩=some (.int .i64 a1_4):=(blk_cell BK192.out 4).trans rfl;have hcz21_5:w19.cell? ⟨gb192,5,none⟩=some (.int .i64 a1_5):=(blk_cell BK192.out 5).trans rfl;have hcz21_6:w19.cell? ⟨gb192,6,none⟩=some (.int .i64 a1_6):=(blk_cell BK192.out 6).trans rfl;have hcz21_7:w19.cell? ⟨gb192,7,none⟩=some (.int .i64 a1_7):=(blk_cell BK192.out 7).trans rfl;have hcz21_8:w19.cell? ⟨gb192,8,none⟩=some (.int .i64 a1_8):=(blk_cell BK192.out 8).trans rfl;have hcz21_9:w19.cell? ⟨gb192,9,none⟩=some (.int .i64 a1_9):=(blk_cell BK192.out 9).trans rfl;have hfz21_0:=blk_frozen BK192.out 0;have hfz21_1:=blk_frozen BK192.out 1;have hfz21_2:=blk_frozen BK192.out 2;have hfz21_3:=blk_frozen BK192.out 3;have hfz21_4:=blk_frozen BK192.out 4;have hfz21_5:=blk_frozen BK192.out 5;have hfz21_6:=blk_frozen BK192.out 6;have hfz21_7:=blk_frozen BK192.out 7;have hfz21_8:=blk_frozen BK192.out 8;have hfz21_9:=blk_frozen BK192.out 9)|((with_reducible refine gate_callee (f:=43) rfl ?_);refine goesL_ (some 25) rfl rfl Try.func43 (by kernel_rfl) rfl #[.agg #[.int .i64 a0_6,.int .i64 a0_7,.int .i64 a0_8,.int .i64 a0_9],.agg #[.int .i64 a1_6,.int .i64 a1_7,.int .i64 a1_8,.int .i64 a1_9]] rfl zar ?_;(with_reducible refine (laws_eqCell.calls a0_6 a0_7 a0_8 a0_9 a1_6 a1_7 a1_8 a1_9 true _ A12.out).mono ?_);rintro e w22 ⟨rfl,hb⟩;refine ⟨_,rfl,?_⟩;have n0_:=Aside0.mk (blk_below (g:=gb191) (o:=.cells #[.int .i64 a0_0,.bool a0_1,.int .i64 a0_2,.int .i64 a0_3,.int .i64 a0_4,.int .i64 a0_5,.int .i64 a0_6,.int .i64 a0_7,.int .i64 a0_8,.int .i64 a0_9] 35 (0,0)) (by (with_reducible repeat (first|refine blk_drewN ?_ _|refine blk_drew ?_|refine blk_alloc ?_ _));exact BK191.out) hb);have n1_:=Aside0.mk (blk_below (g:=gb192) (o:=.cells #[.int .i64 a1_0,.bool a1_1,.int .i64 a1_2,.int .i64 a1_3,.int .i64 a1_4,.int .i64 a1_5,.int .i64 a1_6,.int .i64 a1_7,.int .i64 a1_8,.int .i64 a1_9] 35 (0,0)) (by (with_reducible repeat (first|refine blk_drewN ?_ _|refine blk_drew ?_|refine blk_alloc ?_ _));exact BK192.out) hb);have n2_:=Aside0.mk (below_step (by repeat (first|(with_reducible first|exact HB.out|apply below_alloc|apply pw_below_drewN|apply below_drew1|refine below_set ?_ GE191.out|refine below_set ?_ GE192.out)|exact HB.out)) hb);clear BK191;clear BK192;clear HB;have BK191:=n0_;have BK192:=n1_;have HB:=n2_;clear n0_ n1_ n2_;(try clear hb);(try clear hb2);(try clear hk);(try clear hi)))
     go_ret
     exact ⟨by first|rfl|(simp [errW_none,errW_some] <;> rfl)|(simp [*,errW_none,errW_some] <;> rfl),by repeat (first|(with_reducible first|exact HB.out|apply below_alloc|apply pw_below_drewN|apply below_drew1|refine below_set ?_ GE191.out|refine below_set ?_ GE192.out)|exact HB.out)⟩
    ·replace c13:=Bool.eq_false_iff.mpr c13
     subst c13
     have H1:(some false)=some r:=by rw [if_neg (show ¬ (false=true) by decide)] at H;exact H
     clear H
     have H:=H1
     clear H1
     obtain rfl:=Option.some.inj H
     go_enter Try.func27,Try.ntmps27
     go_wp2_with (first|((with_reducible refine gate_dst (N:=2) rfl ?_);refine box_event ?hg (N:=2) ?hd (cs:=#[.int .i64 a0_0,.bool a0_1,.int .i64 a0_2,.int .i64 a0_3,.int .i64 a0_4,.int .i64 a0_5,.int .i64 a0_6,.int .i64 a0_7,.int .i64 a0_8,.int .i64 a0_9]) (t:=35) ?hr ?_;(case hd=>rfl);(case hg=>rfl);(case hr=>first|(go_simp;done)|(go_simp;rfl));intro gb191 hg w23 hbox hb;have n0_:=Aside0.mk (below_step zhb hb);have n1_:=Aside0.mk (hbox);have n2_:=Aside0.mk ((by rw [hg];exact (below_size zhb):w.heap.size≤gb191));have n3_:=Aside0.mk ((by rw [hg];exact (below_size zhb):w.heap.size≤gb191));clear HB;have HB:=n0_;have BK191:=n1_;have GW191:=n2_;have GE191:=n3_;clear n0_ n1_ n2_ n3_;clear hb hbox hg)|((with_reducible refine gate_dst (N:=3) rfl ?_);refine box_event ?hg (N:=3) ?hd (cs:=#[.int .i64 a1_0,.bool a1_1,.int .i64 a1_2,.int .i64 a1_3,.int .i64 a1_4,.int .i64 a1_5,.int .i64 a1_6,.int .i64 a1_7,.int .i64 a1_8,.int .i64 a1_9]) (t:=35) ?hr ?_;(case hd=>rfl);(case hg=>rfl);(case hr=>first|(go_simp;done)|(go_simp;rfl));intro gb192 hg w24 hbox hb;have n0_:=Aside0.mk (blk_below (g:=gb191) (o:=.cells #[.int .i64 a0_0,.bool a0_1,.int .i64 a0_2,.int .i64 a0_3,.int .i64 a0_4,.int .i64 a0_5,.int .i64 a0_6,.int .i64 a0_7,.int .i64 a0_8,.int .i64 a0_9] 35 (0,0)) (by (with_reducible repeat (first|refine blk_drewN ?_ _|refine blk_drew ?_|refine blk_alloc ?_ _));exact BK191.out) hb);have n1_:=Aside0.mk (below_step (by repeat (first|(with_reducible first|exact HB.out|apply below_alloc|apply pw_below_drewN|apply below_drew1|refine below_set ?_ GE191.out)|exact HB.out)) hb);have n2_:=Aside0.mk (hbox);have n3_:=Aside0.mk ((by rw [hg];exact (below_size (by repeat (first|(with_reducible first|exact HB.out|apply below_alloc|apply pw_below_drewN|apply below_drew1|refine below_set ?_ GE191.out)|exact HB.out))):w.heap.size≤gb192));have n4_:=Aside0.mk ((by rw [hg];exact (below_size (by repeat (first|(with_reducible first|exact HB.out|apply below_alloc|apply pw_below_drewN|apply below_drew1|refine below_set ?_ GE191.out)|exact HB.out))):w.heap.size≤gb192));have n5_:=Aside0.mk ((by rw [hg];exact Nat.ne_of_lt (blk_lt (g:=gb191) (o:=.cells #[.int .i64 a0_0,.bool a0_1,.int .i64 a0_2,.int .i64 a0_3,.int .i64 a0_4,.int .i64 a0_5,.int .i64 a0_6,.int .i64 a0_7,.int .i64 a0_8,.int .i64 a0_9] 35 (0,0)) (by (with_reducible repeat (first|refine blk_drewN ?_ _|refine blk_drew ?_|refine blk_alloc ?_ _));exact BK191.out)):gb191≠gb192));have n6_:=Aside0.mk ((by rw [hg];exact Nat.ne_of_gt (blk_lt (g:=gb191) (o:=.cells #[.int .i64 a0_0,.bool a0_1,.int .i64 a0_2,.int .i64 a0_3,.int .i64 a0_4,.int .i64 a0_5,.int .i64 a0_6,.int .i64 a0_7,.int .i64 a0_8,.int .i64 a0_9] 35 (0,0)) (by (with_reducible repeat (first|refine blk_drewN ?_ _|refine blk_drew ?_|refine blk_alloc ?_ _));exact BK191.out)):gb192≠gb191));clear BK191;clear HB;have BK191:=n0_;have HB:=n1_;have BK192:=n2_;have GW192:=n3_;have GE192:=n4_;have NB191_192:=n5_;have NB192_191:=n6_;clear n0_ n1_ n2_ n3_ n4_ n5_ n6_;clear hb hbox hg;have hnb25:=NB191_192.out;have hnc25:=NB192_191.out;have hcz26_0:w24.cell? ⟨gb191,0,none⟩=some (.int .i64 a0_0):=(blk_cell BK191.out 0).trans rfl;have hcz26_1:w24.cell? ⟨gb191,1,none⟩=some (.bool a0_1):=(blk_cell BK191.out 1).trans rfl;have hcz26_2:w24.cell? ⟨gb191,2,none⟩=some (.int .i64 a0_2):=(blk_cell BK191.out 2).trans rfl;have hcz26_3:w24.cell? ⟨gb191,3,none⟩=some (.int .i64 a0_3):=(blk_cell BK191.out 3).trans rfl;have hcz26_4:w24.cell? ⟨gb191,4,none⟩=some (.int .i64 a0_4):=(blk_cell BK191.out 4).trans rfl;have hcz26_5:w24.cell? ⟨gb191,5,none⟩=some (.int .i64 a0_5):=(blk_cell BK191.out 5).trans rfl;have hcz26_6:w24.cell? ⟨gb191,6,none⟩=some (.int .i64 a0_6):=(blk_cell BK191.out 6).trans rfl;have hcz26_7:w24.cell? ⟨gb191,7,none⟩=some (.int .i64 a0_7):=(blk_cell BK191.out 7).trans rfl;have hcz26_8:w24.cell? ⟨gb191,8,none⟩=some (.int .i64 a0_8):=(blk_cell BK191.out 8).trans rfl;have hcz26_9:w24.cell? ⟨gb191,9,none⟩=some (.int .i64 a0_9):=(blk_cell BK191.out 9).trans rfl;have hfz26_0:=blk_frozen BK191.out 0;have hfz26_1:=blk_frozen BK191.out 1;have hfz26_2:=blk_frozen BK191.out 2;have hfz26_3:=blk_frozen BK191.out 3;have hfz26_4:=blk_frozen BK191.out 4;have hfz26_5:=blk_frozen BK191.out 5;have hfz26_6:=blk_frozen BK191.out 6;have hfz26_7:=blk_frozen BK191.out 7;have hfz26_8:=blk_frozen BK191.out 8;have hfz26_9:=blk_frozen BK191.out 9;have hcz27_0:w24.cell? ⟨gb192,0,none⟩=some (.int .i64 a1_0):=(blk_cell BK192.out 0).trans rfl;have hcz27_1:w24.cell? ⟨gb192,1,none⟩=some (.bool a1_1):=(blk_cell BK192.out 1).trans rfl;have hcz27_2:w24.cell? ⟨gb192,2,none⟩=some (.int .i64 a1_2):=(blk_cell BK192.out 2).trans rfl;have hcz27_3:w24.cell? ⟨gb192,3,none⟩=some (.int .i64 a1_3):=(blk_cell BK192.out 3).trans rfl;have hcz27_4:w24.cell? ⟨gb192,4,none⟩=some (.int .i64 a1_4):=(blk_cell BK192.out 4).trans rfl;have hcz27_5:w24.cell? ⟨gb192,5,none⟩=some (.int .i64 a1_5):=(blk_cell BK192.out 5).trans rfl;have hcz27_6:w24.cell? ⟨gb192,6,none⟩=some (.int .i64 a1_6):=(blk_cell BK192.out 6).trans rfl;have hcz27_7:w24.cell? ⟨gb192,7,none⟩=some (.int .i64 a1_7):=(blk_cell BK192.out 7).trans rfl;have hcz27_8:w24.cell? ⟨gb192,8,none⟩=some (.int .i64 a1_8):=(blk_cell BK192.out 8).trans rfl;have hcz27_9:w24.cell? ⟨gb192,9,none⟩=some (.int .i64 a1_9):=(blk_cell BK192.out 9).trans rfl;have hfz27_0:=blk_frozen BK192.out 0;have hfz27_1:=blk_frozen BK192.out 1;have hfz27_2:=blk_frozen BK192.out 2;have hfz27_3:=blk_frozen BK192.out 3;have hfz27_4:=blk_frozen BK192.out 4;have hfz27_5:=blk_frozen BK192.out 5;have hfz27_6:=blk_frozen BK192.out 6;have hfz27_7:=blk_frozen BK192.out 7;have hfz27_8:=blk_frozen BK192.out 8;have hfz27_9:=blk_frozen BK192.out 9)|((with_reducible refine gate_callee (f:=43) rfl ?_);refine goesL_ (some 19) rfl rfl Try.func43 (by kernel_rfl) rfl #[.agg #[.int .i64 a0_2,.int .i64 a0_3,.int .i64 a0_4,.int .i64 a0_5],.agg #[.int .i64 a1_2,.int .i64 a1_3,.int .i64 a1_4,.int .i64 a1_5]] rfl zar ?_;(with_reducible refine (laws_eqCell.calls a0_2 a0_3 a0_4 a0_5 a1_2 a1_3 a1_4 a1_5 true _ A10.out).mono ?_);rintro e w28 ⟨rfl,hb⟩;refine ⟨_,rfl,?_⟩;have n0_:=Aside0.mk (blk_below (g:=gb191) (o:=.cells #[.int .i64 a0_0,.bool a0_1,.int .i64 a0_2,.int .i64 a0_3,.int .i64 a0_4,.int .i64 a0_5,.int .i64 a0_6,.int .i64 a0_7,.int .i64 a0_8,.int .i64 a0_9] 35 (0,0)) (by (with_reducible repeat (first|refine blk_drewN ?_ _|refine blk_drew ?_|refine blk_alloc ?_ _));exact BK191.out) hb);have n1_:=Aside0.mk (blk_below (g:=gb192) (o:=.cells #[.int .i64 a1_0,.bool a1_1,.int .i64 a1_2,.int .i64 a1_3,.int .i64 a1_4,.int .i64 a1_5,.int .i64 a1_6,.int .i64 a1_7,.int .i64 a1_8,.int .i64 a1_9] 35 (0,0)) (by (with_reducible repeat (first|refine blk_drewN ?_ _|refine blk_drew ?_|refine blk_alloc ?_ _));exact BK192.out) hb);have n2_:=Aside0.mk (below_step (by repeat (first|(with_reducible first|exact HB.out|apply below_alloc|apply pw_below_drewN|apply below_drew1|refine below_set ?_ GE191.out|refine below_set ?_ GE192.out)|exact HB.out)) hb);clear BK191;clear BK192;clear HB;have BK191:=n0_;have BK192:=n1_;have HB:=n2_;clear n0_ n1_ n2_;(try clear hb);(try clear hb2);(try clear hk);(try clear hi);have hcz29_0:w28.cell? ⟨gb191,0,none⟩=some (.int .i64 a0_0):=(blk_cell BK191.out 0).trans rfl;have hcz29_1:w28.cell? ⟨gb191,1,none⟩=some (.bool a0_1):=(blk_cell BK191.out 1).trans rfl;have hcz29_2:w28.cell? ⟨gb191,2,none⟩=some (.int .i64 a0_2):=(blk_cell BK191.out 2).trans rfl;have hcz29_3:w28.cell? ⟨gb191,3,none⟩=some (.int .i64 a0_3):=(blk_cell BK191.out 3).trans rfl;have hcz29_4:w28.cell? ⟨gb191,4,none⟩=some (.int .i64 a0_4):=(blk_cell BK191.out 4).trans rfl;have hcz29_5:w28.cell? ⟨gb191,5,none⟩=some (.int .i64 a0_5):=(blk_cell BK191.out 5).trans rfl;have hcz29_6:w28.cell? ⟨gb191,6,none⟩=some (.int .i64 a0_6):=(blk_cell BK191.out 6).trans rfl;have hcz29_7:w28.cell? ⟨gb191,7,none⟩=some (.int .i64 a0_7):=(blk_cell BK191.out 7).trans rfl;have hcz29_8:w28.cell? ⟨gb191,8,none⟩=some (.int .i64 a0_8):=(blk_cell BK191.out 8).trans rfl;have hcz29_9:w28.cell? ⟨gb191,9,none⟩=some (.int .i64 a0_9):=(blk_cell BK191.out 9).trans rfl;have hfz29_0:=blk_frozen BK191.out 0;have hfz29_1:=blk_frozen BK191.out 1;have hfz29_2:=blk_frozen BK191.out 2;have hfz29_3:=blk_frozen BK191.out 3;have hfz29_4:=blk_frozen BK191.out 4;have hfz29_5:=blk_frozen BK191.out 5;have hfz29_6:=blk_frozen BK191.out 6;have hfz29_7:=blk_frozen BK191.out 7;have hfz29_8:=blk_frozen BK191.out 8;have hfz29_9:=blk_frozen BK191.out 9;have hcz30_0:w28.cell? ⟨gb192,0,none⟩=some (.int .i64 a1_0):=(blk_cell BK192.out 0).trans rfl;have hcz30_1:w28.cell? ⟨gb192,1,none⟩=some (.bool a1_1):=(blk_cell BK192.out 1).trans rfl;have hcz30_2:w28.cell? ⟨gb192,2,none⟩=some (.int .i64 a1_2):=(blk_cell BK192.out 2).trans rfl;have hcz30_3:w28.cell? ⟨gb192,3,none⟩=some (.int .i64 a1_3):=(blk_cell BK192.out 3).trans rfl;have hcz30_4:w28.cell? ⟨gb192,4,none⟩=some (.int .i64 a1_4):=(blk_cell BK192.out 4).trans rfl;have hcz30_5:w28.cell? ⟨gb192,5,none⟩=some (.int .i64 a1_5):=(blk_cell BK192.out 5).trans rfl;have hcz30_6:w28.cell? ⟨gb192,6,none⟩=some (.int .i64 a1_6):=(blk_cell BK192.out 6).trans rfl;have hcz30_7:w28.cell? ⟨gb192,7,none⟩=some (.int .i64 a1_7):=(blk_cell BK192.out 7).trans rfl;have hcz30_8:w28.cell? ⟨gb192,8,none⟩=some (.int .i64 a1_8):=(blk_cell BK192.out 8).trans rfl;have hcz30_9:w28.cell? ⟨gb192,9,none⟩=some (.int .i64 a1_9):=(blk_cell BK192.out 9).trans rfl;have hfz30_0:=blk_frozen BK192.out 0;have hfz30_1:=blk_frozen BK192.out 1;have hfz30_2:=blk_frozen BK192.out 2;have hfz30_3:=blk_frozen BK192.out 3;have hfz30_4:=blk_frozen BK192.out 4;have hfz30_5:=blk_frozen BK192.out 5;have hfz30_6:=blk_frozen BK192.out 6;have hfz30_7:=blk_frozen BK192.out 7;have hfz30_8:=blk_frozen BK192.out 8;have hfz30_9:=blk_frozen BK192.out 9)|((with_reducible refine gate_callee (f:=43) rfl ?_);refine goesL_ (some 25) rfl rfl Try.func43 (by kernel_rfl) rfl #[.agg #[.int .i64 a0_6,.int .i64 a0_7,.int .i64 a0_8,.int .i64 a0_9],.agg #[.int .i64 a1_6,.int .i64 a1_7,.int .i64 a1_8,.int .i64 a1_9]] rfl zar ?_;(with_reducible refine (laws_eqCell.calls a0_6 a0_7 a0_8 a0_9 a1_6 a1_7 a1_8 a1_9 false _ A12.out).mono ?_);rintro e w31 ⟨rfl,hb⟩;refine ⟨_,rfl,?_⟩;have n0_:=Aside0.mk (blk_below (g:=gb191) (o:=.cells #[.int .i64 a0_0,.bool a0_1,.int .i64 a0_2,.int .i64 a0_3,.int .i64 a0_4,.int .i64 a0_5,.int .i64 a0_6,.int .i64 a0_7,.int .i64 a0_8,.int .i64 a0_9] 35 (0,0)) (by (with_reducible repeat (first|refine blk_drewN ?_ _|refine blk_drew ?_|refine blk_alloc ?_ _));exact BK191.out) hb);have n1_:=Aside0.mk (blk_below (g:=gb192) (o:=.cells #[.int .i64 a1_0,.bool a1_1,.int .i64 a1_2,.int .i64 a1_3,.int .i64 a1_4,.int .i64 a1_5,.int .i64 a1_6,.int .i64 a1_7,.int .i64 a1_8,.int .i64 a1_9] 35 (0,0)) (by (with_reducible repeat (first|refine blk_drewN ?_ _|refine blk_drew ?_|refine blk_alloc ?_ _));exact BK192.out) hb);have n2_:=Aside0.mk (below_step (by repeat (first|(with_reducible first|exact HB.out|apply below_alloc|apply pw_below_drewN|apply below_drew1|refine below_set ?_ GE191.out|refine below_set ?_ GE192.out)|exact HB.out)) hb);clear BK191;clear BK192;clear HB;have BK191:=n0_;have BK192:=n1_;have HB:=n2_;clear n0_ n1_ n2_;(try clear hb);(try clear hb2);(try clear hk);(try clear hi)))
     go_ret
     exact ⟨by first|rfl|(simp [errW_none,errW_some] <;> rfl)|(simp [*,errW_none,errW_some] <;> rfl),by repeat (first|(with_reducible first|exact HB.out|apply below_alloc|apply pw_below_drewN|apply below_drew1|refine below_set ?_ GE191.out|refine below_set ?_ GE192.out)|exact HB.out)⟩
   ·replace c11:=Bool.eq_false_iff.mpr c11
    subst c11
    have H1:(some false)=some r:=by rw [if_neg (show ¬ (false=true) by decide)] at H;exact H
    clear H
    have H:=H1
    clear H1
    obtain rfl:=Option.some.inj H
    go_enter Try.func27,Try.ntmps27
    go_wp2_with (first|((with_reducible refine gate_dst (N:=2) rfl ?_);refine box_event ?hg (N:=2) ?hd (cs:=#[.int .i64 a0_0,.bool a0_1,.int .i64 a0_2,.int .i64 a0_3,.int .i64 a0_4,.int .i64 a0_5,.int .i64 a0_6,.int .i64 a0_7,.int .i64 a0_8,.int .i64 a0_9]) (t:=35) ?hr ?_;(case hd=>rfl);(case hg=>rfl);(case hr=>first|(go_simp;done)|(go_simp;rfl));intro gb191 hg w32 hbox hb;have n0_:=Aside0.mk (below_step zhb hb);have n1_:=Aside0.mk (hbox);have n2_:=Aside0.mk ((by rw [hg];exact (below_size zhb):w.heap.size≤gb191));have n3_:=Aside0.mk ((by rw [hg];exact (below_size zhb):w.heap.size≤gb191));clear HB;have HB:=n0_;have BK191:=n1_;have GW191:=n2_;have GE191:=n3_;clear n0_ n1_ n2_ n3_;clear hb hbox hg)|((with_reducible refine gate_dst (N:=3) rfl ?_);refine box_event ?hg (N:=3) ?hd (cs:=#[.int .i64 a1_0,.bool a1_1,.int .i64 a1_2,.int .i64 a1_3,.int .i64 a1_4,.int .i64 a1_5,.int .i64 a1_6,.int .i64 a1_7,.int .i64 a1_8,.int .i64 a1_9]) (t:=35) ?hr ?_;(case hd=>rfl);(case hg=>rfl);(case hr=>first|(go_simp;done)|(go_simp;rfl));intro gb192 hg w33 hbox hb;have n0_:=Aside0.mk (blk_below (g:=gb191) (o:=.cells #[.int .i64 a0_0,.bool a0_1,.int .i64 a0_2,.int .i64 a0_3,.int .i64 a0_4,.int .i64 a0_5,.int .i64 a0_6,.int .i64 a0_7,.int .i64 a0_8,.int .i64 a0_9] 35 (0,0)) (by (with_reducible repeat (first|refine blk_drewN ?_ _|refine blk_drew ?_|refine blk_alloc ?_ _));exact BK191.out) hb);have n1_:=Aside0.mk (below_step (by repeat (first|(with_reducible first|exact HB.out|apply below_alloc|apply pw_below_drewN|apply below_drew1|refine below_set ?_ GE191.out)|exact HB.out)) hb);have n2_:=Aside0.mk (hbox);have n3_:=Aside0.mk ((by rw [hg];exact (below_size (by repeat (first|(with_reducible first|exact HB.out|apply below_alloc|apply pw_below_drewN|apply below_drew1|refine below_set ?_ GE191.out)|exact HB.out))):w.heap.size≤gb192));have n4_:=Aside0.mk ((by rw [hg];exact (below_size (by repeat (first|(with_reducible first|exact HB.out|apply below_alloc|apply pw_below_drewN|apply below_drew1|refine below_set ?_ GE191.out)|exact HB.out))):w.heap.size≤gb192));have n5_:=Aside0.mk ((by rw [hg];exact Nat.ne_of_lt (blk_lt (g:=gb191) (o:=.cells #[.int .i64 a0_0,.bool a0_1,.int .i64 a0_2,.int .i64 a0_3,.int .i64 a0_4,.int .i64 a0_5,.int .i64 a0_6,.int .i64 a0_7,.int .i64 a0_8,.int .i64 a0_9] 35 (0,0)) (by (with_reducible repeat (first|refine blk_drewN ?_ _|refine blk_drew ?_|refine blk_alloc ?_ _));exact BK191.out)):gb191≠gb192));have n6_:=Aside0.mk ((by rw [hg];exact Nat.ne_of_gt (blk_lt (g:=gb191) (o:=.cells #[.int .i64 a0_0,.bool a0_1,.int .i64 a0_2,.int .i64 a0_3,.int .i64 a0_4,.int .i64 a0_5,.int .i64 a0_6,.int .i64 a0_7,.int .i64 a0_8,.int .i64 a0_9] 35 (0,0)) (by (with_reducible repeat (first|refine blk_drewN ?_ _|refine blk_drew ?_|refine blk_alloc ?_ _));exact BK191.out)):gb192≠gb191));clear BK191;clear HB;have BK191:=n0_;have HB:=n1_;have BK192:=n2_;have GW192:=n3_;have GE192:=n4_;have NB191_192:=n5_;have NB192_191:=n6_;clear n0_ n1_ n2_ n3_ n4_ n5_ n6_;clear hb hbox hg;have hnb34:=NB191_192.out;have hnc34:=NB192_191.out;have hcz35_0:w33.cell? ⟨gb191,0,none⟩=some (.int .i64 a0_0):=(blk_cell BK191.out 0).trans rfl;have hcz35_1:w33.cell? ⟨gb191,1,none⟩=some (.bool a0_1):=(blk_cell BK191.out 1).trans rfl;have hcz35_2:w33.cell? ⟨gb191,2,none⟩=some (.int .i64 a0_2):=(blk_cell BK191.out 2).trans rfl;have hcz35_3:w33.cell? ⟨gb191,3,none⟩=some (.int .i64 a0_3):=(blk_cell BK191.out 3).trans rfl;have hcz35_4:w33.cell? ⟨gb191,4,none⟩=some (.int .i64 a0_4):=(blk_cell BK191.out 4).trans rfl;have hcz35_5:w33.cell? ⟨gb191,5,none⟩=some (.int .i64 a0_5):=(blk_cell BK191.out 5).trans rfl;have hcz35_6:w33.cell? ⟨gb191,6,none⟩=some (.int .i64 a0_6):=(blk_cell BK191.out 6).trans rfl;have hcz35_7:w33.cell? ⟨gb191,7,none⟩=some (.int .i64 a0_7):=(blk_cell BK191.out 7).trans rfl;have hcz35_8:w33.cell? ⟨gb191,8,none⟩=some (.int .i64 a0_8):=(blk_cell BK191.out 8).trans rfl;have hcz35_9:w33.cell? ⟨gb191,9,none⟩=some (.int .i64 a0_9):=(blk_cell BK191.out 9).trans rfl;have hfz35_0:=blk_frozen BK191.out 0;have hfz35_1:=blk_frozen BK191.out 1;have hfz35_2:=blk_frozen BK191.out 2;have hfz35_3:=blk_frozen BK191.out 3;have hfz35_4:=blk_frozen BK191.out 4;have hfz35_5:=blk_frozen BK191.out 5;have hfz35_6:=blk_frozen BK191.out 6;have hfz35_7:=blk_frozen BK191.out 7;have hfz35_8:=blk_frozen BK191.out 8;have hfz35_9:=blk_frozen BK191.out 9;have hcz36_0:w33.cell? ⟨gb192,0,none⟩=some (.int .i64 a1_0):=(blk_cell BK192.out 0).trans rfl;have hcz36_1:w33.cell? ⟨gb192,1,none⟩=some (.bool a1_1):=(blk_cell BK192.out 1).trans rfl;have hcz36_2:w33.cell? ⟨gb192,2,none⟩=some (.int .i64 a1_2):=(blk_cell BK192.out 2).trans rfl;have hcz36_3:w33.cell? ⟨gb192,3,none⟩=some (.int .i64 a1_3):=(blk_cell BK192.out 3).trans rfl;have hcz36_4:w33.cell? ⟨gb192,4,none⟩=some (.int .i64 a1_4):=(blk_cell BK192.out 4).trans rfl;have hcz36_5:w33.cell? ⟨gb192,5,none⟩=some (.int .i64 a1_5):=(blk_cell BK192.out 5).trans rfl;have hcz36_6:w33.cell? ⟨gb192,6,none⟩=some (.int .i64 a1_6):=(blk_cell BK192.out 6).trans rfl;have hcz36_7:w33.cell? ⟨gb192,7,none⟩=some (.int .i64 a1_7):=(blk_cell BK192.out 7).trans rfl;have hcz36_8:w33.cell? ⟨gb192,8,none⟩=some (.int .i64 a1_8):=(blk_cell BK192.out 8).trans rfl;have hcz36_9:w33.cell? ⟨gb192,9,none⟩=some (.int .i64 a1_9):=(blk_cell BK192.out 9).trans rfl;have hfz36_0:=blk_frozen BK192.out 0;have hfz36_1:=blk_frozen BK192.out 1;have hfz36_2:=blk_frozen BK192.out 2;have hfz36_3:=blk_frozen BK192.out 3;have hfz36_4:=blk_frozen BK192.out 4;have hfz36_5:=blk_frozen BK192.out 5;have hfz36_6:=blk_frozen BK192.out 6;have hfz36_7:=blk_frozen BK192.out 7;have hfz36_8:=blk_frozen BK192.out 8;have hfz36_9:=blk_frozen BK192.out 9)|((with_reducible refine gate_callee (f:=43) rfl ?_);refine goesL_ (some 19) rfl rfl Try.func43 (by kernel_rfl) rfl #[.agg #[.int .i64 a0_2,.int .i64 a0_3,.int .i64 a0_4,.int .i64 a0_5],.agg #[.int .i64 a1_2,.int .i64 a1_3,.int .i64 a1_4,.int .i64 a1_5]] rfl zar ?_;(with_reducible refine (laws_eqCell.calls a0_2 a0_3 a0_4 a0_5 a1_2 a1_3 a1_4 a1_5 false _ A10.out).mono ?_);rintro e w37 ⟨rfl,hb⟩;refine ⟨_,rfl,?_⟩;have n0_:=Aside0.mk (blk_below (g:=gb191) (o:=.cells #[.int .i64 a0_0,.bool a0_1,.int .i64 a0_2,.int .i64 a0_3,.int .i64 a0_4,.int .i64 a0_5,.int .i64 a0_6,.int .i64 a0_7,.int .i64 a0_8,.int .i64 a0_9] 35 (0,0)) (by (with_reducible repeat (first|refine blk_drewN ?_ _|refine blk_drew ?_|refine blk_alloc ?_ _));exact BK191.out) hb);have n1_:=Aside0.mk (blk_below (g:=gb192) (o:=.cells #[.int .i64 a1_0,.bool a1_1,.int .i64 a1_2,.int .i64 a1_3,.int .i64 a1_4,.int .i64 a1_5,.int .i64 a1_6,.int .i64 a1_7,.int .i64 a1_8,.int .i64 a1_9] 35 (0,0)) (by (with_reducible repeat (first|refine blk_drewN ?_ _|refine blk_drew ?_|refine blk_alloc ?_ _));exact BK192.out) hb);have n2_:=Aside0.mk (below_step (by repeat (first|(with_reducible first|exact HB.out|apply below_alloc|apply pw_below_drewN|apply below_drew1|refine below_set ?_ GE191.out|refine below_set ?_ GE192.out)|exact HB.out)) hb);clear BK191;clear BK192;clear HB;have BK191:=n0_;have BK192:=n1_;have HB:=n2_;clear n0_ n1_ n2_;(try clear hb);(try clear hb2);(try clear hk);(try clear hi)))
    go_ret
    exact ⟨by first|rfl|(simp [errW_none,errW_some] <;> rfl)|(simp [*,errW_none,errW_some] <;> rfl),by repeat (first|(with_reducible first|exact HB.out|apply below_alloc|apply pw_below_drewN|apply below_drew1|refine below_set ?_ GE191.out|refine below_set ?_ GE192.out)|exact HB.out)⟩
 ·rw [if_neg c3] at H
  have c3b0:(a0_0 == a1_0)=false:=beq_eq_false_iff_ne.mpr c3
  have c3b1:(a0_0 != a1_0)=true:=bne_iff_ne.mpr c3
  obtain rfl:=Option.some.inj H
  go_enter Try.func27,Try.ntmps27
  go_wp2_with (first|((with_reducible refine gate_dst (N:=2) rfl ?_);refine box_event ?hg (N:=2) ?hd (cs:=#[.int .i64 a0_0,.bool a0_1,.int .i64 a0_2,.int .i64 a0_3,.int .i64 a0_4,.int .i64 a0_5,.int .i64 a0_6,.int .i64 a0_7,.int .i64 a0_8,.int .i64 a0_9]) (t:=35) ?hr ?_;(case hd=>rfl);(case hg=>rfl);(case hr=>first|(go_simp;done)|(go_simp;rfl));intro gb191 hg w38 hbox hb;have n0_:=Aside0.mk (below_step zhb hb);have n1_:=Aside0.mk (hbox);have n2_:=Aside0.mk ((by rw [hg];exact (below_size zhb):w.heap.size≤gb191));have n3_:=Aside0.mk ((by rw [hg];exact (below_size zhb):w.heap.size≤gb191));clear HB;have HB:=n0_;have BK191:=n1_;have GW191:=n2_;have GE191:=n3_;clear n0_ n1_ n2_ n3_;clear hb hbox hg)|((with_reducible refine gate_dst (N:=3) rfl ?_);refine box_event ?hg (N:=3) ?hd (cs:=#[.int .i64 a1_0,.bool a1_1,.int .i64 a1_2,.int .i64 a1_3,.int .i64 a1_4,.int .i64 a1_5,.int .i64 a1_6,.int .i64 a1_7,.int .i64 a1_8,.int .i64 a1_9]) (t:=35) ?hr ?_;(case hd=>rfl);(case hg=>rfl);(case hr=>first|(go_simp;done)|(go_simp;rfl));intro gb192 hg w39 hbox hb;have n0_:=Aside0.mk (blk_below (g:=gb191) (o:=.cells #[.int .i64 a0_0,.bool a0_1,.int .i64 a0_2,.int .i64 a0_3,.int .i64 a0_4,.int .i64 a0_5,.int .i64 a0_6,.int .i64 a0_7,.int .i64 a0_8,.int .i64 a0_9] 35 (0,0)) (by (with_reducible repeat (first|refine blk_drewN ?_ _|refine blk_drew ?_|refine blk_alloc ?_ _));exact BK191.out) hb);have n1_:=Aside0.mk (below_step (by repeat (first|(with_reducible first|exact HB.out|apply below_alloc|apply pw_below_drewN|apply below_drew1|refine below_set ?_ GE191.out)|exact HB.out)) hb);have n2_:=Aside0.mk (hbox);have n3_:=Aside0.mk ((by rw [hg];exact (below_size (by repeat (first|(with_reducible first|exact HB.out|apply below_alloc|apply pw_below_drewN|apply below_drew1|refine below_set ?_ GE191.out)|exact HB.out))):w.heap.size≤gb192));have n4_:=Aside0.mk ((by rw [hg];exact (below_size (by repeat (first|(with_reducible first|exact HB.out|apply below_alloc|apply pw_below_drewN|apply below_drew1|refine below_set ?_ GE191.out)|exact HB.out))):w.heap.size≤gb192));have n5_:=Aside0.mk ((by rw [hg];exact Nat.ne_of_lt (blk_lt (g:=gb191) (o:=.cells #[.int .i64 a0_0,.bool a0_1,.int .i64 a0_2,.int .i64 a0_3,.int .i64 a0_4,.int .i64 a0_5,.int .i64 a0_6,.int .i64 a0_7,.int .i64 a0_8,.int .i64 a0_9] 35 (0,0)) (by (with_reducible repeat (first|refine blk_drewN ?_ _|refine blk_drew ?_|refine blk_alloc ?_ _));exact BK191.out)):gb191≠gb192));have n6_:=Aside0.mk ((by rw [hg];exact Nat.ne_of_gt (blk_lt (g:=gb191) (o:=.cells #[.int .i64 a0_0,.bool a0_1,.int .i64 a0_2,.int .i64 a0_3,.int .i64 a0_4,.int .i64 a0_5,.int .i64 a0_6,.int .i64 a0_7,.int .i64 a0_8,.int .i64 a0_9] 35 (0,0)) (by (with_reducible repeat (first|refine blk_drewN ?_ _|refine blk_drew ?_|refine blk_alloc ?_ _));exact BK191.out)):gb192≠gb191));clear BK191;clear HB;have BK191:=n0_;have HB:=n1_;have BK192:=n2_;have GW192:=n3_;have GE192:=n4_;have NB191_192:=n5_;have NB192_191:=n6_;clear n0_ n1_ n2_ n3_ n4_ n5_ n6_;clear hb hbox hg;have hnb40:=NB191_192.out;have hnc40:=NB192_191.out;have hcz41_0:w39.cell? ⟨gb191,0,none⟩=some (.int .i64 a0_0):=(blk_cell BK191.out 0).trans rfl;have hcz41_1:w39.cell? ⟨gb191,1,none⟩=some (.bool a0_1):=(blk_cell BK191.out 1).trans rfl;have hcz41_2:w39.cell? ⟨gb191,2,none⟩=some (.int .i64 a0_2):=(blk_cell BK191.out 2).trans rfl;have hcz41_3:w39.cell? ⟨gb191,3,none⟩=some (.int .i64 a0_3):=(blk_cell BK191.out 3).trans rfl;have hcz41_4:w39.cell? ⟨gb191,4,none⟩=some (.int .i64 a0_4):=(blk_cell BK191.out 4).trans rfl;have hcz41_5:w39.cell? ⟨gb191,5,none⟩=some (.int .i64 a0_5):=(blk_cell BK191.out 5).trans rfl;have hcz41_6:w39.cell? ⟨gb191,6,none⟩=some (.int .i64 a0_6):=(blk_cell BK191.out 6).trans rfl;have hcz41_7:w39.cell? ⟨gb191,7,none⟩=some (.int .i64 a0_7):=(blk_cell BK191.out 7).trans rfl;have hcz41_8:w39.cell? ⟨gb191,8,none⟩=some (.int .i64 a0_8):=(blk_cell BK191.out 8).trans rfl;have hcz41_9:w39.cell? ⟨gb191,9,none⟩=some (.int .i64 a0_9):=(blk_cell BK191.out 9).trans rfl;have hfz41_0:=blk_frozen BK191.out 0;have hfz41_1:=blk_frozen BK191.out 1;have hfz41_2:=blk_frozen BK191.out 2;have hfz41_3:=blk_frozen BK191.out 3;have hfz41_4:=blk_frozen BK191.out 4;have hfz41_5:=blk_frozen BK191.out 5;have hfz41_6:=blk_frozen BK191.out 6;have hfz41_7:=blk_frozen BK191.out 7;have hfz41_8:=blk_frozen BK191.out 8;have hfz41_9:=blk_frozen BK191.out 9;have hcz42_0:w39.cell? ⟨gb192,0,none⟩=some (.int .i64 a1_0):=(blk_cell BK192.out 0).trans rfl;have hcz42_1:w39.cell? ⟨gb192,1,none⟩=some (.bool a1_1):=(blk_cell BK192.out 1).trans rfl;have hcz42_2:w39.cell? ⟨gb192,2,none⟩=some (.int .i64 a1_2):=(blk_cell BK192.out 2).trans rfl;have hcz42_3:w39.cell? ⟨gb192,3,none⟩=some (.int .i64 a1_3):=(blk_cell BK192.out 3).trans rfl;have hcz42_4:w39.cell? ⟨gb192,4,none⟩=some (.int .i64 a1_4):=(blk_cell BK192.out 4).trans rfl;have hcz42_5:w39.cell? ⟨gb192,5,none⟩=some (.int .i64 a1_5):=(blk_cell BK192.out 5).trans rfl;have hcz42_6:w39.cell? ⟨gb192,6,none⟩=some (.int .i64 a1_6):=(blk_cell BK192.out 6).trans rfl;have hcz42_7:w39.cell? ⟨gb192,7,none⟩=some (.int .i64 a1_7):=(blk_cell BK192.out 7).trans rfl;have hcz42_8:w39.cell? ⟨gb192,8,none⟩=some (.int .i64 a1_8):=(blk_cell BK192.out 8).trans rfl;have hcz42_9:w39.cell? ⟨gb192,9,none⟩=some (.int .i64 a1_9):=(blk_cell BK192.out 9).trans rfl;have hfz42_0:=blk_frozen BK192.out 0;have hfz42_1:=blk_frozen BK192.out 1;have hfz42_2:=blk_frozen BK192.out 2;have hfz42_3:=blk_frozen BK192.out 3;have hfz42_4:=blk_frozen BK192.out 4;have hfz42_5:=blk_frozen BK192.out 5;have hfz42_6:=blk_frozen BK192.out 6;have hfz42_7:=blk_frozen BK192.out 7;have hfz42_8:=blk_frozen BK192.out 8;have hfz42_9:=blk_frozen BK192.out 9))
  go_ret
  exact ⟨by first|rfl|(simp [errW_none,errW_some] <;> rfl)|(simp [*,errW_none,errW_some] <;> rfl),by repeat (first|(with_reducible first|exact HB.out|apply below_alloc|apply pw_below_drewN|apply below_drew1|refine below_set ?_ GE191.out|refine below_set ?_ GE192.out)|exact HB.out)⟩

/-! ### laws_eqCellS: function 28 -/
def laws_eqCellS.l0:Nat→List (S33)→List (S33)→Int→Option (Bool)
 | 0,_,_,_=>none
 | k + 1,x0,x1,x5=>if x5 < (x0.length:Int) then (if 0≤x5 then (if x5 < (x1.length:Int) then ((laws_eqCell.f ((rd_T33 x0 x5).f0) ((rd_T33 x0 x5).f1) ((rd_T33 x0 x5).f2) ((rd_T33 x0 x5).f3) ((rd_T33 x1 x5).f0) ((rd_T33 x1 x5).f1) ((rd_T33 x1 x5).f2) ((rd_T33 x1 x5).f3)).bind fun t197=>(if t197=true then (laws_eqCellS.l0 k x0 x1 (wrap64 (x5 + 1))) else (some false))) else (none)) else (none)) else (some true)
def laws_eqCellS.f (k:Nat) (l0:List (S33)) (l1:List (S33)):Option (Bool):=if (l0.length:Int)=(l1.length:Int) then (laws_eqCellS.l0 k l0 l1 0) else (some false)
theorem laws_eqCellS.mono_l : ∀ k,(∀ y0 y1 y2,LeO (laws_eqCellS.l0 k y0 y1 y2) (laws_eqCellS.l0 (k + 1) y0 y1 y2))
 | 0=>fun _ _ _ r h=>by simp [laws_eqCellS.l0] at h
 | k + 1=>by
  have ih0:=laws_eqCellS.mono_l k
  ·intro y0 y1 y2
   unfold laws_eqCellS.l0
   repeat' first
   | (with_reducible exact ih0 _ _ _)
   | (with_reducible exact LeO.refl _)
   | (with_reducible exact LeO.none _)
   | (with_reducible refine LeO.ite ?_ ?_)
   | (with_reducible refine LeO.bind ?_ (fun _=>?_))
   | exact LeO.none _
   | refine LeO.ite ?_ ?_
   | refine LeO.bind ?_ (fun _=>?_)
theorem laws_eqCellS.mono : ∀ a0 a1 k,LeO (laws_eqCellS.f k a0 a1) (laws_eqCellS.f (k + 1) a0 a1):=by
 intro a0 a1 k
 have ih0:=laws_eqCellS.mono_l k
 unfold laws_eqCellS.f
 repeat' first
   | (with_reducible exact ih0 _ _ _)
   | (with_reducible exact LeO.refl _)
   | (with_reducible exact LeO.none _)
   | (with_reducible refine LeO.ite ?_ ?_)
   | (with_reducible refine LeO.bind ?_ (fun _=>?_))
   | exact LeO.none _
   | refine LeO.ite ?_ ?_
   | refine LeO.bind ?_ (fun _=>?_)
def laws_eqCellS.T6:Bool × List (List Nat × List Nat):=(true,[([],[]),([],[]),([0,1],[0,1]),([2],[2]),([],[]),([],[]),([4,5],[4,5]),([6],[6]),([3,7],[3,7]),([8],[8])])
def laws_eqCellS.B6:List Nat:=[0,0,3,7,0,0,48,112,255,511]
theorem laws_eqCellS.tab6:rtab .any (opsOf Try.f28 6)=laws_eqCellS.T6:=by kernel_rfl
theorem laws_eqCellS.bits6:waitsOk laws_eqCellS.T6.2 laws_eqCellS.B6=true:=by kernel_rfl
set_option maxHeartbeats 8000000 in
set_option maxRecDepth 100000 in
theorem laws_eqCellS.calls (k:Nat) (A0:Option Addr) (c0:Nat) (l0:List (S33)) (A1:Option Addr) (c1:Nat) (l1:List (S33)) (r:Bool) (w:World) (hr0:Kd.C k33 w A0 l0.length l0) (hc0:l0.length≤c0) (hr1:Kd.C k33 w A1 l1.length l1) (hc1:l1.length≤c1) (h:laws_eqCellS.f k l0 l1=some r) :
  Calls Try.prog 28 #[.slice A0 l0.length c0,.slice A1 l1.length c1] w fun e w'=>e=.returned (.bool r)∧Below w.heap.size w w':=by
 have hu33:=Try.underlying33
 have HR0:=Aside0.mk hr0
 have HC0:=Aside0.mk hc0
 clear hr0 hc0
 have HR1:=Aside0.mk hr1
 have HC1:=Aside0.mk hc1
 clear hr1 hc1
 have HB:=Aside0.mk (Below.refl w.heap.size w)
 have H:(if (l0.length:Int)=(l1.length:Int) then (laws_eqCellS.l0 k l0 l1 0) else (some false))=some r:=h
 clear h
 by_cases c3:(l0.length:Int)=(l1.length:Int)
 ·rw [if_pos c3] at H
  have c3b0:((l0.length:Int) == (l1.length:Int))=true:=beq_iff_eq.mpr c3
  have c3b1:((l0.length:Int) != (l1.length:Int))=false:=bne_eq_false_iff_eq.mpr c3
  have c3b2:(l0.length == l1.length)=true:=by first|simpa using c3|(simp at c3 ⊢;omega)
  clear c3
  have H':=Aside0.mk H
  clear H
  go_enter Try.func28,Try.ntmps28
  go_wp2
  go_loopg [5] k (fun kq v5 w'=>∃ (x5_1:Int),v5=.int .i64 x5_1∧Aside0 (laws_eqCellS.l0 kq l0 l1 x5_1=some r)∧Aside0 (kq≤k)∧Aside0 (Below w.heap.size w w'))
  case atStart=>exact ⟨(0),(by first|rfl|(simp;done)|(simp [*];done)),H',⟨Nat.le_refl _⟩,⟨zhb⟩⟩
  case round =>
   clear H'
   try clear c1
   try clear c2
   try clear p2
   try clear c3
   try clear c3b0
   try clear c3b1
   try clear c3b2
   obtain ⟨x5_1,rfl,HA,HK1,HB⟩:=hrel
   cases gk with
   | zero=>exact absurd HA.out (by simp [laws_eqCellS.l0])
   | succ k1 =>
    have H:=HA.out
    clear HA
    simp only [laws_eqCellS.l0] at H
    by_cases c4:x5_1 < (l0.length:Int)
    ·rw [if_pos c4] at H
     have c4b0:decide (x5_1 < (l0.length:Int))=true:=decide_eq_true c4
     clear c4
     by_cases c5:0≤x5_1
     ·rw [if_pos c5] at H
      have c5b0:decide (0≤x5_1)=true:=decide_eq_true c5
      clear c5
      by_cases c6:x5_1 < (l1.length:Int)
      ·rw [if_pos c6] at H
       have c6b0:decide (x5_1 < (l1.length:Int))=true:=decide_eq_true c6
       clear c6
       replace H:=Option.bind_eq_some_iff.mp H
       obtain ⟨t197,A70,H⟩:=H
       (try dsimp only at H)
       have A7:=Aside0.mk A70
       clear A70
       by_cases c8:t197=true
       ·subst c8
        have H1:(laws_eqCellS.l0 k1 l0 l1 (wrap64 (x5_1 + 1)))=some r:=by rw [if_pos rfl] at H;exact H
        clear H
        have H:=H1
        clear H1
        have H':=Aside0.mk H
        clear H
        try go_wp2
        have n0_:=Aside0.mk (below_drew1 HB.out)
        clear HB
        have HB:=n0_
        clear n0_
        have p195:0≤(x5_1:Int):=zod
        have q195:x5_1 < (l0.length:Int):=zod
        obtain ⟨ad195,e195,hx195_0,hx195_1,hx195_2,hx195_3⟩:=at_T33 HR0.out x5_1 p195 q195
        have hw195_3:=hx195_3
        have hw195_2:=hx195_2
        have hw195_1:=hx195_1
        have hw195_0:=hx195_0
        cases e195
        replace hx195_0:=(HB.out.cell (World.block_lt_of_cell? w _ hx195_0)).trans hx195_0
        replace hx195_1:=(HB.out.cell (World.block_lt_of_cell? w _ hx195_1)).trans hx195_1
        replace hx195_2:=(HB.out.cell (World.block_lt_of_cell? w _ hx195_2)).trans hx195_2
        replace hx195_3:=(HB.out.cell (World.block_lt_of_cell? w _ hx195_3)).trans hx195_3
        replace p195:=eq_true p195
        replace q195:=eq_true q195
        have p196:0≤(x5_1:Int):=zod
        have q196:x5_1 < (l1.length:Int):=zod
        obtain ⟨ad196,e196,hx196_0,hx196_1,hx196_2,hx196_3⟩:=at_T33 HR1.out x5_1 p196 q196
        have hw196_3:=hx196_3
        have hw196_2:=hx196_2
        have hw196_1:=hx196_1
        have hw196_0:=hx196_0
        cases e196
        replace hx196_0:=(HB.out.cell (World.block_lt_of_cell? w _ hx196_0)).trans hx196_0
        replace hx196_1:=(HB.out.cell (World.block_lt_of_cell? w _ hx196_1)).trans hx196_1
        replace hx196_2:=(HB.out.cell (World.block_lt_of_cell? w _ hx196_2)).trans hx196_2
        replace hx196_3:=(HB.out.cell (World.block_lt_of_cell? w _ hx196_3)).trans hx196_3
        replace p196:=eq_true p196
        replace q196:=eq_true q196
        refine start_ (n:=10) (S:=fun w'=>w'.cell? (ad195.add ((x5_1).toNat * 4))=some (.int .i64 ((rd_T33 l0 x5_1).f0))∧w'.cell? ⟨(ad195.add ((x5_1).toNat * 4)).block,(ad195.add ((x5_1).toNat * 4)).off + 1,none⟩=some (.int .i64 ((rd_T33 l0 x5_1).f1))∧w'.cell? ⟨(ad195.add ((x5_1).toNat * 4)).block,(ad195.add ((x5_1).toNat * 4)).off + 2,none⟩=some (.int .i64 ((rd_T33 l0 x5_1).f2))∧w'.cell? ⟨(ad195.add ((x5_1).toNat * 4)).block,(ad195.add ((x5_1).toNat * 4)).off + 3,none⟩=some (.int .i64 ((rd_T33 l0 x5_1).f3))∧w'.cell? (ad196.add ((x5_1).toNat * 4))=some (.int .i64 ((rd_T33 l1 x5_1).f0))∧w'.cell? ⟨(ad196.add ((x5_1).toNat * 4)).block,(ad196.add ((x5_1).toNat * 4)).off + 1,none⟩=some (.int .i64 ((rd_T33 l1 x5_1).f1))∧w'.cell? ⟨(ad196.add ((x5_1).toNat * 4)).block,(ad196.add ((x5_1).toNat * 4)).off + 2,none⟩=some (.int .i64 ((rd_T33 l1 x5_1).f2))∧w'.cell? ⟨(ad196.add ((x5_1).toNat * 4)).block,(ad196.add ((x5_1).toNat * 4)).off + 3,none⟩=some (.int .i64 ((rd_T33 l1 x5_1).f3))) (ds:=[]) #[X,X,X,X,X,X,X,X,X,X] (by kernel_rfl) rfl rfl ⟨((HB.out.cell (World.block_lt_of_cell? w _ hw195_0)).trans hw195_0),((HB.out.cell (World.block_lt_of_cell? w _ hw195_1)).trans hw195_1),((HB.out.cell (World.block_lt_of_cell? w _ hw195_2)).trans hw195_2),((HB.out.cell (World.block_lt_of_cell? w _ hw195_3)).trans hw195_3),((HB.out.cell (World.block_lt_of_cell? w _ hw196_0)).trans hw196_0),((HB.out.cell (World.block_lt_of_cell? w _ hw196_1)).trans hw196_1),((HB.out.cell (World.block_lt_of_cell? w _ hw196_2)).trans hw196_2),((HB.out.cell (World.block_lt_of_cell? w _ hw196_3)).trans hw196_3)⟩ (fun hHeld=>?_);refine with_tabW laws_eqCellS.tab6 laws_eqCellS.bits6 (fun HT_ HW_=>?_)
        generalize wr.drew=w9 at HB hx195_0 hx195_1 hx195_2 hx195_3 hx196_0 hx196_1 hx196_2 hx196_3 hHeld ⊢
        refine pure_ (i:=0) (N:=some 17) (v:=?_) (a':=?_) #[Y,X,X,X,X,X,X,X,X,X] rfl rfl zan (fun _ _ _ h=>h) (Or.inl ⟨by rfl,?_⟩) ?_ ?_
        rotate_left
        ·intro w'
         go_simp
         with_reducible rfl
        rotate_left
        ·simp only [Act.put,zp1,zp2,zp3,i64_w,i32_w]
         rfl
        refine pure_ (i:=1) (N:=some 18) (v:=?_) (a':=?_) #[Y,Y,X,X,X,X,X,X,X,X] rfl rfl zan (fun _ _ _ h=>h) (Or.inl ⟨by rfl,?_⟩) ?_ ?_
        rotate_left
        ·intro w'
         go_simp
         with_reducible rfl
        rotate_left
        ·simp only [Act.put,zp1,zp2,zp3,i64_w,i32_w]
         rfl
        refine pure_ (i:=2) (N:=some 19) (v:=?_) (a':=?_) #[Y,Y,Y,X,X,X,X,X,X,X] rfl rfl zan (fun _ _ _ h=>h) (Or.inl ⟨by rfl,?_⟩) ?_ ?_
        rotate_left
        ·intro w'
         go_simp
         with_reducible rfl
        rotate_left
        ·simp only [Act.put,zp1,zp2,zp3,i64_w,i32_w]
         rfl
        refine pure_ (i:=4) (N:=some 21) (v:=?_) (a':=?_) #[Y,Y,Y,X,Y,X,X,X,X,X] rfl rfl zan (fun _ _ _ h=>h) (Or.inl ⟨by rfl,?_⟩) ?_ ?_
        rotate_left
        ·intro w'
         go_simp
         with_reducible rfl
        rotate_left
        ·simp only [Act.put,zp1,zp2,zp3,i64_w,i32_w]
         rfl
        refine pure_ (i:=5) (N:=some 22) (v:=?_) (a':=?_) #[Y,Y,Y,X,Y,Y,X,X,X,X] rfl rfl zan (fun _ _ _ h=>h) (Or.inl ⟨by rfl,?_⟩) ?_ ?_
        rotate_left
        ·intro w'
         go_simp
         with_reducible rfl
        rotate_left
        ·simp only [Act.put,zp1,zp2,zp3,i64_w,i32_w]
         rfl
        refine pure_ (i:=6) (N:=some 23) (v:=?_) (a':=?_) #[Y,Y,Y,X,Y,Y,Y,X,X,X] rfl rfl zan (fun _ _ _ h=>h) (Or.inl ⟨by rfl,?_⟩) ?_ ?_
        rotate_left
        ·intro w'
         go_simp
         with_reducible rfl
        rotate_left
        ·simp only [Act.put,zp1,zp2,zp3,i64_w,i32_w]
         rfl
        refine take_ (i:=3) (N:=some 20) (v:=?_) (a':=?_) #[Y,Y,Y,Y,Y,Y,Y,X,X,X] rfl rfl ztw (fun _ _ _ h=>h) (Or.inl ⟨by rfl,?_⟩) hHeld ?_ ?_
        rotate_left
        ·rintro w' ⟨s0,s1,s2,s3,s4,s5,s6,s7⟩
         go_simp
         with_reducible rfl
        rotate_left
        ·simp only [Act.put,zp1,zp2,zp3,i64_w,i32_w]
         rfl
        refine take_ (i:=7) (N:=some 24) (v:=?_) (a':=?_) #[Y,Y,Y,Y,Y,Y,Y,Y,X,X] rfl rfl ztw (fun _ _ _ h=>h) (Or.inl ⟨by rfl,?_⟩) hHeld ?_ ?_
        rotate_left
        ·rintro w' ⟨s0,s1,s2,s3,s4,s5,s6,s7⟩
         go_simp
         with_reducible rfl
        rotate_left
        ·simp only [Act.put,zp1,zp2,zp3,i64_w,i32_w]
         rfl
        refine one_ (i:=8) (N:=some 25) #[Y,Y,Y,Y,Y,Y,Y,Y,Y,X] rfl rfl (one_of HT_.out (by kernel_rfl)) (by decide) (fun K hK=>?_)
        refine goes_ Try.func43 (by kernel_rfl) rfl #[.agg #[.int .i64 ((rd_T33 l0 x5_1).f0),.int .i64 ((rd_T33 l0 x5_1).f1),.int .i64 ((rd_T33 l0 x5_1).f2),.int .i64 ((rd_T33 l0 x5_1).f3)],.agg #[.int .i64 ((rd_T33 l1 x5_1).f0),.int .i64 ((rd_T33 l1 x5_1).f1),.int .i64 ((rd_T33 l1 x5_1).f2),.int .i64 ((rd_T33 l1 x5_1).f3)]] (by rfl) rfl rfl zar ?_
        with_reducible refine (laws_eqCell.calls ((rd_T33 l0 x5_1).f0) ((rd_T33 l0 x5_1).f1) ((rd_T33 l0 x5_1).f2) ((rd_T33 l0 x5_1).f3) ((rd_T33 l1 x5_1).f0) ((rd_T33 l1 x5_1).f1) ((rd_T33 l1 x5_1).f2) ((rd_T33 l1 x5_1).f3) true _ A7.out).mono ?_
        rintro e w10 ⟨rfl,hb⟩
        refine ⟨_,rfl,?_⟩
        have n0_:=Aside0.mk (below_step zhb hb)
        clear HB
        have HB:=n0_
        clear n0_
        (try clear hb)
        (try clear hb2)
        (try clear hk)
        (try clear hi)
        refine hK.out _ _ ⟨((HB.out.cell (World.block_lt_of_cell? w _ hw195_0)).trans hw195_0),((HB.out.cell (World.block_lt_of_cell? w _ hw195_1)).trans hw195_1),((HB.out.cell (World.block_lt_of_cell? w _ hw195_2)).trans hw195_2),((HB.out.cell (World.block_lt_of_cell? w _ hw195_3)).trans hw195_3),((HB.out.cell (World.block_lt_of_cell? w _ hw196_0)).trans hw196_0),((HB.out.cell (World.block_lt_of_cell? w _ hw196_1)).trans hw196_1),((HB.out.cell (World.block_lt_of_cell? w _ hw196_2)).trans hw196_2),((HB.out.cell (World.block_lt_of_cell? w _ hw196_3)).trans hw196_3)⟩ (fun hHeld=>?_)
        clear hK K
        refine norm_ (a':=?_) ?_ ?_
        rotate_left
        ·show Act.put _ (some 25) _=_
         simp only [Act.put,zp1,zp2,zp3,i64_w,i32_w]
         rfl
        refine pure_ (i:=9) (N:=some 26) (v:=?_) (a':=?_) #[Y,Y,Y,Y,Y,Y,Y,Y,Y,Y] rfl rfl zan (fun _ _ _ h=>h) (Or.inl ⟨by rfl,?_⟩) ?_ ?_
        rotate_left
        ·intro w'
         go_simp
         with_reducible rfl
        rotate_left
        ·simp only [Act.put,zp1,zp2,zp3,i64_w,i32_w]
         rfl
        refine done_ (done_of HT_.out (by kernel_rfl)) ?_
        try go_wp2
        go_roundg k1
        case measure=>have:=HK1.out;omega
        case rel=>exact ⟨(wrap64 (x5_1 + 1)),(by first|rfl|(simp;done)|(simp [*];done)),H',⟨by have:=HK1.out;omega⟩,⟨zhb⟩⟩
       ·replace c8:=Bool.eq_false_iff.mpr c8
        subst c8
        have H1:(some false)=some r:=by rw [if_neg (show ¬ (false=true) by decide)] at H;exact H
        clear H
        have H:=H1
        clear H1
        obtain rfl:=Option.some.inj H
        try go_wp2
        have n0_:=Aside0.mk (below_drew1 HB.out)
        clear HB
        have HB:=n0_
        clear n0_
        have p195:0≤(x5_1:Int):=zod
        have q195:x5_1 < (l0.length:Int):=zod
        obtain ⟨ad195,e195,hx195_0,hx195_1,hx195_2,hx195_3⟩:=at_T33 HR0.out x5_1 p195 q195
        have hw195_3:=hx195_3
        have hw195_2:=hx195_2
        have hw195_1:=hx195_1
        have hw195_0:=hx195_0
        cases e195
        replace hx195_0:=(HB.out.cell (World.block_lt_of_cell? w _ hx195_0)).trans hx195_0
        replace hx195_1:=(HB.out.cell (World.block_lt_of_cell? w _ hx195_1)).trans hx195_1
        replace hx195_2:=(HB.out.cell (World.block_lt_of_cell? w _ hx195_2)).trans hx195_2
        replace hx195_3:=(HB.out.cell (World.block_lt_of_cell? w _ hx195_3)).trans hx195_3
        replace p195:=eq_true p195
        replace q195:=eq_true q195
        have p196:0≤(x5_1:Int):=zod
        have q196:x5_1 < (l1.length:Int):=zod
        obtain ⟨ad196,e196,hx196_0,hx196_1,hx196_2,hx196_3⟩:=at_T33 HR1.out x5_1 p196 q196
        have hw196_3:=hx196_3
        have hw196_2:=hx196_2
        have hw196_1:=hx196_1
        have hw196_0:=hx196_0
        cases e196
        replace hx196_0:=(HB.out.cell (World.block_lt_of_cell? w _ hx196_0)).trans hx196_0
        replace hx196_1:=(HB.out.cell (World.block_lt_of_cell? w _ hx196_1)).trans hx196_1
        replace hx196_2:=(HB.out.cell (World.block_lt_of_cell? w _ hx196_2)).trans hx196_2
        replace hx196_3:=(HB.out.cell (World.block_lt_of_cell? w _ hx196_3)).trans hx196_3
        replace p196:=eq_true p196
        replace q196:=eq_true q196
        refine start_ (n:=10) (S:=fun w'=>w'.cell? (ad195.add ((x5_1).toNat * 4))=some (.int .i64 ((rd_T33 l0 x5_1).f0))∧w'.cell? ⟨(ad195.add ((x5_1).toNat * 4)).block,(ad195.add ((x5_1).toNat * 4)).off + 1,none⟩=some (.int .i64 ((rd_T33 l0 x5_1).f1))∧w'.cell? ⟨(ad195.add ((x5_1).toNat * 4)).block,(ad195.add ((x5_1).toNat * 4)).off + 2,none⟩=some (.int .i64 ((rd_T33 l0 x5_1).f2))∧w'.cell? ⟨(ad195.add ((x5_1).toNat * 4)).block,(ad195.add ((x5_1).toNat * 4)).off + 3,none⟩=some (.int .i64 ((rd_T33 l0 x5_1).f3))∧w'.cell? (ad196.add ((x5_1).toNat * 4))=some (.int .i64 ((rd_T33 l1 x5_1).f0))∧w'.cell? ⟨(ad196.add ((x5_1).toNat * 4)).block,(ad196.add ((x5_1).toNat * 4)).off + 1,none⟩=some (.int .i64 ((rd_T33 l1 x5_1).f1))∧w'.cell? ⟨(ad196.add ((x5_1).toNat * 4)).block,(ad196.add ((x5_1).toNat * 4)).off + 2,none⟩=some (.int .i64 ((rd_T33 l1 x5_1).f2))∧w'.cell? ⟨(ad196.add ((x5_1).toNat * 4)).block,(ad196.add ((x5_1).toNat * 4)).off + 3,none⟩=some (.int .i64 ((rd_T33 l1 x5_1).f3))) (ds:=[]) #[X,X,X,X,X,X,X,X,X,X] (by kernel_rfl) rfl rfl ⟨((HB.out.cell (World.block_lt_of_cell? w _ hw195_0)).trans hw195_0),((HB.out.cell (World.block_lt_of_cell? w _ hw195_1)).trans hw195_1),((HB.out.cell (World.block_lt_of_cell? w _ hw195_2)).trans hw195_2),((HB.out.cell (World.block_lt_of_cell? w _ hw195_3)).trans hw195_3),((HB.out.cell (World.block_lt_of_cell? w _ hw196_0)).trans hw196_0),((HB.out.cell (World.block_lt_of_cell? w _ hw196_1)).trans hw196_1),((HB.out.cell (World.block_lt_of_cell? w _ hw196_2)).trans hw196_2),((HB.out.cell (World.block_lt_of_cell? w _ hw196_3)).trans hw196_3)⟩ (fun hHeld=>?_);refine with_tabW laws_eqCellS.tab6 laws_eqCellS.bits6 (fun HT_ HW_=>?_)
        generalize wr.drew=w11 at HB hx195_0 hx195_1 hx195_2 hx195_3 hx196_0 hx196_1 hx196_2 hx196_3 hHeld ⊢
        refine pure_ (i:=0) (N:=some 17) (v:=?_) (a':=?_) #[Y,X,X,X,X,X,X,X,X,X] rfl rfl zan (fun _ _ _ h=>h) (Or.inl ⟨by rfl,?_⟩) ?_ ?_
        rotate_left
        ·intro w'
         go_simp
         with_reducible rfl
        rotate_left
        ·simp only [Act.put,zp1,zp2,zp3,i64_w,i32_w]
         rfl
        refine pure_ (i:=1) (N:=some 18) (v:=?_) (a':=?_) #[Y,Y,X,X,X,X,X,X,X,X] rfl rfl zan (fun _ _ _ h=>h) (Or.inl ⟨by rfl,?_⟩) ?_ ?_
        rotate_left
        ·intro w'
         go_simp
         with_reducible rfl
        rotate_left
        ·simp only [Act.put,zp1,zp2,zp3,i64_w,i32_w]
         rfl
        refine pure_ (i:=2) (N:=some 19) (v:=?_) (a':=?_) #[Y,Y,Y,X,X,X,X,X,X,X] rfl rfl zan (fun _ _ _ h=>h) (Or.inl ⟨by rfl,?_⟩) ?_ ?_
        rotate_left
        ·intro w'
         go_simp
         with_reducible rfl
        rotate_left
        ·simp only [Act.put,zp1,zp2,zp3,i64_w,i32_w]
         rfl
        refine pure_ (i:=4) (N:=some 21) (v:=?_) (a':=?_) #[Y,Y,Y,X,Y,X,X,X,X,X] rfl rfl zan (fun _ _ _ h=>h) (Or.inl ⟨by rfl,?_⟩) ?_ ?_
        rotate_left
        ·intro w'
         go_simp
         with_reducible rfl
        rotate_left
        ·simp only [Act.put,zp1,zp2,zp3,i64_w,i32_w]
         rfl
        refine pure_ (i:=5) (N:=some 22) (v:=?_) (a':=?_) #[Y,Y,Y,X,Y,Y,X,X,X,X] rfl rfl zan (fun _ _ _ h=>h) (Or.inl ⟨by rfl,?_⟩) ?_ ?_
        rotate_left
        ·intro w'
         go_simp
         with_reducible rfl
        rotate_left
        ·simp only [Act.put,zp1,zp2,zp3,i64_w,i32_w]
         rfl
        refine pure_ (i:=6) (N:=some 23) (v:=?_) (a':=?_) #[Y,Y,Y,X,Y,Y,Y,X,X,X] rfl rfl zan (fun _ _ _ h=>h) (Or.inl ⟨by rfl,?_⟩) ?_ ?_
        rotate_left
        ·intro w'
         go_simp
         with_reducible rfl
        rotate_left
        ·simp only [Act.put,zp1,zp2,zp3,i64_w,i32_w]
         rfl
        refine take_ (i:=3) (N:=some 20) (v:=?_) (a':=?_) #[Y,Y,Y,Y,Y,Y,Y,X,X,X] rfl rfl ztw (fun _ _ _ h=>h) (Or.inl ⟨by rfl,?_⟩) hHeld ?_ ?_
        rotate_left
        ·rintro w' ⟨s0,s1,s2,s3,s4,s5,s6,s7⟩
         go_simp
         with_reducible rfl
        rotate_left
        ·simp only [Act.put,zp1,zp2,zp3,i64_w,i32_w]
         rfl
        refine take_ (i:=7) (N:=some 24) (v:=?_) (a':=?_) #[Y,Y,Y,Y,Y,Y,Y,Y,X,X] rfl rfl ztw (fun _ _ _ h=>h) (Or.inl ⟨by rfl,?_⟩) hHeld ?_ ?_
        rotate_left
        ·rintro w' ⟨s0,s1,s2,s3,s4,s5,s6,s7⟩
         go_simp
         with_reducible rfl
        rotate_left
        ·simp only [Act.put,zp1,zp2,zp3,i64_w,i32_w]
         rfl
        refine one_ (i:=8) (N:=some 25) #[Y,Y,Y,Y,Y,Y,Y,Y,Y,X] rfl rfl (one_of HT_.out (by kernel_rfl)) (by decide) (fun K hK=>?_)
        refine goes_ Try.func43 (by kernel_rfl) rfl #[.agg #[.int .i64 ((rd_T33 l0 x5_1).f0),.int .i64 ((rd_T33 l0 x5_1).f1),.int .i64 ((rd_T33 l0 x5_1).f2),.int .i64 ((rd_T33 l0 x5_1).f3)],.agg #[.int .i64 ((rd_T33 l1 x5_1).f0),.int .i64 ((rd_T33 l1 x5_1).f1),.int .i64 ((rd_T33 l1 x5_1).f2),.int .i64 ((rd_T33 l1 x5_1).f3)]] (by rfl) rfl rfl zar ?_
        with_reducible refine (laws_eqCell.calls ((rd_T33 l0 x5_1).f0) ((rd_T33 l0 x5_1).f1) ((rd_T33 l0 x5_1).f2) ((rd_T33 l0 x5_1).f3) ((rd_T33 l1 x5_1).f0) ((rd_T33 l1 x5_1).f1) ((rd_T33 l1 x5_1).f2) ((rd_T33 l1 x5_1).f3) false _ A7.out).mono ?_
        rintro e w12 ⟨rfl,hb⟩
        refine ⟨_,rfl,?_⟩
        have n0_:=Aside0.mk (below_step zhb hb)
        clear HB
        have HB:=n0_
        clear n0_
        (try clear hb)
        (try clear hb2)
        (try clear hk)
        (try clear hi)
        refine hK.out _ _ ⟨((HB.out.cell (World.block_lt_of_cell? w _ hw195_0)).trans hw195_0),((HB.out.cell (World.block_lt_of_cell? w _ hw195_1)).trans hw195_1),((HB.out.cell (World.block_lt_of_cell? w _ hw195_2)).trans hw195_2),((HB.out.cell (World.block_lt_of_cell? w _ hw195_3)).trans hw195_3),((HB.out.cell (World.block_lt_of_cell? w _ hw196_0)).trans hw196_0),((HB.out.cell (World.block_lt_of_cell? w _ hw196_1)).trans hw196_1),((HB.out.cell (World.block_lt_of_cell? w _ hw196_2)).trans hw196_2),((HB.out.cell (World.block_lt_of_cell? w _ hw196_3)).trans hw196_3)⟩ (fun hHeld=>?_)
        clear hK K
        refine norm_ (a':=?_) ?_ ?_
        rotate_left
        ·show Act.put _ (some 25) _=_
         simp only [Act.put,zp1,zp2,zp3,i64_w,i32_w]
         rfl
        refine pure_ (i:=9) (N:=some 26) (v:=?_) (a':=?_) #[Y,Y,Y,Y,Y,Y,Y,Y,Y,Y] rfl rfl zan (fun _ _ _ h=>h) (Or.inl ⟨by rfl,?_⟩) ?_ ?_
        rotate_left
        ·intro w'
         go_simp
         with_reducible rfl
        rotate_left
        ·simp only [Act.put,zp1,zp2,zp3,i64_w,i32_w]
         rfl
        refine done_ (done_of HT_.out (by kernel_rfl)) ?_
        try go_wp2
        go_ret
        exact ⟨by first|rfl|(simp [errW_none,errW_some] <;> rfl)|(simp [*,errW_none,errW_some] <;> rfl),zhb⟩
      ·rw [if_neg c6] at H
       exact absurd H (by simp)
     ·rw [if_neg c5] at H
      exact absurd H (by simp)
    ·rw [if_neg c4] at H
     have c4b0:decide (x5_1 < (l0.length:Int))=false:=decide_eq_false c4
     clear c4
     obtain rfl:=Option.some.inj H
     go_wp2
     go_ret
     exact ⟨by first|rfl|(simp [errW_none,errW_some] <;> rfl)|(simp [*,errW_none,errW_some] <;> rfl),zhb⟩
 ·rw [if_neg c3] at H
  have c3b0:((l0.length:Int) == (l1.length:Int))=false:=beq_eq_false_iff_ne.mpr c3
  have c3b1:((l0.length:Int) != (l1.length:Int))=true:=bne_iff_ne.mpr c3
  have c3b2:(l0.length == l1.length)=false:=by first|simpa using c3|(simp at c3 ⊢;omega)
  obtain rfl:=Option.some.inj H
  go_enter Try.func28,Try.ntmps28
  go_wp2
  go_ret
  exact ⟨by first|rfl|(simp [errW_none,errW_some] <;> rfl)|(simp [*,errW_none,errW_some] <;> rfl),zhb⟩


section
attribute [local go_sem high] eqA33
/-! ### slices_Equal_impl_Cell_impl_Cell: function 24 -/
def slices_Equal_impl_Cell_impl_Cell.l0:Nat→List (S33)→List (S33)→Int→Int→Option (Bool)
 | 0,_,_,_,_=>none
 | k + 1,x0,x1,x12,x13=>if x13 < x12 then (if 0≤x13 then (if x13 < (x0.length:Int) then (if x13 < (x1.length:Int) then (if (!(((rd_T33 x0 x13).f0) == ((rd_T33 x1 x13).f0)) || (!(((rd_T33 x0 x13).f1) == ((rd_T33 x1 x13).f1)) || (!(((rd_T33 x0 x13).f2) == ((rd_T33 x1 x13).f2)) || (!(((rd_T33 x0 x13).f3) == ((rd_T33 x1 x13).f3))))))=true then (some false) else (slices_Equal_impl_Cell_impl_Cell.l0 k x0 x1 x12 (wrap64 (x13 + 1)))) else (none)) else (none)) else (none)) else (some true)
def slices_Equal_impl_Cell_impl_Cell.f (k:Nat) (l0:List (S33)) (l1:List (S33)):Option (Bool):=if (l0.length:Int)=(l1.length:Int) then (slices_Equal_impl_Cell_impl_Cell.l0 k l0 l1 (l0.length:Int) 0) else (some false)
theorem slices_Equal_impl_Cell_impl_Cell.mono_l : ∀ k,(∀ y0 y1 y2 y3,LeO (slices_Equal_impl_Cell_impl_Cell.l0 k y0 y1 y2 y3) (slices_Equal_impl_Cell_impl_Cell.l0 (k + 1) y0 y1 y2 y3))
 | 0=>fun _ _ _ _ r h=>by simp [slices_Equal_impl_Cell_impl_Cell.l0] at h
 | k + 1=>by
  have ih0:=slices_Equal_impl_Cell_impl_Cell.mono_l k
  ·intro y0 y1 y2 y3
   unfold slices_Equal_impl_Cell_impl_Cell.l0
   repeat' first
   | (with_reducible exact ih0 _ _ _ _)
   | (with_reducible exact LeO.refl _)
   | (with_reducible exact LeO.none _)
   | (with_reducible refine LeO.ite ?_ ?_)
   | (with_reducible refine LeO.bind ?_ (fun _=>?_))
   | exact LeO.none _
   | refine LeO.ite ?_ ?_
   | refine LeO.bind ?_ (fun _=>?_)
theorem slices_Equal_impl_Cell_impl_Cell.mono : ∀ a0 a1 k,LeO (slices_Equal_impl_Cell_impl_Cell.f k a0 a1) (slices_Equal_impl_Cell_impl_Cell.f (k + 1) a0 a1):=by
 intro a0 a1 k
 have ih0:=slices_Equal_impl_Cell_impl_Cell.mono_l k
 unfold slices_Equal_impl_Cell_impl_Cell.f
 repeat' first
   | (with_reducible exact ih0 _ _ _ _)
   | (with_reducible exact LeO.refl _)
   | (with_reducible exact LeO.none _)
   | (with_reducible refine LeO.ite ?_ ?_)
   | (with_reducible refine LeO.bind ?_ (fun _=>?_))
   | exact LeO.none _
   | refine LeO.ite ?_ ?_
   | refine LeO.bind ?_ (fun _=>?_)
set_option maxHeartbeats 8000000 in
set_option maxRecDepth 100000 in
theorem slices_Equal_impl_Cell_impl_Cell.calls (k:Nat) (A0:Option Addr) (c0:Nat) (l0:List (S33)) (A1:Option Addr) (c1:Nat) (l1:List (S33)) (r:Bool) (w:World) (hr0:Kd.C k33 w A0 l0.length l0) (hc0:l0.length≤c0) (hr1:Kd.C k33 w A1 l1.length l1) (hc1:l1.length≤c1) (h:slices_Equal_impl_Cell_impl_Cell.f k l0 l1=some r) :
  Calls Try.prog 24 #[.slice A0 l0.length c0,.slice A1 l1.length c1] w fun e w'=>e=.returned (.bool r)∧Drawn0 w w':=by
 have hu33:=Try.underlying33
 have HR0:=Aside0.mk hr0
 have HC0:=Aside0.mk hc0
 clear hr0 hc0
 have HR1:=Aside0.mk hr1
 have HC1:=Aside0.mk hc1
 clear hr1 hc1
 have H:(if (l0.length:Int)=(l1.length:Int) then (slices_Equal_impl_Cell_impl_Cell.l0 k l0 l1 (l0.length:Int) 0) else (some false))=some r:=h
 clear h
 by_cases c3:(l0.length:Int)=(l1.length:Int)
 ·rw [if_pos c3] at H
  have c3b0:((l0.length:Int) == (l1.length:Int))=true:=beq_iff_eq.mpr c3
  have c3b1:((l0.length:Int) != (l1.length:Int))=false:=bne_eq_false_iff_eq.mpr c3
  have c3b2:(l0.length == l1.length)=true:=by first|simpa using c3|(simp at c3 ⊢;omega)
  clear c3
  have H':=Aside0.mk H
  clear H
  go_enter Try.func24,Try.ntmps24
  go_wp2
  repeat (go_quiet (fail);try go_wp2)
  go_loopg [13] k (fun kq v13 w'=>∃ (x13_1:Int),v13=.int .i64 x13_1∧Aside0 (slices_Equal_impl_Cell_impl_Cell.l0 kq l0 l1 (l0.length:Int) x13_1=some r)∧Aside0 (kq≤k)∧Drawn0 w w')
  case atStart=>exact ⟨(0),(by first|rfl|(simp;done)|(simp [*];done)),H',⟨Nat.le_refl _⟩,zdw⟩
  case round =>
   clear H'
   try clear c1
   try clear c2
   try clear p2
   try clear c3
   try clear c3b0
   try clear c3b1
   try clear c3b2
   obtain ⟨x13_1,rfl,HA,HK1,⟨m1,rfl⟩⟩:=hrel
   cases gk with
   | zero=>exact absurd HA.out (by simp [slices_Equal_impl_Cell_impl_Cell.l0])
   | succ k1 =>
    have H:=HA.out
    clear HA
    simp only [slices_Equal_impl_Cell_impl_Cell.l0] at H
    by_cases c4:x13_1 < (l0.length:Int)
    ·rw [if_pos c4] at H
     have c4b0:decide (x13_1 < (l0.length:Int))=true:=decide_eq_true c4
     clear c4
     by_cases c5:0≤x13_1
     ·rw [if_pos c5] at H
      have c5b0:decide (0≤x13_1)=true:=decide_eq_true c5
      clear c5
      by_cases c6:x13_1 < (l0.length:Int)
      ·rw [if_pos c6] at H
       have c6b0:decide (x13_1 < (l0.length:Int))=true:=decide_eq_true c6
       clear c6
       by_cases c7:x13_1 < (l1.length:Int)
       ·rw [if_pos c7] at H
        have c7b0:decide (x13_1 < (l1.length:Int))=true:=decide_eq_true c7
        clear c7
        by_cases c8:(!(((rd_T33 l0 x13_1).f0) == ((rd_T33 l1 x13_1).f0)) || (!(((rd_T33 l0 x13_1).f1) == ((rd_T33 l1 x13_1).f1)) || (!(((rd_T33 l0 x13_1).f2) == ((rd_T33 l1 x13_1).f2)) || (!(((rd_T33 l0 x13_1).f3) == ((rd_T33 l1 x13_1).f3))))))=true
        ·rw [if_pos c8] at H
         have c8b0:(!(((rd_T33 l0 x13_1).f0) == ((rd_T33 l1 x13_1).f0)) || (!(((rd_T33 l0 x13_1).f1) == ((rd_T33 l1 x13_1).f1)) || (!(((rd_T33 l0 x13_1).f2) == ((rd_T33 l1 x13_1).f2)) || (!(((rd_T33 l0 x13_1).f3) == ((rd_T33 l1 x13_1).f3))))))=true:=c8
         clear c8
         obtain rfl:=Option.some.inj H
         have p207:0≤(x13_1:Int):=zod
         have q207:x13_1 < (l0.length:Int):=zod
         obtain ⟨ad207,e207,hx207_0,hx207_1,hx207_2,hx207_3⟩:=at_T33 HR0.out x13_1 p207 q207
         cases e207
         replace p207:=eq_true p207
         replace q207:=eq_true q207
         have p208:0≤(x13_1:Int):=zod
         have q208:x13_1 < (l1.length:Int):=zod
         obtain ⟨ad208,e208,hx208_0,hx208_1,hx208_2,hx208_3⟩:=at_T33 HR1.out x13_1 p208 q208
         cases e208
         replace p208:=eq_true p208
         replace q208:=eq_true q208
         go_wp2
         repeat (go_quiet (fail);try go_wp2)
         go_ret
         exact ⟨by first|rfl|(simp;done)|(simp [*];done),zdw⟩
        ·rw [if_neg c8] at H
         have c8b0:(!(((rd_T33 l0 x13_1).f0) == ((rd_T33 l1 x13_1).f0)) || (!(((rd_T33 l0 x13_1).f1) == ((rd_T33 l1 x13_1).f1)) || (!(((rd_T33 l0 x13_1).f2) == ((rd_T33 l1 x13_1).f2)) || (!(((rd_T33 l0 x13_1).f3) == ((rd_T33 l1 x13_1).f3))))))=false:=by simpa using c8
         clear c8
         have H':=Aside0.mk H
         clear H
         have p207:0≤(x13_1:Int):=zod
         have q207:x13_1 < (l0.length:Int):=zod
         obtain ⟨ad207,e207,hx207_0,hx207_1,hx207_2,hx207_3⟩:=at_T33 HR0.out x13_1 p207 q207
         cases e207
         replace p207:=eq_true p207
         replace q207:=eq_true q207
         have p208:0≤(x13_1:Int):=zod
         have q208:x13_1 < (l1.length:Int):=zod
         obtain ⟨ad208,e208,hx208_0,hx208_1,hx208_2,hx208_3⟩:=at_T33 HR1.out x13_1 p208 q208
         cases e208
         replace p208:=eq_true p208
         replace q208:=eq_true q208
         go_wp2
         repeat (go_quiet (fail);try go_wp2)
         go_roundg k1
         case measure=>have:=HK1.out;omega
         case rel=>exact ⟨(wrap64 (x13_1 + 1)),(by first|rfl|(simp;done)|(simp [*];done)),H',⟨by have:=HK1.out;omega⟩,zdw⟩
       ·rw [if_neg c7] at H
        exact absurd H (by simp)
      ·rw [if_neg c6] at H
       exact absurd H (by simp)
     ·rw [if_neg c5] at H
      exact absurd H (by simp)
    ·rw [if_neg c4] at H
     have c4b0:decide (x13_1 < (l0.length:Int))=false:=decide_eq_false c4
     clear c4
     obtain rfl:=Option.some.inj H
     go_wp2
     repeat (go_quiet (fail);try go_wp2)
     go_ret
     exact ⟨by first|rfl|(simp;done)|(simp [*];done),zdw⟩
 ·rw [if_neg c3] at H
  have c3b0:((l0.length:Int) == (l1.length:Int))=false:=beq_eq_false_iff_ne.mpr c3
  have c3b1:((l0.length:Int) != (l1.length:Int))=true:=bne_iff_ne.mpr c3
  have c3b2:(l0.length == l1.length)=false:=by first|simpa using c3|(simp at c3 ⊢;omega)
  obtain rfl:=Option.some.inj H
  go_enter Try.func24,Try.ntmps24
  go_wp2
  repeat (go_quiet (fail);try go_wp2)
  go_ret
  exact ⟨by first|rfl|(simp;done)|(simp [*];done),zdw⟩
end

/-! ### slices_Equal_int_int: function 25 -/
def slices_Equal_int_int.l0:Nat→List Int→List Int→Int→Int→Option (Bool)
 | 0,_,_,_,_=>none
 | k + 1,x0,x1,x12,x13=>if x13 < x12 then (if 0≤x13 then (if x13 < (x0.length:Int) then (if x13 < (x1.length:Int) then (if (rd x0 x13)=(rd x1 x13) then (slices_Equal_int_int.l0 k x0 x1 x12 (wrap64 (x13 + 1))) else (some false)) else (none)) else (none)) else (none)) else (some true)
def slices_Equal_int_int.f (k:Nat) (l0:List Int) (l1:List Int):Option (Bool):=if (l0.length:Int)=(l1.length:Int) then (slices_Equal_int_int.l0 k l0 l1 (l0.length:Int) 0) else (some false)
theorem slices_Equal_int_int.mono_l : ∀ k,(∀ y0 y1 y2 y3,LeO (slices_Equal_int_int.l0 k y0 y1 y2 y3) (slices_Equal_int_int.l0 (k + 1) y0 y1 y2 y3))
 | 0=>fun _ _ _ _ r h=>by simp [slices_Equal_int_int.l0] at h
 | k + 1=>by
  have ih0:=slices_Equal_int_int.mono_l k
  ·intro y0 y1 y2 y3
   unfold slices_Equal_int_int.l0
   repeat' first
   | (with_reducible exact ih0 _ _ _ _)
   | (with_reducible exact LeO.refl _)
   | (with_reducible exact LeO.none _)
   | (with_reducible refine LeO.ite ?_ ?_)
   | (with_reducible refine LeO.bind ?_ (fun _=>?_))
   | exact LeO.none _
   | refine LeO.ite ?_ ?_
   | refine LeO.bind ?_ (fun _=>?_)
theorem slices_Equal_int_int.mono : ∀ a0 a1 k,LeO (slices_Equal_int_int.f k a0 a1) (slices_Equal_int_int.f (k + 1) a0 a1):=by
 intro a0 a1 k
 have ih0:=slices_Equal_int_int.mono_l k
 unfold slices_Equal_int_int.f
 repeat' first
   | (with_reducible exact ih0 _ _ _ _)
   | (with_reducible exact LeO.refl _)
   | (with_reducible exact LeO.none _)
   | (with_reducible refine LeO.ite ?_ ?_)
   | (with_reducible refine LeO.bind ?_ (fun _=>?_))
   | exact LeO.none _
   | refine LeO.ite ?_ ?_
   | refine LeO.bind ?_ (fun _=>?_)
set_option maxHeartbeats 8000000 in
set_option maxRecDepth 100000 in
theorem slices_Equal_int_int.calls (k:Nat) (A0:Option Addr) (c0:Nat) (l0:List Int) (A1:Option Addr) (c1:Nat) (l1:List Int) (r:Bool) (w:World) (hr0:Kd.C (Kd.int .i64) w A0 l0.length l0) (hc0:l0.length≤c0) (hr1:Kd.C (Kd.int .i64) w A1 l1.length l1) (hc1:l1.length≤c1) (h:slices_Equal_int_int.f k l0 l1=some r) :
  Calls Try.prog 25 #[.slice A0 l0.length c0,.slice A1 l1.length c1] w fun e w'=>e=.returned (.bool r)∧Drawn0 w w':=by
 have HR0:=Aside0.mk hr0
 have HC0:=Aside0.mk hc0
 clear hr0 hc0
 have HR1:=Aside0.mk hr1
 have HC1:=Aside0.mk hc1
 clear hr1 hc1
 have H:(if (l0.length:Int)=(l1.length:Int) then (slices_Equal_int_int.l0 k l0 l1 (l0.length:Int) 0) else (some false))=some r:=h
 clear h
 by_cases c3:(l0.length:Int)=(l1.length:Int)
 ·rw [if_pos c3] at H
  have c3b0:((l0.length:Int) == (l1.length:Int))=true:=beq_iff_eq.mpr c3
  have c3b1:((l0.length:Int) != (l1.length:Int))=false:=bne_eq_false_iff_eq.mpr c3
  have c3b2:(l0.length == l1.length)=true:=by first|simpa using c3|(simp at c3 ⊢;omega)
  clear c3
  have H':=Aside0.mk H
  clear H
  go_enter Try.func25,Try.ntmps25
  go_wp2
  repeat (go_quiet (fail);try go_wp2)
  go_loopg [13] k (fun kq v13 w'=>∃ (x13_1:Int),v13=.int .i64 x13_1∧Aside0 (slices_Equal_int_int.l0 kq l0 l1 (l0.length:Int) x13_1=some r)∧Aside0 (kq≤k)∧Drawn0 w w')
  case atStart=>exact ⟨(0),(by first|rfl|(simp;done)|(simp [*];done)),H',⟨Nat.le_refl _⟩,zdw⟩
  case round =>
   clear H'
   try clear c1
   try clear c2
   try clear p2
   try clear c3
   try clear c3b0
   try clear c3b1
   try clear c3b2
   obtain ⟨x13_1,rfl,HA,HK1,⟨m1,rfl⟩⟩:=hrel
   cases gk with
   | zero=>exact absurd HA.out (by simp [slices_Equal_int_int.l0])
   | succ k1 =>
    have H:=HA.out
    clear HA
    simp only [slices_Equal_int_int.l0] at H
    by_cases c4:x13_1 < (l0.length:Int)
    ·rw [if_pos c4] at H
     have c4b0:decide (x13_1 < (l0.length:Int))=true:=decide_eq_true c4
     clear c4
     by_cases c5:0≤x13_1
     ·rw [if_pos c5] at H
      have c5b0:decide (0≤x13_1)=true:=decide_eq_true c5
      clear c5
      by_cases c6:x13_1 < (l0.length:Int)
      ·rw [if_pos c6] at H
       have c6b0:decide (x13_1 < (l0.length:Int))=true:=decide_eq_true c6
       clear c6
       by_cases c7:x13_1 < (l1.length:Int)
       ·rw [if_pos c7] at H
        have c7b0:decide (x13_1 < (l1.length:Int))=true:=decide_eq_true c7
        clear c7
        by_cases c8:(rd l0 x13_1)=(rd l1 x13_1)
        ·rw [if_pos c8] at H
         have c8b0:((rd l0 x13_1) == (rd l1 x13_1))=true:=beq_iff_eq.mpr c8
         have c8b1:((rd l0 x13_1) != (rd l1 x13_1))=false:=bne_eq_false_iff_eq.mpr c8
         clear c8
         have H':=Aside0.mk H
         clear H
         have p209:0≤(x13_1:Int):=zod
         have q209:x13_1 < (l0.length:Int):=zod
         obtain ⟨ad209,e209,hx209_0⟩:=Kd.at_int HR0.out x13_1 p209 q209
         cases e209
         replace p209:=eq_true p209
         replace q209:=eq_true q209
         have p210:0≤(x13_1:Int):=zod
         have q210:x13_1 < (l1.length:Int):=zod
         obtain ⟨ad210,e210,hx210_0⟩:=Kd.at_int HR1.out x13_1 p210 q210
         cases e210
         replace p210:=eq_true p210
         replace q210:=eq_true q210
         go_wp2
         repeat (go_quiet (fail);try go_wp2)
         go_roundg k1
         case measure=>have:=HK1.out;omega
         case rel=>exact ⟨(wrap64 (x13_1 + 1)),(by first|rfl|(simp;done)|(simp [*];done)),H',⟨by have:=HK1.out;omega⟩,zdw⟩
        ·rw [if_neg c8] at H
         have c8b0:((rd l0 x13_1) == (rd l1 x13_1))=false:=beq_eq_false_iff_ne.mpr c8
         have c8b1:((rd l0 x13_1) != (rd l1 x13_1))=true:=bne_iff_ne.mpr c8
         obtain rfl:=Option.some.inj H
         have p209:0≤(x13_1:Int):=zod
         have q209:x13_1 < (l0.length:Int):=zod
         obtain ⟨ad209,e209,hx209_0⟩:=Kd.at_int HR0.out x13_1 p209 q209
         cases e209
         replace p209:=eq_true p209
         replace q209:=eq_true q209
         have p210:0≤(x13_1:Int):=zod
         have q210:x13_1 < (l1.length:Int):=zod
         obtain ⟨ad210,e210,hx210_0⟩:=Kd.at_int HR1.out x13_1 p210 q210
         cases e210
         replace p210:=eq_true p210
         replace q210:=eq_true q210
         go_wp2
         repeat (go_quiet (fail);try go_wp2)
         go_ret
         exact ⟨by first|rfl|(simp;done)|(simp [*];done),zdw⟩
       ·rw [if_neg c7] at H
        exact absurd H (by simp)
      ·rw [if_neg c6] at H
       exact absurd H (by simp)
     ·rw [if_neg c5] at H
      exact absurd H (by simp)
    ·rw [if_neg c4] at H
     have c4b0:decide (x13_1 < (l0.length:Int))=false:=decide_eq_false c4
     clear c4
     obtain rfl:=Option.some.inj H
     go_wp2
     repeat (go_quiet (fail);try go_wp2)
     go_ret
     exact ⟨by first|rfl|(simp;done)|(simp [*];done),zdw⟩
 ·rw [if_neg c3] at H
  have c3b0:((l0.length:Int) == (l1.length:Int))=false:=beq_eq_false_iff_ne.mpr c3
  have c3b1:((l0.length:Int) != (l1.length:Int))=true:=bne_iff_ne.mpr c3
  have c3b2:(l0.length == l1.length)=false:=by first|simpa using c3|(simp at c3 ⊢;omega)
  obtain rfl:=Option.some.inj H
  go_enter Try.func25,Try.ntmps25
  go_wp2
  repeat (go_quiet (fail);try go_wp2)
  go_ret
  exact ⟨by first|rfl|(simp;done)|(simp [*];done),zdw⟩

/-! ### impl_wideIf: function 36 -/
def impl_wideIf.f (a0:Bool) (a1:Int):Option (Int):=if a0=true then (some a1) else (some (-1))
set_option maxHeartbeats 8000000 in
set_option maxRecDepth 100000 in
theorem impl_wideIf.calls (a0:Bool) (a1:Int) (r:Int) (w:World) (h:impl_wideIf.f a0 a1=some r) :
  Calls Try.prog 36 #[.bool a0,.int .i64 a1] w fun e w'=>e=.returned (.int .i64 r)∧Drawn0 w w':=by
 have H:(if a0=true then (some a1) else (some (-1)))=some r:=h
 clear h
 by_cases c3:a0=true
 ·subst c3
  have H1:(some a1)=some r:=by rw [if_pos rfl] at H;exact H
  clear H
  have H:=H1
  clear H1
  obtain rfl:=Option.some.inj H
  go_enter Try.func36,Try.ntmps36
  go_wp2
  go_ret
  exact ⟨by first|rfl|(simp;done)|(simp [*];done),zdw⟩
 ·replace c3:=Bool.eq_false_iff.mpr c3
  subst c3
  have H1:(some (-1))=some r:=by rw [if_neg (show ¬ (false=true) by decide)] at H;exact H
  clear H
  have H:=H1
  clear H1
  obtain rfl:=Option.some.inj H
  go_enter Try.func36,Try.ntmps36
  go_wp2
  go_ret
  exact ⟨by first|rfl|(simp;done)|(simp [*];done),zdw⟩

/-! ### impl_PlanWide_1: function 35 -/
def impl_PlanWide_1.f (a0:Int):Option (Int):=if a0 ≥ 1 then ((impl_wideIf.f (decide (a0≤6)) a0).bind fun t211=>(some t211)) else ((impl_wideIf.f false a0).bind fun t212=>(some t212))
set_option maxHeartbeats 8000000 in
set_option maxRecDepth 100000 in
theorem impl_PlanWide_1.calls (a0:Int) (r:Int) (w:World) (h:impl_PlanWide_1.f a0=some r) :
  Calls Try.prog 35 #[.int .i64 a0] w fun e w'=>e=.returned (.int .i64 r)∧Drawn0 w w':=by
 have H:(if a0 ≥ 1 then ((impl_wideIf.f (decide (a0≤6)) a0).bind fun t211=>(some t211)) else ((impl_wideIf.f false a0).bind fun t212=>(some t212)))=some r:=h
 clear h
 by_cases c2:a0 ≥ 1
 ·rw [if_pos c2] at H
  have c2b0:decide (1≤a0)=true:=decide_eq_true c2
  clear c2
  replace H:=Option.bind_eq_some_iff.mp H
  obtain ⟨t211,A30,H⟩:=H
  (try dsimp only at H)
  have A3:=Aside0.mk A30
  clear A30
  obtain rfl:=Option.some.inj H
  go_enter Try.func35,Try.ntmps35
  go_wp2_with (first|((with_reducible refine gate_callee (f:=36) rfl ?_);refine goesL_ (some 10) rfl rfl Try.func36 (by kernel_rfl) rfl #[.bool (decide (a0≤6)),.int .i64 a0] rfl zar ?_;(with_reducible refine (impl_wideIf.calls (decide (a0≤6)) a0 t211 _ A3.out).mono ?_);rintro e w' ⟨rfl,⟨nd,rfl⟩⟩;refine ⟨_,rfl,?_⟩))
  go_ret
  exact ⟨by first|rfl|(simp;done)|(simp [*];done),zdw⟩
 ·rw [if_neg c2] at H
  have c2b0:decide (1≤a0)=false:=decide_eq_false c2
  clear c2
  replace H:=Option.bind_eq_some_iff.mp H
  obtain ⟨t212,A40,H⟩:=H
  (try dsimp only at H)
  have A4:=Aside0.mk A40
  clear A40
  obtain rfl:=Option.some.inj H
  go_enter Try.func35,Try.ntmps35
  go_wp2_with (first|((with_reducible refine gate_callee (f:=36) rfl ?_);refine goesL_ (some 10) rfl rfl Try.func36 (by kernel_rfl) rfl #[.bool false,.int .i64 a0] rfl zar ?_;(with_reducible refine (impl_wideIf.calls false a0 t212 _ A4.out).mono ?_);rintro e w' ⟨rfl,⟨nd,rfl⟩⟩;refine ⟨_,rfl,?_⟩))
  go_ret
  exact ⟨by first|rfl|(simp;done)|(simp [*];done),zdw⟩


/-! ### impl_colReckoning_cell: function 127 -/
def impl_colReckoning_cell.f (a0_0:Int):Option (Int × Int × Int × Int):=some (1,a0_0,0,0)
set_option maxHeartbeats 8000000 in
set_option maxRecDepth 100000 in
theorem impl_colReckoning_cell.calls (a0_0:Int) (r1:Int) (r2:Int) (r3:Int) (r4:Int) (w:World) (h:impl_colReckoning_cell.f a0_0=some (r1,r2,r3,r4)) :
  Calls Try.prog 127 #[.agg #[.int .i64 a0_0]] w fun e w'=>e=.returned (.agg #[.int .i64 r1,.int .i64 r2,.int .i64 r3,.int .i64 r4])∧Below w.heap.size w w':=by
 have hu130:=Try.underlying130
 have hu33:=Try.underlying33
 have HB:=Aside0.mk (Below.refl w.heap.size w)
 have H:(some (1,a0_0,0,0))=some (r1,r2,r3,r4):=h
 clear h
 simp only [Option.some.injEq,Prod.mk.injEq] at H
 obtain ⟨rfl,rfl,rfl,rfl⟩:=H
 go_enter Try.func127,Try.ntmps127
 go_wp2_with (first|((with_reducible refine gate_dst (N:=1) rfl ?_);refine box_event ?hg (N:=1) ?hd (cs:=#[.int .i64 a0_0]) (t:=130) ?hr ?_;(case hd=>rfl);(case hg=>rfl);(case hr=>first|(go_simp;done)|(go_simp;rfl));intro gb213 hg w2 hbox hb;have n0_:=Aside0.mk (below_step zhb hb);have n1_:=Aside0.mk (hbox);have n2_:=Aside0.mk ((by rw [hg];exact (below_size zhb):w.heap.size≤gb213));have n3_:=Aside0.mk ((by rw [hg];exact (below_size zhb):w.heap.size≤gb213));clear HB;have HB:=n0_;have BK213:=n1_;have GW213:=n2_;have GE213:=n3_;clear n0_ n1_ n2_ n3_;clear hb hbox hg)|((with_reducible refine gate_dst (N:=2) rfl ?_);refine box_event ?hg (N:=2) ?hd (cs:=#[.int .i64 0,.int .i64 0,.int .i64 0,.int .i64 0]) (t:=33) ?hr ?_;(case hd=>rfl);(case hg=>rfl);(case hr=>first|(go_simp;done)|(go_simp;rfl));intro gb214 hg w3 hbox hb;have n0_:=Aside0.mk (blk_below (g:=gb213) (o:=.cells #[.int .i64 a0_0] 130 (0,0)) (by (with_reducible repeat (first|refine blk_drewN ?_ _|refine blk_drew ?_|refine blk_alloc ?_ _));exact BK213.out) hb);have n1_:=Aside0.mk (below_step (by repeat (first|(with_reducible first|exact HB.out|apply below_alloc|apply pw_below_drewN|apply below_drew1|refine below_set ?_ GE213.out)|exact HB.out)) hb);have n2_:=Aside0.mk (hbox);have n3_:=Aside0.mk ((by rw [hg];exact (below_size (by repeat (first|(with_reducible first|exact HB.out|apply below_alloc|apply pw_below_drewN|apply below_drew1|refine below_set ?_ GE213.out)|exact HB.out))):w.heap.size≤gb214));have n4_:=Aside0.mk ((by rw [hg];exact (below_size (by repeat (first|(with_reducible first|exact HB.out|apply below_alloc|apply pw_below_drewN|apply below_drew1|refine below_set ?_ GE213.out)|exact HB.out))):w.heap.size≤gb214));have n5_:=Aside0.mk ((by rw [hg];exact Nat.ne_of_lt (blk_lt (g:=gb213) (o:=.cells #[.int .i64 a0_0] 130 (0,0)) (by (with_reducible repeat (first|refine blk_drewN ?_ _|refine blk_drew ?_|refine blk_alloc ?_ _));exact BK213.out)):gb213≠gb214));have n6_:=Aside0.mk ((by rw [hg];exact Nat.ne_of_gt (blk_lt (g:=gb213) (o:=.cells #[.int .i64 a0_0] 130 (0,0)) (by (with_reducible repeat (first|refine blk_drewN ?_ _|refine blk_drew ?_|refine blk_alloc ?_ _));exact BK213.out)):gb214≠gb213));clear BK213;clear HB;have BK213:=n0_;have HB:=n1_;have BK214:=n2_;have GW214:=n3_;have GE214:=n4_;have NB213_214:=n5_;have NB214_213:=n6_;clear n0_ n1_ n2_ n3_ n4_ n5_ n6_;clear hb hbox hg;have hnb4:=NB213_214.out;have hnc4:=NB214_213.out;have hcz5_0:w3.cell? ⟨gb213,0,none⟩=some (.int .i64 a0_0):=(blk_cell BK213.out 0).trans rfl;have hfz5_0:=blk_frozen BK213.out 0;have hcz6_0:w3.cell? ⟨gb214,0,none⟩=some (.int .i64 0):=(blk_cell BK214.out 0).trans rfl;have hcz6_1:w3.cell? ⟨gb214,1,none⟩=some (.int .i64 0):=(blk_cell BK214.out 1).trans rfl;have hcz6_2:w3.cell? ⟨gb214,2,none⟩=some (.int .i64 0):=(blk_cell BK214.out 2).trans rfl;have hcz6_3:w3.cell? ⟨gb214,3,none⟩=some (.int .i64 0):=(blk_cell BK214.out 3).trans rfl;have hfz6_0:=blk_frozen BK214.out 0;have hfz6_1:=blk_frozen BK214.out 1;have hfz6_2:=blk_frozen BK214.out 2;have hfz6_3:=blk_frozen BK214.out 3))
 refine bodyPost_ret (results_cell_row rfl _ _ gb214 33 #[.int .i64 1,.int .i64 a0_0,.int .i64 0,.int .i64 0] (0,0) _ rfl (by (with_reducible repeat (first|refine blk_drewN ?_ _|refine blk_drew ?_|refine blk_alloc ?_ _));refine blk_put (cs:=#[.int .i64 1,.int .i64 a0_0,.int .i64 0,.int .i64 0]) ?_ 3 _ rfl;(with_reducible repeat (first|refine blk_drewN ?_ _|refine blk_drew ?_|refine blk_alloc ?_ _));refine blk_put (cs:=#[.int .i64 1,.int .i64 a0_0,.int .i64 0,.int .i64 0]) ?_ 2 _ rfl;(with_reducible repeat (first|refine blk_drewN ?_ _|refine blk_drew ?_|refine blk_alloc ?_ _));refine blk_put (cs:=#[.int .i64 1,.int .i64 0,.int .i64 0,.int .i64 0]) ?_ 1 _ rfl;(with_reducible repeat (first|refine blk_drewN ?_ _|refine blk_drew ?_|refine blk_alloc ?_ _));refine blk_put (cs:=#[.int .i64 0,.int .i64 0,.int .i64 0,.int .i64 0]) ?_ 0 _ rfl;(with_reducible repeat (first|refine blk_drewN ?_ _|refine blk_drew ?_|refine blk_alloc ?_ _));exact BK214.out) Try.underlying33 rfl (by kernel_rfl)) rfl ?_
 exact ⟨by first|rfl|(simp [errW_none,errW_some] <;> rfl)|(simp [*,errW_none,errW_some] <;> rfl),by repeat (first|(with_reducible first|exact HB.out|apply below_alloc|apply pw_below_drewN|apply below_drew1|refine below_set ?_ GE213.out|refine below_set ?_ GE214.out)|exact HB.out)⟩

/-! ### impl_isPlace: function 107 -/
def impl_isPlace.f (a0:Int) (a1:Int):Option (Bool):=if a0 ≥ 0 then (some (decide (a0 < (mn a1 6)))) else (some false)
set_option maxHeartbeats 8000000 in
set_option maxRecDepth 100000 in
theorem impl_isPlace.calls (a0:Int) (a1:Int) (r:Bool) (w:World) (h:impl_isPlace.f a0 a1=some r) :
  Calls Try.prog 107 #[.int .i64 a0,.int .i64 a1] w fun e w'=>e=.returned (.bool r)∧Below w.heap.size w w':=by
 have HB:=Aside0.mk (Below.refl w.heap.size w)
 have H:(if a0 ≥ 0 then (some (decide (a0 < (mn a1 6)))) else (some false))=some r:=h
 clear h
 by_cases c3:a0 ≥ 0
 ·rw [if_pos c3] at H
  have c3b0:decide (0≤a0)=true:=decide_eq_true c3
  clear c3
  obtain ⟨ji4,hji4⟩ : ∃ j_:Int,(mn a1 6)=j_:=⟨_,rfl⟩
  replace H:(some (decide (a0 < (ji4))))=some r:=by first|(rw [hji4] at H;exact H)|(simp only [hji4] at H ⊢;exact H)
  (try (have hji4h:ji4≤6:=by (rw [← hji4];unfold mn;(repeat' split) <;> omega)))
  (try (have hji4g:ji4≤64:=by omega))
  have hji4_:(if 6 < a1 then 6 else a1)=ji4:=hji4
  obtain rfl:=Option.some.inj H
  go_enter Try.func107,Try.ntmps107
  go_wp2
  go_ret
  exact ⟨by first|rfl|(simp [errW_none,errW_some] <;> rfl)|(simp only [← hji4];first|rfl|(simp [errW_none,errW_some] <;> rfl))|(simp [*,errW_none,errW_some] <;> rfl),zhb⟩
 ·rw [if_neg c3] at H
  have c3b0:decide (0≤a0)=false:=decide_eq_false c3
  clear c3
  obtain rfl:=Option.some.inj H
  go_enter Try.func107,Try.ntmps107
  go_wp2
  go_ret
  exact ⟨by first|rfl|(simp [errW_none,errW_some] <;> rfl)|(simp [*,errW_none,errW_some] <;> rfl),zhb⟩

/-! ### impl_colReckoning_ok: function 129 -/
def impl_colReckoning_ok.f (a0_0:Int) (a1:Int):Option (Bool):=(impl_isPlace.f a0_0 a1).bind fun t216=>(some t216)
set_option maxHeartbeats 8000000 in
set_option maxRecDepth 100000 in
theorem impl_colReckoning_ok.calls (a0_0:Int) (a1:Int) (r:Bool) (w:World) (h:impl_colReckoning_ok.f a0_0 a1=some r) :
  Calls Try.prog 129 #[.agg #[.int .i64 a0_0],.int .i64 a1] w fun e w'=>e=.returned (.bool r)∧Below w.heap.size w w':=by
 have hu130:=Try.underlying130
 have HB:=Aside0.mk (Below.refl w.heap.size w)
 have H:((impl_isPlace.f a0_0 a1).bind fun t216=>(some t216))=some r:=h
 clear h
 replace H:=Option.bind_eq_some_iff.mp H
 obtain ⟨t216,A30,H⟩:=H
 (try dsimp only at H)
 have A3:=Aside0.mk A30
 clear A30
 obtain rfl:=Option.some.inj H
 go_enter Try.func129,Try.ntmps129
 go_wp2_with (first|((with_reducible refine gate_dst (N:=2) rfl ?_);refine box_event ?hg (N:=2) ?hd (cs:=#[.int .i64 a0_0]) (t:=130) ?hr ?_;(case hd=>rfl);(case hg=>rfl);(case hr=>first|(go_simp;done)|(go_simp;rfl));intro gb215 hg w4 hbox hb;have n0_:=Aside0.mk (below_step zhb hb);have n1_:=Aside0.mk (hbox);have n2_:=Aside0.mk ((by rw [hg];exact (below_size zhb):w.heap.size≤gb215));have n3_:=Aside0.mk ((by rw [hg];exact (below_size zhb):w.heap.size≤gb215));clear HB;have HB:=n0_;have BK215:=n1_;have GW215:=n2_;have GE215:=n3_;clear n0_ n1_ n2_ n3_;clear hb hbox hg;have hcz5_0:w4.cell? ⟨gb215,0,none⟩=some (.int .i64 a0_0):=(blk_cell BK215.out 0).trans rfl;have hfz5_0:=blk_frozen BK215.out 0)|((with_reducible refine gate_callee (f:=107) rfl ?_);refine goesL_ (some 8) rfl rfl Try.func107 (by kernel_rfl) rfl #[.int .i64 a0_0,.int .i64 a1] rfl zar ?_;(with_reducible refine (impl_isPlace.calls a0_0 a1 t216 _ A3.out).mono ?_);rintro e w6 ⟨rfl,hb⟩;refine ⟨_,rfl,?_⟩;have n0_:=Aside0.mk (blk_below (g:=gb215) (o:=.cells #[.int .i64 a0_0] 130 (0,0)) (by (with_reducible repeat (first|refine blk_drewN ?_ _|refine blk_drew ?_|refine blk_alloc ?_ _));exact BK215.out) hb);have n1_:=Aside0.mk (below_step (by repeat (first|(with_reducible first|exact HB.out|apply below_alloc|apply pw_below_drewN|apply below_drew1|refine below_set ?_ GE215.out)|exact HB.out)) hb);clear BK215;clear HB;have BK215:=n0_;have HB:=n1_;clear n0_ n1_;(try clear hb);(try clear hb2);(try clear hk);(try clear hi)))
 go_ret
 exact ⟨by first|rfl|(simp [errW_none,errW_some] <;> rfl)|(simp [*,errW_none,errW_some] <;> rfl),by repeat (first|(with_reducible first|exact HB.out|apply below_alloc|apply pw_below_drewN|apply below_drew1|refine below_set ?_ GE215.out)|exact HB.out)⟩

/-! ### impl_numReckoning_cell: function 131 -/
def impl_numReckoning_cell.f (a0_0:Int):Option (Int × Int × Int × Int):=some (2,0,0,a0_0)
set_option maxHeartbeats 8000000 in
set_option maxRecDepth 100000 in
theorem impl_numReckoning_cell.calls (a0_0:Int) (r1:Int) (r2:Int) (r3:Int) (r4:Int) (w:World) (h:impl_numReckoning_cell.f a0_0=some (r1,r2,r3,r4)) :
  Calls Try.prog 131 #[.agg #[.int .i64 a0_0]] w fun e w'=>e=.returned (.agg #[.int .i64 r1,.int .i64 r2,.int .i64 r3,.int .i64 r4])∧Below w.heap.size w w':=by
 have hu132:=Try.underlying132
 have hu33:=Try.underlying33
 have HB:=Aside0.mk (Below.refl w.heap.size w)
 have H:(some (2,0,0,a0_0))=some (r1,r2,r3,r4):=h
 clear h
 simp only [Option.some.injEq,Prod.mk.injEq] at H
 obtain ⟨rfl,rfl,rfl,rfl⟩:=H
 go_enter Try.func131,Try.ntmps131
 go_wp2_with (first|((with_reducible refine gate_dst (N:=1) rfl ?_);refine box_event ?hg (N:=1) ?hd (cs:=#[.int .i64 a0_0]) (t:=132) ?hr ?_;(case hd=>rfl);(case hg=>rfl);(case hr=>first|(go_simp;done)|(go_simp;rfl));intro gb217 hg w2 hbox hb;have n0_:=Aside0.mk (below_step zhb hb);have n1_:=Aside0.mk (hbox);have n2_:=Aside0.mk ((by rw [hg];exact (below_size zhb):w.heap.size≤gb217));have n3_:=Aside0.mk ((by rw [hg];exact (below_size zhb):w.heap.size≤gb217));clear HB;have HB:=n0_;have BK217:=n1_;have GW217:=n2_;have GE217:=n3_;clear n0_ n1_ n2_ n3_;clear hb hbox hg)|((with_reducible refine gate_dst (N:=2) rfl ?_);refine box_event ?hg (N:=2) ?hd (cs:=#[.int .i64 0,.int .i64 0,.int .i64 0,.int .i64 0]) (t:=33) ?hr ?_;(case hd=>rfl);(case hg=>rfl);(case hr=>first|(go_simp;done)|(go_simp;rfl));intro gb218 hg w3 hbox hb;have n0_:=Aside0.mk (blk_below (g:=gb217) (o:=.cells #[.int .i64 a0_0] 132 (0,0)) (by (with_reducible repeat (first|refine blk_drewN ?_ _|refine blk_drew ?_|refine blk_alloc ?_ _));exact BK217.out) hb);have n1_:=Aside0.mk (below_step (by repeat (first|(with_reducible first|exact HB.out|apply below_alloc|apply pw_below_drewN|apply below_drew1|refine below_set ?_ GE217.out)|exact HB.out)) hb);have n2_:=Aside0.mk (hbox);have n3_:=Aside0.mk ((by rw [hg];exact (below_size (by repeat (first|(with_reducible first|exact HB.out|apply below_alloc|apply pw_below_drewN|apply below_drew1|refine below_set ?_ GE217.out)|exact HB.out))):w.heap.size≤gb218));have n4_:=Aside0.mk ((by rw [hg];exact (below_size (by repeat (first|(with_reducible first|exact HB.out|apply below_alloc|apply pw_below_drewN|apply below_drew1|refine below_set ?_ GE217.out)|exact HB.out))):w.heap.size≤gb218));have n5_:=Aside0.mk ((by rw [hg];exact Nat.ne_of_lt (blk_lt (g:=gb217) (o:=.cells #[.int .i64 a0_0] 132 (0,0)) (by (with_reducible repeat (first|refine blk_drewN ?_ _|refine blk_drew ?_|refine blk_alloc ?_ _));exact BK217.out)):gb217≠gb218));have n6_:=Aside0.mk ((by rw [hg];exact Nat.ne_of_gt (blk_lt (g:=gb217) (o:=.cells #[.int .i64 a0_0] 132 (0,0)) (by (with_reducible repeat (first|refine blk_drewN ?_ _|refine blk_drew ?_|refine blk_alloc ?_ _));exact BK217.out)):gb218≠gb217));clear BK217;clear HB;have BK217:=n0_;have HB:=n1_;have BK218:=n2_;have GW218:=n3_;have GE218:=n4_;have NB217_218:=n5_;have NB218_217:=n6_;clear n0_ n1_ n2_ n3_ n4_ n5_ n6_;clear hb hbox hg;have hnb4:=NB217_218.out;have hnc4:=NB218_217.out;have hcz5_0:w3.cell? ⟨gb217,0,none⟩=some (.int .i64 a0_0):=(blk_cell BK217.out 0).trans rfl;have hfz5_0:=blk_frozen BK217.out 0;have hcz6_0:w3.cell? ⟨gb218,0,none⟩=some (.int .i64 0):=(blk_cell BK218.out 0).trans rfl;have hcz6_1:w3.cell? ⟨gb218,1,none⟩=some (.int .i64 0):=(blk_cell BK218.out 1).trans rfl;have hcz6_2:w3.cell? ⟨gb218,2,none⟩=some (.int .i64 0):=(blk_cell BK218.out 2).trans rfl;have hcz6_3:w3.cell? ⟨gb218,3,none⟩=some (.int .i64 0):=(blk_cell BK218.out 3).trans rfl;have hfz6_0:=blk_frozen BK218.out 0;have hfz6_1:=blk_frozen BK218.out 1;have hfz6_2:=blk_frozen BK218.out 2;have hfz6_3:=blk_frozen BK218.out 3))
 refine bodyPost_ret (results_cell_row rfl _ _ gb218 33 #[.int .i64 2,.int .i64 0,.int .i64 0,.int .i64 a0_0] (0,0) _ rfl (by (with_reducible repeat (first|refine blk_drewN ?_ _|refine blk_drew ?_|refine blk_alloc ?_ _));refine blk_put (cs:=#[.int .i64 2,.int .i64 0,.int .i64 0,.int .i64 0]) ?_ 3 _ rfl;(with_reducible repeat (first|refine blk_drewN ?_ _|refine blk_drew ?_|refine blk_alloc ?_ _));refine blk_put (cs:=#[.int .i64 2,.int .i64 0,.int .i64 0,.int .i64 0]) ?_ 2 _ rfl;(with_reducible repeat (first|refine blk_drewN ?_ _|refine blk_drew ?_|refine blk_alloc ?_ _));refine blk_put (cs:=#[.int .i64 2,.int .i64 0,.int .i64 0,.int .i64 0]) ?_ 1 _ rfl;(with_reducible repeat (first|refine blk_drewN ?_ _|refine blk_drew ?_|refine blk_alloc ?_ _));refine blk_put (cs:=#[.int .i64 0,.int .i64 0,.int .i64 0,.int .i64 0]) ?_ 0 _ rfl;(with_reducible repeat (first|refine blk_drewN ?_ _|refine blk_drew ?_|refine blk_alloc ?_ _));exact BK218.out) Try.underlying33 rfl (by kernel_rfl)) rfl ?_
 exact ⟨by first|rfl|(simp [errW_none,errW_some] <;> rfl)|(simp [*,errW_none,errW_some] <;> rfl),by repeat (first|(with_reducible first|exact HB.out|apply below_alloc|apply pw_below_drewN|apply below_drew1|refine below_set ?_ GE217.out|refine below_set ?_ GE218.out)|exact HB.out)⟩

/-! ### impl_isCell: function 135 -/
def impl_isCell.f (a0:Int):Option (Bool):=if a0 ≥ (-1000000000) then (some (decide (a0≤1000000000))) else (some false)
set_option maxHeartbeats 8000000 in
set_option maxRecDepth 100000 in
theorem impl_isCell.calls (a0:Int) (r:Bool) (w:World) (h:impl_isCell.f a0=some r) :
  Calls Try.prog 135 #[.int .i64 a0] w fun e w'=>e=.returned (.bool r)∧Drawn0 w w':=by
 have H:(if a0 ≥ (-1000000000) then (some (decide (a0≤1000000000))) else (some false))=some r:=h
 clear h
 by_cases c2:a0 ≥ (-1000000000)
 ·rw [if_pos c2] at H
  have c2b0:decide ((-1000000000)≤a0)=true:=decide_eq_true c2
  clear c2
  obtain rfl:=Option.some.inj H
  go_enter Try.func135,Try.ntmps135
  go_wp2
  go_ret
  exact ⟨by first|rfl|(simp;done)|(simp [*];done),zdw⟩
 ·rw [if_neg c2] at H
  have c2b0:decide ((-1000000000)≤a0)=false:=decide_eq_false c2
  clear c2
  obtain rfl:=Option.some.inj H
  go_enter Try.func135,Try.ntmps135
  go_wp2
  go_ret
  exact ⟨by first|rfl|(simp;done)|(simp [*];done),zdw⟩

/-! ### impl_numReckoning_ok: function 133 -/
def impl_numReckoning_ok.f (a0_0:Int) (a1:Int):Option (Bool):=(impl_isCell.f a0_0).bind fun t220=>(some t220)
set_option maxHeartbeats 8000000 in
set_option maxRecDepth 100000 in
theorem impl_numReckoning_ok.calls (a0_0:Int) (a1:Int) (r:Bool) (w:World) (h:impl_numReckoning_ok.f a0_0 a1=some r) :
  Calls Try.prog 133 #[.agg #[.int .i64 a0_0],.int .i64 a1] w fun e w'=>e=.returned (.bool r)∧Below w.heap.size w w':=by
 have hu132:=Try.underlying132
 have HB:=Aside0.mk (Below.refl w.heap.size w)
 have H:((impl_isCell.f a0_0).bind fun t220=>(some t220))=some r:=h
 clear h
 replace H:=Option.bind_eq_some_iff.mp H
 obtain ⟨t220,A30,H⟩:=H
 (try dsimp only at H)
 have A3:=Aside0.mk A30
 clear A30
 obtain rfl:=Option.some.inj H
 go_enter Try.func133,Try.ntmps133
 go_wp2_with (first|((with_reducible refine gate_dst (N:=2) rfl ?_);refine box_event ?hg (N:=2) ?hd (cs:=#[.int .i64 a0_0]) (t:=132) ?hr ?_;(case hd=>rfl);(case hg=>rfl);(case hr=>first|(go_simp;done)|(go_simp;rfl));intro gb219 hg w4 hbox hb;have n0_:=Aside0.mk (below_step zhb hb);have n1_:=Aside0.mk (hbox);have n2_:=Aside0.mk ((by rw [hg];exact (below_size zhb):w.heap.size≤gb219));have n3_:=Aside0.mk ((by rw [hg];exact (below_size zhb):w.heap.size≤gb219));clear HB;have HB:=n0_;have BK219:=n1_;have GW219:=n2_;have GE219:=n3_;clear n0_ n1_ n2_ n3_;clear hb hbox hg;have hcz5_0:w4.cell? ⟨gb219,0,none⟩=some (.int .i64 a0_0):=(blk_cell BK219.out 0).trans rfl;have hfz5_0:=blk_frozen BK219.out 0)|((with_reducible refine gate_callee (f:=135) rfl ?_);refine goesL_ (some 7) rfl rfl Try.func135 (by kernel_rfl) rfl #[.int .i64 a0_0] rfl zar ?_;(with_reducible refine (impl_isCell.calls a0_0 t220 _ A3.out).mono ?_);rintro e w' ⟨rfl,⟨nd,rfl⟩⟩;refine ⟨_,rfl,?_⟩))
 go_ret
 exact ⟨by first|rfl|(simp [errW_none,errW_some] <;> rfl)|(simp [*,errW_none,errW_some] <;> rfl),by repeat (first|(with_reducible first|exact HB.out|apply below_alloc|apply pw_below_drewN|apply below_drew1|refine below_set ?_ GE219.out)|exact HB.out)⟩

/-! ### impl_sumReckoning_cell: function 136 -/
def impl_sumReckoning_cell.f (a0_0:Int) (a0_1:Int):Option (Int × Int × Int × Int):=some (3,a0_0,a0_1,0)
set_option maxHeartbeats 8000000 in
set_option maxRecDepth 100000 in
theorem impl_sumReckoning_cell.calls (a0_0:Int) (a0_1:Int) (r1:Int) (r2:Int) (r3:Int) (r4:Int) (w:World) (h:impl_sumReckoning_cell.f a0_0 a0_1=some (r1,r2,r3,r4)) :
  Calls Try.prog 136 #[.agg #[.int .i64 a0_0,.int .i64 a0_1]] w fun e w'=>e=.returned (.agg #[.int .i64 r1,.int .i64 r2,.int .i64 r3,.int .i64 r4])∧Below w.heap.size w w':=by
 have hu134:=Try.underlying134
 have hu33:=Try.underlying33
 have HB:=Aside0.mk (Below.refl w.heap.size w)
 have H:(some (3,a0_0,a0_1,0))=some (r1,r2,r3,r4):=h
 clear h
 simp only [Option.some.injEq,Prod.mk.injEq] at H
 obtain ⟨rfl,rfl,rfl,rfl⟩:=H
 go_enter Try.func136,Try.ntmps136
 go_wp2_with (first|((with_reducible refine gate_dst (N:=1) rfl ?_);refine box_event ?hg (N:=1) ?hd (cs:=#[.int .i64 a0_0,.int .i64 a0_1]) (t:=134) ?hr ?_;(case hd=>rfl);(case hg=>rfl);(case hr=>first|(go_simp;done)|(go_simp;rfl));intro gb221 hg w2 hbox hb;have n0_:=Aside0.mk (below_step zhb hb);have n1_:=Aside0.mk (hbox);have n2_:=Aside0.mk ((by rw [hg];exact (below_size zhb):w.heap.size≤gb221));have n3_:=Aside0.mk ((by rw [hg];exact (below_size zhb):w.heap.size≤gb221));clear HB;have HB:=n0_;have BK221:=n1_;have GW221:=n2_;have GE221:=n3_;clear n0_ n1_ n2_ n3_;clear hb hbox hg)|((with_reducible refine gate_dst (N:=2) rfl ?_);refine box_event ?hg (N:=2) ?hd (cs:=#[.int .i64 0,.int .i64 0,.int .i64 0,.int .i64 0]) (t:=33) ?hr ?_;(case hd=>rfl);(case hg=>rfl);(case hr=>first|(go_simp;done)|(go_simp;rfl));intro gb222 hg w3 hbox hb;have n0_:=Aside0.mk (blk_below (g:=gb221) (o:=.cells #[.int .i64 a0_0,.int .i64 a0_1] 134 (0,0)) (by (with_reducible repeat (first|refine blk_drewN ?_ _|refine blk_drew ?_|refine blk_alloc ?_ _));exact BK221.out) hb);have n1_:=Aside0.mk (below_step (by repeat (first|(with_reducible first|exact HB.out|apply below_alloc|apply pw_below_drewN|apply below_drew1|refine below_set ?_ GE221.out)|exact HB.out)) hb);have n2_:=Aside0.mk (hbox);have n3_:=Aside0.mk ((by rw [hg];exact (below_size (by repeat (first|(with_reducible first|exact HB.out|apply below_alloc|apply pw_below_drewN|apply below_drew1|refine below_set ?_ GE221.out)|exact HB.out))):w.heap.size≤gb222));have n4_:=Aside0.mk ((by rw [hg];exact (below_size (by repeat (first|(with_reducible first|exact HB.out|apply below_alloc|apply pw_below_drewN|apply below_drew1|refine below_set ?_ GE221.out)|exact HB.out))):w.heap.size≤gb222));have n5_:=Aside0.mk ((by rw [hg];exact Nat.ne_of_lt (blk_lt (g:=gb221) (o:=.cells #[.int .i64 a0_0,.int .i64 a0_1] 134 (0,0)) (by (with_reducible repeat (first|refine blk_drewN ?_ _|refine blk_drew ?_|refine blk_alloc ?_ _));exact BK221.out)):gb221≠gb222));have n6_:=Aside0.mk ((by rw [hg];exact Nat.ne_of_gt (blk_lt (g:=gb221) (o:=.cells #[.int .i64 a0_0,.int .i64 a0_1] 134 (0,0)) (by (with_reducible repeat (first|refine blk_drewN ?_ _|refine blk_drew ?_|refine blk_alloc ?_ _));exact BK221.out)):gb222≠gb221));clear BK221;clear HB;have BK221:=n0_;have HB:=n1_;have BK222:=n2_;have GW222:=n3_;have GE222:=n4_;have NB221_222:=n5_;have NB222_221:=n6_;clear n0_ n1_ n2_ n3_ n4_ n5_ n6_;clear hb hbox hg;have hnb4:=NB221_222.out;have hnc4:=NB222_221.out;have hcz5_0:w3.cell? ⟨gb221,0,none⟩=some (.int .i64 a0_0):=(blk_cell BK221.out 0).trans rfl;have hcz5_1:w3.cell? ⟨gb221,1,none⟩=some (.int .i64 a0_1):=(blk_cell BK221.out 1).trans rfl;have hfz5_0:=blk_frozen BK221.out 0;have hfz5_1:=blk_frozen BK221.out 1;have hcz6_0:w3.cell? ⟨gb222,0,none⟩=some (.int .i64 0):=(blk_cell BK222.out 0).trans rfl;have hcz6_1:w3.cell? ⟨gb222,1,none⟩=some (.int .i64 0):=(blk_cell BK222.out 1).trans rfl;have hcz6_2:w3.cell? ⟨gb222,2,none⟩=some (.int .i64 0):=(blk_cell BK222.out 2).trans rfl;have hcz6_3:w3.cell? ⟨gb222,3,none⟩=some (.int .i64 0):=(blk_cell BK222.out 3).trans rfl;have hfz6_0:=blk_frozen BK222.out 0;have hfz6_1:=blk_frozen BK222.out 1;have hfz6_2:=blk_frozen BK222.out 2;have hfz6_3:=blk_frozen BK222.out 3))
 refine bodyPost_ret (results_cell_row rfl _ _ gb222 33 #[.int .i64 3,.int .i64 a0_0,.int .i64 a0_1,.int .i64 0] (0,0) _ rfl (by (with_reducible repeat (first|refine blk_drewN ?_ _|refine blk_drew ?_|refine blk_alloc ?_ _));refine blk_put (cs:=#[.int .i64 3,.int .i64 a0_0,.int .i64 a0_1,.int .i64 0]) ?_ 3 _ rfl;(with_reducible repeat (first|refine blk_drewN ?_ _|refine blk_drew ?_|refine blk_alloc ?_ _));refine blk_put (cs:=#[.int .i64 3,.int .i64 a0_0,.int .i64 0,.int .i64 0]) ?_ 2 _ rfl;(with_reducible repeat (first|refine blk_drewN ?_ _|refine blk_drew ?_|refine blk_alloc ?_ _));refine blk_put (cs:=#[.int .i64 3,.int .i64 0,.int .i64 0,.int .i64 0]) ?_ 1 _ rfl;(with_reducible repeat (first|refine blk_drewN ?_ _|refine blk_drew ?_|refine blk_alloc ?_ _));refine blk_put (cs:=#[.int .i64 0,.int .i64 0,.int .i64 0,.int .i64 0]) ?_ 0 _ rfl;(with_reducible repeat (first|refine blk_drewN ?_ _|refine blk_drew ?_|refine blk_alloc ?_ _));exact BK222.out) Try.underlying33 rfl (by kernel_rfl)) rfl ?_
 exact ⟨by first|rfl|(simp [errW_none,errW_some] <;> rfl)|(simp [*,errW_none,errW_some] <;> rfl),by repeat (first|(with_reducible first|exact HB.out|apply below_alloc|apply pw_below_drewN|apply below_drew1|refine below_set ?_ GE221.out|refine below_set ?_ GE222.out)|exact HB.out)⟩

/-! ### impl_sumReckoning_ok: function 138 -/
def impl_sumReckoning_ok.f (a0_0:Int) (a0_1:Int) (a1:Int):Option (Bool):=(impl_isPlace.f a0_0 a1).bind fun t224=>(if t224=true then ((impl_isPlace.f a0_1 a1).bind fun t225=>(some t225)) else (some false))
set_option maxHeartbeats 8000000 in
set_option maxRecDepth 100000 in
theorem impl_sumReckoning_ok.calls (a0_0:Int) (a0_1:Int) (a1:Int) (r:Bool) (w:World) (h:impl_sumReckoning_ok.f a0_0 a0_1 a1=some r) :
  Calls Try.prog 138 #[.agg #[.int .i64 a0_0,.int .i64 a0_1],.int .i64 a1] w fun e w'=>e=.returned (.bool r)∧Below w.heap.size w w':=by
 have hu134:=Try.underlying134
 have HB:=Aside0.mk (Below.refl w.heap.size w)
 have H:((impl_isPlace.f a0_0 a1).bind fun t224=>(if t224=true then ((impl_isPlace.f a0_1 a1).bind fun t225=>(some t225)) else (some false)))=some r:=h
 clear h
 replace H:=Option.bind_eq_some_iff.mp H
 obtain ⟨t224,A30,H⟩:=H
 (try dsimp only at H)
 have A3:=Aside0.mk A30
 clear A30
 by_cases c4:t224=true
 ·subst c4
  have H1:((impl_isPlace.f a0_1 a1).bind fun t225=>(some t225))=some r:=by rw [if_pos rfl] at H;exact H
  clear H
  have H:=H1
  clear H1
  replace H:=Option.bind_eq_some_iff.mp H
  obtain ⟨t225,A50,H⟩:=H
  (try dsimp only at H)
  have A5:=Aside0.mk A50
  clear A50
  obtain rfl:=Option.some.inj H
  go_enter Try.func138,Try.ntmps138
  go_wp2_with (first|((with_reducible refine gate_dst (N:=2) rfl ?_);refine box_event ?hg (N:=2) ?hd (cs:=#[.int .i64 a0_0,.int .i64 a0_1]) (t:=134) ?hr ?_;(case hd=>rfl);(case hg=>rfl);(case hr=>first|(go_simp;done)|(go_simp;rfl));intro gb223 hg w6 hbox hb;have n0_:=Aside0.mk (below_step zhb hb);have n1_:=Aside0.mk (hbox);have n2_:=Aside0.mk ((by rw [hg];exact (below_size zhb):w.heap.size≤gb223));have n3_:=Aside0.mk ((by rw [hg];exact (below_size zhb):w.heap.size≤gb223));clear HB;have HB:=n0_;have BK223:=n1_;have GW223:=n2_;have GE223:=n3_;clear n0_ n1_ n2_ n3_;clear hb hbox hg;have hcz7_0:w6.cell? ⟨gb223,0,none⟩=some (.int .i64 a0_0):=(blk_cell BK223.out 0).trans rfl;have hcz7_1:w6.cell? ⟨gb223,1,none⟩=some (.int .i64 a0_1):=(blk_cell BK223.out 1).trans rfl;have hfz7_0:=blk_frozen BK223.out 0;have hfz7_1:=blk_frozen BK223.out 1)|((with_reducible refine gate_callee (f:=107) rfl ?_);refine goesL_ (some 8) rfl rfl Try.func107 (by kernel_rfl) rfl #[.int .i64 a0_0,.int .i64 a1] rfl zar ?_;(with_reducible refine (impl_isPlace.calls a0_0 a1 true _ A3.out).mono ?_);rintro e w8 ⟨rfl,hb⟩;refine ⟨_,rfl,?_⟩;have n0_:=Aside0.mk (blk_below (g:=gb223) (o:=.cells #[.int .i64 a0_0,.int .i64 a0_1] 134 (0,0)) (by (with_reducible repeat (first|refine blk_drewN ?_ _|refine blk_drew ?_|refine blk_alloc ?_ _));exact BK223.out) hb);have n1_:=Aside0.mk (below_step (by repeat (first|(with_reducible first|exact HB.out|apply below_alloc|apply pw_below_drewN|apply below_drew1|refine below_set ?_ GE223.out)|exact HB.out)) hb);clear BK223;clear HB;have BK223:=n0_;have HB:=n1_;clear n0_ n1_;(try clear hb);(try clear hb2);(try clear hk);(try clear hi);have hcz9_0:w8.cell? ⟨gb223,0,none⟩=some (.int .i64 a0_0):=(blk_cell BK223.out 0).trans rfl;have hcz9_1:w8.cell? ⟨gb223,1,none⟩=some (.int .i64 a0_1):=(blk_cell BK223.out 1).trans rfl;have hfz9_0:=blk_frozen BK223.out 0;have hfz9_1:=blk_frozen BK223.out 1)|(go_at_call 107;(with_reducible refine (impl_isPlace.calls a0_1 a1 t225 _ A5.out).mono ?_);rintro e w10 ⟨rfl,hb⟩;have n0_:=Aside0.mk (blk_below (g:=gb223) (o:=.cells #[.int .i64 a0_0,.int .i64 a0_1] 134 (0,0)) (by (with_reducible repeat (first|refine blk_drewN ?_ _|refine blk_drew ?_|refine blk_alloc ?_ _));exact BK223.out) hb);have n1_:=Aside0.mk (below_step (by repeat (first|(with_reducible first|exact HB.out|apply below_alloc|apply pw_below_drewN|apply below_drew1|refine below_set ?_ GE223.out)|exact HB.out)) hb);clear BK223;clear HB;have BK223:=n0_;have HB:=n1_;clear n0_ n1_;(try clear hb);(try clear hb2);(try clear hk);(try clear hi)))
  go_ret
  exact ⟨by first|rfl|(simp [errW_none,errW_some] <;> rfl)|(simp [*,errW_none,errW_some] <;> rfl),by repeat (first|(with_reducible first|exact HB.out|apply below_alloc|apply pw_below_drewN|apply below_drew1|refine below_set ?_ GE223.out)|exact HB.out)⟩
 ·replace c4:=Bool.eq_false_iff.mpr c4
  subst c4
  have H1:(some false)=some r:=by rw [if_neg (show ¬ (false=true) by decide)] at H;exact H
  clear H
  have H:=H1
  clear H1
  obtain rfl:=Option.some.inj H
  go_enter Try.func138,Try.ntmps138
  go_wp2_with (first|((with_reducible refine gate_dst (N:=2) rfl ?_);refine box_event ?hg (N:=2) ?hd (cs:=#[.int .i64 a0_0,.int .i64 a0_1]) (t:=134) ?hr ?_;(case hd=>rfl);(case hg=>rfl);(case hr=>first|(go_simp;done)|(go_simp;rfl));intro gb223 hg w11 hbox hb;have n0_:=Aside0.mk (below_step zhb hb);have n1_:=Aside0.mk (hbox);have n2_:=Aside0.mk ((by rw [hg];exact (below_size zhb):w.heap.size≤gb223));have n3_:=Aside0.mk ((by rw [hg];exact (below_size zhb):w.heap.size≤gb223));clear HB;have HB:=n0_;have BK223:=n1_;have GW223:=n2_;have GE223:=n3_;clear n0_ n1_ n2_ n3_;clear hb hbox hg;have hcz12_0:w11.cell? ⟨gb223,0,none⟩=some (.int .i64 a0_0):=(blk_cell BK223.out 0).trans rfl;have hcz12_1:w11.cell? ⟨gb223,1,none⟩=some (.int .i64 a0_1):=(blk_cell BK223.out 1).trans rfl;have hfz12_0:=blk_frozen BK223.out 0;have hfz12_1:=blk_frozen BK223.out 1)|((with_reducible refine gate_callee (f:=107) rfl ?_);refine goesL_ (some 8) rfl rfl Try.func107 (by kernel_rfl) rfl #[.int .i64 a0_0,.int .i64 a1] rfl zar ?_;(with_reducible refine (impl_isPlace.calls a0_0 a1 false _ A3.out).mono ?_);rintro e w13 ⟨rfl,hb⟩;refine ⟨_,rfl,?_⟩;have n0_:=Aside0.mk (blk_below (g:=gb223) (o:=.cells #[.int .i64 a0_0,.int .i64 a0_1] 134 (0,0)) (by (with_reducible repeat (first|refine blk_drewN ?_ _|refine blk_drew ?_|refine blk_alloc ?_ _));exact BK223.out) hb);have n1_:=Aside0.mk (below_step (by repeat (first|(with_reducible first|exact HB.out|apply below_alloc|apply pw_below_drewN|apply below_drew1|refine below_set ?_ GE223.out)|exact HB.out)) hb);clear BK223;clear HB;have BK223:=n0_;have HB:=n1_;clear n0_ n1_;(try clear hb);(try clear hb2);(try clear hk);(try clear hi)))
  go_ret
  exact ⟨by first|rfl|(simp [errW_none,errW_some] <;> rfl)|(simp [*,errW_none,errW_some] <;> rfl),by repeat (first|(with_reducible first|exact HB.out|apply below_alloc|apply pw_below_drewN|apply below_drew1|refine below_set ?_ GE223.out)|exact HB.out)⟩

/-! ### impl_CellOk: function 92 (by hand) -/
def impl_CellOk.f (a0_0:Int) (a0_1:Int) (a0_2:Int) (a0_3:Int) (a1:Int):Option (Bool) :=
 if a0_0=1 then (if a0_2=0 then (if a0_3=0 then (impl_colReckoning_ok.f a0_1 a1) else (some false)) else (some false))
 else (if a0_0=2 then (if a0_1=0 then (if a0_2=0 then (impl_numReckoning_ok.f a0_3 a1) else (some false)) else (some false))
 else (if a0_0=3 then (if a0_3=0 then (impl_sumReckoning_ok.f a0_1 a0_2 a1) else (some false)) else (some false)))
/-- reckoningOf: what a cell's kind is told as -/
def rkVal (k a b n:Int):Value:=if k=1 then .iface 130 (.agg #[.int .i64 a]) else if k=2 then .iface 132 (.agg #[.int .i64 n]) else if k=3 then .iface 134 (.agg #[.int .i64 a,.int .i64 b]) else .nilIface
set_option maxHeartbeats 8000000 in
set_option maxRecDepth 100000 in
theorem impl_reckoningOf.calls (k a b n:Int) (w:World):Calls Try.prog 93 #[.agg #[.int .i64 k,.int .i64 a,.int .i64 b,.int .i64 n]] w fun e w'=>e=.returned (rkVal k a b n)∧Below w.heap.size w w':=by
 unfold rkVal
 by_cases h1:k=1
 ·subst h1
  rw [if_pos rfl]
  go_enter Try.func93,Try.ntmps93
  go_wp2
  go_ret
  exact ⟨rfl,below_alloc (Below.refl _ _) _⟩
 by_cases h2:k=2
 ·subst h2
  rw [if_neg (by decide),if_pos rfl]
  go_enter Try.func93,Try.ntmps93
  go_wp2
  go_ret
  exact ⟨rfl,below_alloc (Below.refl _ _) _⟩
 by_cases h3:k=3
 ·subst h3
  rw [if_neg (by decide),if_neg (by decide),if_pos rfl]
  go_enter Try.func93,Try.ntmps93
  go_wp2
  go_ret
  exact ⟨rfl,below_alloc (Below.refl _ _) _⟩
 rw [if_neg h1,if_neg h2,if_neg h3]
 have b1:(k == 1)=false:=by simpa using h1
 have b2:(k == 2)=false:=by simpa using h2
 have b3:(k == 3)=false:=by simpa using h3
 clear h1 h2 h3
 go_enter Try.func93,Try.ntmps93
 go_wp2
 go_ret
 exact ⟨rfl,below_alloc (Below.refl _ _) _⟩
set_option maxHeartbeats 8000000 in
set_option maxRecDepth 100000 in
theorem cellOk_col (a:Int) (wide:Int) (r:Bool) (w:World) (h:impl_colReckoning_ok.f a wide=some r):Calls Try.prog 92 #[.agg #[.int .i64 1,.int .i64 a,.int .i64 0,.int .i64 0],.int .i64 wide] w fun e w'=>e=.returned (.bool r)∧Below w.heap.size w w':=by
 have HB:=Aside0.mk (Below.refl w.heap.size w)
 have A:=Aside0.mk h
 clear h
 have RK:=impl_reckoningOf.calls 1 a 0 0
 rw [show rkVal 1 a 0 0=.iface 130 (.agg #[.int .i64 a]) from rfl] at RK
 go_enter Try.func92,Try.ntmps92
 go_wp2_with (first|(go_at_call 93;refine (RK _).mono ?_;rintro e w1 ⟨rfl,hb⟩;have HC:=Aside0.mk hb;clear hb))
 clear RK
 have c0:w1.cell? ⟨w.heap.size,0,none⟩=some (.int .i64 1):=(HC.out.cell (p:=⟨w.heap.size,0,none⟩) (by simp)).trans (by simp)
 have c1:w1.cell? ⟨w.heap.size,1,none⟩=some (.int .i64 a):=(HC.out.cell (p:=⟨w.heap.size,1,none⟩) (by simp)).trans (by simp)
 have c2:w1.cell? ⟨w.heap.size,2,none⟩=some (.int .i64 0):=(HC.out.cell (p:=⟨w.heap.size,2,none⟩) (by simp)).trans (by simp)
 have c3:w1.cell? ⟨w.heap.size,3,none⟩=some (.int .i64 0):=(HC.out.cell (p:=⟨w.heap.size,3,none⟩) (by simp)).trans (by simp)
 have B1:Below w.heap.size w w1:=below_step (below_alloc HB.out _) HC.out
 clear HC HB
 have mc : ∀ W : World, (method 248 130 (.agg #[.int .i64 a]) "loop.example/milldam/impl.cell").run Try.prog W = .ok (127, .agg #[.int .i64 a]) W := fun _ => by kernel_rfl
 have mo : ∀ W : World, (method 248 130 (.agg #[.int .i64 a]) "loop.example/milldam/impl.ok").run Try.prog W = .ok (129, .agg #[.int .i64 a]) W := fun _ => by kernel_rfl
 have qc:impl_colReckoning_cell.f a=some (1,a,0,0):=rfl
 refine start_ (n:=14) (S:=fun w'=>w'.cell? ⟨w.heap.size,0,none⟩=some (.int .i64 1)∧w'.cell? ⟨w.heap.size,1,none⟩=some (.int .i64 a)∧w'.cell? ⟨w.heap.size,2,none⟩=some (.int .i64 0)∧w'.cell? ⟨w.heap.size,3,none⟩=some (.int .i64 0)∧Below w.heap.size w w') (ds:=[]) #[X,X,X,X,X,X,X,X,X,X,X,X,X,X] (by kernel_rfl) rfl rfl ⟨c0,c1,c2,c3,(below_drew B1)⟩ (fun hHeld=>?_)
 refine pure_ (i:=0) (N:=some 8) (v:=?_) (a':=?_) #[Y,X,X,X,X,X,X,X,X,X,X,X,X,X] rfl rfl (by kernel_rfl) (fun _ _ _ h=>h) (Or.inl ⟨by rfl,?_⟩) ?_ ?_
 rotate_left
 ·intro w'
  go_simp
  with_reducible rfl
 rotate_left
 ·simp only [Act.put,zp1,zp2,zp3,i64_w,i32_w]
  rfl
 refine pure_ (i:=1) (N:=some 9) (v:=?_) (a':=?_) #[Y,Y,X,X,X,X,X,X,X,X,X,X,X,X] rfl rfl (by kernel_rfl) (fun _ _ _ h=>h) (Or.inl ⟨by rfl,?_⟩) ?_ ?_
 rotate_left
 ·intro w'
  go_simp
  with_reducible rfl
 rotate_left
 ·simp only [Act.put,zp1,zp2,zp3,i64_w,i32_w]
  rfl
 refine pure_ (i:=2) (N:=some 10) (v:=?_) (a':=?_) #[Y,Y,Y,X,X,X,X,X,X,X,X,X,X,X] rfl rfl (by kernel_rfl) (fun _ _ _ h=>h) (Or.inl ⟨by rfl,?_⟩) ?_ ?_
 rotate_left
 ·intro w'
  go_simp
  with_reducible rfl
 rotate_left
 ·simp only [Act.put,zp1,zp2,zp3,i64_w,i32_w]
  rfl
 refine pure_ (i:=3) (N:=some 11) (v:=?_) (a':=?_) #[Y,Y,Y,Y,X,X,X,X,X,X,X,X,X,X] rfl rfl (by kernel_rfl) (fun _ _ _ h=>h) (Or.inl ⟨by rfl,?_⟩) ?_ ?_
 rotate_left
 ·intro w'
  go_simp
  with_reducible rfl
 rotate_left
 ·simp only [Act.put,zp1,zp2,zp3,i64_w,i32_w]
  rfl
 refine take_ (i:=5) (N:=some 13) (v:=?_) (a':=?_) #[Y,Y,Y,Y,X,Y,X,X,X,X,X,X,X,X] rfl rfl (by kernel_rfl) (fun _ _ _ h=>h) (Or.inl ⟨by rfl,?_⟩) hHeld ?_ ?_
 rotate_left
 ·rintro w' ⟨s0,s1,s2,s3,s4⟩
  go_simp
  with_reducible rfl
 rotate_left
 ·simp only [Act.put,zp1,zp2,zp3,i64_w,i32_w]
  rfl
 refine one_ (i:=4) (N:=some 12) #[Y,Y,Y,Y,Y,Y,X,X,X,X,X,X,X,X] rfl rfl (by kernel_rfl) (by decide) (fun K hK=>?_)
 rw [if_pos (by rfl)]
 go_wp2_with (first|(go_at_call 127;refine (impl_colReckoning_cell.calls a 1 a 0 0 _ qc).mono ?_;rintro e w' ⟨rfl,hb⟩))
 refine hK.out _ _ ⟨(pw_cell_below hb hHeld.1),(pw_cell_below hb hHeld.2.1),(pw_cell_below hb hHeld.2.2.1),(pw_cell_below hb hHeld.2.2.2.1),(below_step hHeld.2.2.2.2 hb)⟩ (fun hHeld=>?_)
 clear hK K
 refine pure_ (i:=6) (N:=some 14) (v:=?_) (a':=?_) #[Y,Y,Y,Y,Y,Y,Y,X,X,X,X,X,X,X] rfl rfl (by kernel_rfl) (fun _ _ _ h=>h) (Or.inl ⟨by rfl,?_⟩) ?_ ?_
 rotate_left
 ·intro w'
  go_simp
  with_reducible rfl
 rotate_left
 ·simp only [Act.put,zp1,zp2,zp3,i64_w,i32_w]
  rfl
 refine pure_ (i:=7) (N:=some 15) (v:=?_) (a':=?_) #[Y,Y,Y,Y,Y,Y,Y,Y,X,X,X,X,X,X] rfl rfl (by kernel_rfl) (fun _ _ _ h=>h) (Or.inl ⟨by rfl,?_⟩) ?_ ?_
 rotate_left
 ·intro w'
  go_simp
  with_reducible rfl
 rotate_left
 ·simp only [Act.put,zp1,zp2,zp3,i64_w,i32_w]
  rfl
 refine pure_ (i:=8) (N:=some 16) (v:=?_) (a':=?_) #[Y,Y,Y,Y,Y,Y,Y,Y,Y,X,X,X,X,X] rfl rfl (by kernel_rfl) (fun _ _ _ h=>h) (Or.inl ⟨by rfl,?_⟩) ?_ ?_
 rotate_left
 ·intro w'
  go_simp
  with_reducible rfl
 rotate_left
 ·simp only [Act.put,zp1,zp2,zp3,i64_w,i32_w]
  rfl
 refine pure_ (i:=9) (N:=some 17) (v:=?_) (a':=?_) #[Y,Y,Y,Y,Y,Y,Y,Y,Y,Y,X,X,X,X] rfl rfl (by kernel_rfl) (fun _ _ _ h=>h) (Or.inl ⟨by rfl,?_⟩) ?_ ?_
 rotate_left
 ·intro w'
  go_simp
  with_reducible rfl
 rotate_left
 ·simp only [Act.put,zp1,zp2,zp3,i64_w,i32_w]
  rfl
 refine pure_ (i:=10) (N:=some 18) (v:=?_) (a':=?_) #[Y,Y,Y,Y,Y,Y,Y,Y,Y,Y,Y,X,X,X] rfl rfl (by kernel_rfl) (fun _ _ _ h=>h) (Or.inl ⟨by rfl,?_⟩) ?_ ?_
 rotate_left
 ·intro w'
  go_simp
  with_reducible rfl
 rotate_left
 ·simp only [Act.put,zp1,zp2,zp3,i64_w,i32_w]
  rfl
 refine one_ (i:=11) (N:=some 19) #[Y,Y,Y,Y,Y,Y,Y,Y,Y,Y,Y,Y,X,X] rfl rfl (by kernel_rfl) (by decide) (fun K hK=>?_)
 rw [if_pos (by rfl)]
 go_wp2_with (first|(go_at_call 129;refine (impl_colReckoning_ok.calls a wide r _ A.out).mono ?_;rintro e w' ⟨rfl,hb⟩))
 refine hK.out _ _ ⟨(pw_cell_below hb hHeld.1),(pw_cell_below hb hHeld.2.1),(pw_cell_below hb hHeld.2.2.1),(pw_cell_below hb hHeld.2.2.2.1),(below_step hHeld.2.2.2.2 hb)⟩ (fun hHeld=>?_)
 clear hK K
 refine pure_ (i:=12) (N:=some 20) (v:=?_) (a':=?_) #[Y,Y,Y,Y,Y,Y,Y,Y,Y,Y,Y,Y,Y,X] rfl rfl (by kernel_rfl) (fun _ _ _ h=>h) (Or.inl ⟨by rfl,?_⟩) ?_ ?_
 rotate_left
 ·intro w'
  go_simp
  with_reducible rfl
 rotate_left
 ·simp only [Act.put,zp1,zp2,zp3,i64_w,i32_w]
  rfl
 refine pure_ (i:=13) (N:=some 4) (v:=?_) (a':=?_) #[Y,Y,Y,Y,Y,Y,Y,Y,Y,Y,Y,Y,Y,Y] rfl rfl (by kernel_rfl) (fun _ _ _ h=>h) (Or.inl ⟨by rfl,?_⟩) ?_ ?_
 rotate_left
 ·intro w'
  go_simp
  with_reducible rfl
 rotate_left
 ·simp only [Act.put,zp1,zp2,zp3,i64_w,i32_w]
  rfl
 refine done_ (by kernel_rfl) ?_
 go_wp2
 go_ret
 exact ⟨rfl,hHeld.2.2.2.2⟩
set_option maxHeartbeats 8000000 in
set_option maxRecDepth 100000 in
theorem cellOk_col_b (a b n:Int) (wide:Int) (w:World) (hb:((0:Int) == b)=false):Calls Try.prog 92 #[.agg #[.int .i64 1,.int .i64 a,.int .i64 b,.int .i64 n],.int .i64 wide] w fun e w'=>e=.returned (.bool false)∧Below w.heap.size w w':=by
 have HB:=Aside0.mk (Below.refl w.heap.size w)
 have RK:=impl_reckoningOf.calls 1 a b n
 rw [show rkVal 1 a b n=.iface 130 (.agg #[.int .i64 a]) from rfl] at RK
 go_enter Try.func92,Try.ntmps92
 go_wp2_with (first|(go_at_call 93;refine (RK _).mono ?_;rintro e w1 ⟨rfl,hb⟩;have HC:=Aside0.mk hb;clear hb))
 clear RK
 have c0:w1.cell? ⟨w.heap.size,0,none⟩=some (.int .i64 1):=(HC.out.cell (p:=⟨w.heap.size,0,none⟩) (by simp)).trans (by simp)
 have c1:w1.cell? ⟨w.heap.size,1,none⟩=some (.int .i64 a):=(HC.out.cell (p:=⟨w.heap.size,1,none⟩) (by simp)).trans (by simp)
 have c2:w1.cell? ⟨w.heap.size,2,none⟩=some (.int .i64 b):=(HC.out.cell (p:=⟨w.heap.size,2,none⟩) (by simp)).trans (by simp)
 have c3:w1.cell? ⟨w.heap.size,3,none⟩=some (.int .i64 n):=(HC.out.cell (p:=⟨w.heap.size,3,none⟩) (by simp)).trans (by simp)
 have B1:Below w.heap.size w w1:=below_step (below_alloc HB.out _) HC.out
 clear HC HB
 have mc : ∀ W : World, (method 248 130 (.agg #[.int .i64 a]) "loop.example/milldam/impl.cell").run Try.prog W = .ok (127, .agg #[.int .i64 a]) W := fun _ => by kernel_rfl
 have mo : ∀ W : World, (method 248 130 (.agg #[.int .i64 a]) "loop.example/milldam/impl.ok").run Try.prog W = .ok (129, .agg #[.int .i64 a]) W := fun _ => by kernel_rfl
 have qc:impl_colReckoning_cell.f a=some (1,a,0,0):=rfl
 refine start_ (n:=14) (S:=fun w'=>w'.cell? ⟨w.heap.size,0,none⟩=some (.int .i64 1)∧w'.cell? ⟨w.heap.size,1,none⟩=some (.int .i64 a)∧w'.cell? ⟨w.heap.size,2,none⟩=some (.int .i64 b)∧w'.cell? ⟨w.heap.size,3,none⟩=some (.int .i64 n)∧Below w.heap.size w w') (ds:=[]) #[X,X,X,X,X,X,X,X,X,X,X,X,X,X] (by kernel_rfl) rfl rfl ⟨c0,c1,c2,c3,(below_drew B1)⟩ (fun hHeld=>?_)
 refine pure_ (i:=0) (N:=some 8) (v:=?_) (a':=?_) #[Y,X,X,X,X,X,X,X,X,X,X,X,X,X] rfl rfl (by kernel_rfl) (fun _ _ _ h=>h) (Or.inl ⟨by rfl,?_⟩) ?_ ?_
 rotate_left
 ·intro w'
  go_simp
  with_reducible rfl
 rotate_left
 ·simp only [Act.put,zp1,zp2,zp3,i64_w,i32_w]
  rfl
 refine pure_ (i:=1) (N:=some 9) (v:=?_) (a':=?_) #[Y,Y,X,X,X,X,X,X,X,X,X,X,X,X] rfl rfl (by kernel_rfl) (fun _ _ _ h=>h) (Or.inl ⟨by rfl,?_⟩) ?_ ?_
 rotate_left
 ·intro w'
  go_simp
  with_reducible rfl
 rotate_left
 ·simp only [Act.put,zp1,zp2,zp3,i64_w,i32_w]
  rfl
 refine pure_ (i:=2) (N:=some 10) (v:=?_) (a':=?_) #[Y,Y,Y,X,X,X,X,X,X,X,X,X,X,X] rfl rfl (by kernel_rfl) (fun _ _ _ h=>h) (Or.inl ⟨by rfl,?_⟩) ?_ ?_
 rotate_left
 ·intro w'
  go_simp
  with_reducible rfl
 rotate_left
 ·simp only [Act.put,zp1,zp2,zp3,i64_w,i32_w]
  rfl
 refine pure_ (i:=3) (N:=some 11) (v:=?_) (a':=?_) #[Y,Y,Y,Y,X,X,X,X,X,X,X,X,X,X] rfl rfl (by kernel_rfl) (fun _ _ _ h=>h) (Or.inl ⟨by rfl,?_⟩) ?_ ?_
 rotate_left
 ·intro w'
  go_simp
  with_reducible rfl
 rotate_left
 ·simp only [Act.put,zp1,zp2,zp3,i64_w,i32_w]
  rfl
 refine take_ (i:=5) (N:=some 13) (v:=?_) (a':=?_) #[Y,Y,Y,Y,X,Y,X,X,X,X,X,X,X,X] rfl rfl (by kernel_rfl) (fun _ _ _ h=>h) (Or.inl ⟨by rfl,?_⟩) hHeld ?_ ?_
 rotate_left
 ·rintro w' ⟨s0,s1,s2,s3,s4⟩
  go_simp
  with_reducible rfl
 rotate_left
 ·simp only [Act.put,zp1,zp2,zp3,i64_w,i32_w]
  rfl
 refine one_ (i:=4) (N:=some 12) #[Y,Y,Y,Y,Y,Y,X,X,X,X,X,X,X,X] rfl rfl (by kernel_rfl) (by decide) (fun K hK=>?_)
 rw [if_pos (by rfl)]
 go_wp2_with (first|(go_at_call 127;refine (impl_colReckoning_cell.calls a 1 a 0 0 _ qc).mono ?_;rintro e w' ⟨rfl,hb⟩))
 refine hK.out _ _ ⟨(pw_cell_below hb hHeld.1),(pw_cell_below hb hHeld.2.1),(pw_cell_below hb hHeld.2.2.1),(pw_cell_below hb hHeld.2.2.2.1),(below_step hHeld.2.2.2.2 hb)⟩ (fun hHeld=>?_)
 clear hK K
 refine pure_ (i:=6) (N:=some 14) (v:=?_) (a':=?_) #[Y,Y,Y,Y,Y,Y,Y,X,X,X,X,X,X,X] rfl rfl (by kernel_rfl) (fun _ _ _ h=>h) (Or.inl ⟨by rfl,?_⟩) ?_ ?_
 rotate_left
 ·intro w'
  go_simp
  with_reducible rfl
 rotate_left
 ·simp only [Act.put,zp1,zp2,zp3,i64_w,i32_w]
  rfl
 refine pure_ (i:=7) (N:=some 15) (v:=?_) (a':=?_) #[Y,Y,Y,Y,Y,Y,Y,Y,X,X,X,X,X,X] rfl rfl (by kernel_rfl) (fun _ _ _ h=>h) (Or.inl ⟨by rfl,?_⟩) ?_ ?_
 rotate_left
 ·intro w'
  go_simp
  with_reducible rfl
 rotate_left
 ·simp only [Act.put,zp1,zp2,zp3,i64_w,i32_w]
  rfl
 refine pure_ (i:=8) (N:=some 16) (v:=?_) (a':=?_) #[Y,Y,Y,Y,Y,Y,Y,Y,Y,X,X,X,X,X] rfl rfl (by kernel_rfl) (fun _ _ _ h=>h) (Or.inl ⟨by rfl,?_⟩) ?_ ?_
 rotate_left
 ·intro w'
  go_simp
  with_reducible rfl
 rotate_left
 ·simp only [Act.put,zp1,zp2,zp3,i64_w,i32_w]
  rfl
 refine pure_ (i:=9) (N:=some 17) (v:=undef) (a':=?_) #[Y,Y,Y,Y,Y,Y,Y,Y,Y,Y,X,X,X,X] rfl rfl (by kernel_rfl) (fun _ _ _ h=>h) (Or.inr ⟨by rfl,rfl⟩) ?_ ?_
 rotate_left
 ·simp only [Act.put,zp1,zp2,zp3,i64_w,i32_w]
  rfl
 refine pure_ (i:=10) (N:=some 18) (v:=undef) (a':=?_) #[Y,Y,Y,Y,Y,Y,Y,Y,Y,Y,Y,X,X,X] rfl rfl (by kernel_rfl) (fun _ _ _ h=>h) (Or.inr ⟨by rfl,rfl⟩) ?_ ?_
 rotate_left
 ·simp only [Act.put,zp1,zp2,zp3,i64_w,i32_w]
  rfl
 refine pure_ (i:=11) (N:=some 19) (v:=undef) (a':=?_) #[Y,Y,Y,Y,Y,Y,Y,Y,Y,Y,Y,Y,X,X] rfl rfl (by kernel_rfl) (fun _ _ _ h=>h) (Or.inr ⟨by rfl,rfl⟩) ?_ ?_
 rotate_left
 ·simp only [Act.put,zp1,zp2,zp3,i64_w,i32_w]
  rfl
 refine pure_ (i:=12) (N:=some 20) (v:=?_) (a':=?_) #[Y,Y,Y,Y,Y,Y,Y,Y,Y,Y,Y,Y,Y,X] rfl rfl (by kernel_rfl) (fun _ _ _ h=>h) (Or.inl ⟨by rfl,?_⟩) ?_ ?_
 rotate_left
 ·intro w'
  go_simp
  with_reducible rfl
 rotate_left
 ·simp only [Act.put,zp1,zp2,zp3,i64_w,i32_w]
  rfl
 refine pure_ (i:=13) (N:=some 4) (v:=?_) (a':=?_) #[Y,Y,Y,Y,Y,Y,Y,Y,Y,Y,Y,Y,Y,Y] rfl rfl (by kernel_rfl) (fun _ _ _ h=>h) (Or.inl ⟨by rfl,?_⟩) ?_ ?_
 rotate_left
 ·intro w'
  go_simp
  with_reducible rfl
 rotate_left
 ·simp only [Act.put,zp1,zp2,zp3,i64_w,i32_w]
  rfl
 refine done_ (by kernel_rfl) ?_
 go_wp2
 go_ret
 exact ⟨rfl,hHeld.2.2.2.2⟩
set_option maxHeartbeats 8000000 in
set_option maxRecDepth 100000 in
theorem cellOk_col_n (a n:Int) (wide:Int) (w:World) (hn:((0:Int) == n)=false):Calls Try.prog 92 #[.agg #[.int .i64 1,.int .i64 a,.int .i64 0,.int .i64 n],.int .i64 wide] w fun e w'=>e=.returned (.bool false)∧Below w.heap.size w w':=by
 have HB:=Aside0.mk (Below.refl w.heap.size w)
 have RK:=impl_reckoningOf.calls 1 a 0 n
 rw [show rkVal 1 a 0 n=.iface 130 (.agg #[.int .i64 a]) from rfl] at RK
 go_enter Try.func92,Try.ntmps92
 go_wp2_with (first|(go_at_call 93;refine (RK _).mono ?_;rintro e w1 ⟨rfl,hb⟩;have HC:=Aside0.mk hb;clear hb))
 clear RK
 have c0:w1.cell? ⟨w.heap.size,0,none⟩=some (.int .i64 1):=(HC.out.cell (p:=⟨w.heap.size,0,none⟩) (by simp)).trans (by simp)
 have c1:w1.cell? ⟨w.heap.size,1,none⟩=some (.int .i64 a):=(HC.out.cell (p:=⟨w.heap.size,1,none⟩) (by simp)).trans (by simp)
 have c2:w1.cell? ⟨w.heap.size,2,none⟩=some (.int .i64 0):=(HC.out.cell (p:=⟨w.heap.size,2,none⟩) (by simp)).trans (by simp)
 have c3:w1.cell? ⟨w.heap.size,3,none⟩=some (.int .i64 n):=(HC.out.cell (p:=⟨w.heap.size,3,none⟩) (by simp)).trans (by simp)
 have B1:Below w.heap.size w w1:=below_step (below_alloc HB.out _) HC.out
 clear HC HB
 have mc : ∀ W : World, (method 248 130 (.agg #[.int .i64 a]) "loop.example/milldam/impl.cell").run Try.prog W = .ok (127, .agg #[.int .i64 a]) W := fun _ => by kernel_rfl
 have mo : ∀ W : World, (method 248 130 (.agg #[.int .i64 a]) "loop.example/milldam/impl.ok").run Try.prog W = .ok (129, .agg #[.int .i64 a]) W := fun _ => by kernel_rfl
 have qc:impl_colReckoning_cell.f a=some (1,a,0,0):=rfl
 refine start_ (n:=14) (S:=fun w'=>w'.cell? ⟨w.heap.size,0,none⟩=some (.int .i64 1)∧w'.cell? ⟨w.heap.size,1,none⟩=some (.int .i64 a)∧w'.cell? ⟨w.heap.size,2,none⟩=some (.int .i64 0)∧w'.cell? ⟨w.heap.size,3,none⟩=some (.int .i64 n)∧Below w.heap.size w w') (ds:=[]) #[X,X,X,X,X,X,X,X,X,X,X,X,X,X] (by kernel_rfl) rfl rfl ⟨c0,c1,c2,c3,(below_drew B1)⟩ (fun hHeld=>?_)
 refine pure_ (i:=0) (N:=some 8) (v:=?_) (a':=?_) #[Y,X,X,X,X,X,X,X,X,X,X,X,X,X] rfl rfl (by kernel_rfl) (fun _ _ _ h=>h) (Or.inl ⟨by rfl,?_⟩) ?_ ?_
 rotate_left
 ·intro w'
  go_simp
  with_reducible rfl
 rotate_left
 ·simp only [Act.put,zp1,zp2,zp3,i64_w,i32_w]
  rfl
 refine pure_ (i:=1) (N:=some 9) (v:=?_) (a':=?_) #[Y,Y,X,X,X,X,X,X,X,X,X,X,X,X] rfl rfl (by kernel_rfl) (fun _ _ _ h=>h) (Or.inl ⟨by rfl,?_⟩) ?_ ?_
 rotate_left
 ·intro w'
  go_simp
  with_reducible rfl
 rotate_left
 ·simp only [Act.put,zp1,zp2,zp3,i64_w,i32_w]
  rfl
 refine pure_ (i:=2) (N:=some 10) (v:=?_) (a':=?_) #[Y,Y,Y,X,X,X,X,X,X,X,X,X,X,X] rfl rfl (by kernel_rfl) (fun _ _ _ h=>h) (Or.inl ⟨by rfl,?_⟩) ?_ ?_
 rotate_left
 ·intro w'
  go_simp
  with_reducible rfl
 rotate_left
 ·simp only [Act.put,zp1,zp2,zp3,i64_w,i32_w]
  rfl
 refine pure_ (i:=3) (N:=some 11) (v:=?_) (a':=?_) #[Y,Y,Y,Y,X,X,X,X,X,X,X,X,X,X] rfl rfl (by kernel_rfl) (fun _ _ _ h=>h) (Or.inl ⟨by rfl,?_⟩) ?_ ?_
 rotate_left
 ·intro w'
  go_simp
  with_reducible rfl
 rotate_left
 ·simp only [Act.put,zp1,zp2,zp3,i64_w,i32_w]
  rfl
 refine take_ (i:=5) (N:=some 13) (v:=?_) (a':=?_) #[Y,Y,Y,Y,X,Y,X,X,X,X,X,X,X,X] rfl rfl (by kernel_rfl) (fun _ _ _ h=>h) (Or.inl ⟨by rfl,?_⟩) hHeld ?_ ?_
 rotate_left
 ·rintro w' ⟨s0,s1,s2,s3,s4⟩
  go_simp
  with_reducible rfl
 rotate_left
 ·simp only [Act.put,zp1,zp2,zp3,i64_w,i32_w]
  rfl
 refine one_ (i:=4) (N:=some 12) #[Y,Y,Y,Y,Y,Y,X,X,X,X,X,X,X,X] rfl rfl (by kernel_rfl) (by decide) (fun K hK=>?_)
 rw [if_pos (by rfl)]
 go_wp2_with (first|(go_at_call 127;refine (impl_colReckoning_cell.calls a 1 a 0 0 _ qc).mono ?_;rintro e w' ⟨rfl,hb⟩))
 refine hK.out _ _ ⟨(pw_cell_below hb hHeld.1),(pw_cell_below hb hHeld.2.1),(pw_cell_below hb hHeld.2.2.1),(pw_cell_below hb hHeld.2.2.2.1),(below_step hHeld.2.2.2.2 hb)⟩ (fun hHeld=>?_)
 clear hK K
 refine pure_ (i:=6) (N:=some 14) (v:=?_) (a':=?_) #[Y,Y,Y,Y,Y,Y,Y,X,X,X,X,X,X,X] rfl rfl (by kernel_rfl) (fun _ _ _ h=>h) (Or.inl ⟨by rfl,?_⟩) ?_ ?_
 rotate_left
 ·intro w'
  go_simp
  with_reducible rfl
 rotate_left
 ·simp only [Act.put,zp1,zp2,zp3,i64_w,i32_w]
  rfl
 refine pure_ (i:=7) (N:=some 15) (v:=?_) (a':=?_) #[Y,Y,Y,Y,Y,Y,Y,Y,X,X,X,X,X,X] rfl rfl (by kernel_rfl) (fun _ _ _ h=>h) (Or.inl ⟨by rfl,?_⟩) ?_ ?_
 rotate_left
 ·intro w'
  go_simp
  with_reducible rfl
 rotate_left
 ·simp only [Act.put,zp1,zp2,zp3,i64_w,i32_w]
  rfl
 refine pure_ (i:=8) (N:=some 16) (v:=?_) (a':=?_) #[Y,Y,Y,Y,Y,Y,Y,Y,Y,X,X,X,X,X] rfl rfl (by kernel_rfl) (fun _ _ _ h=>h) (Or.inl ⟨by rfl,?_⟩) ?_ ?_
 rotate_left
 ·intro w'
  go_simp
  with_reducible rfl
 rotate_left
 ·simp only [Act.put,zp1,zp2,zp3,i64_w,i32_w]
  rfl
 refine pure_ (i:=9) (N:=some 17) (v:=undef) (a':=?_) #[Y,Y,Y,Y,Y,Y,Y,Y,Y,Y,X,X,X,X] rfl rfl (by kernel_rfl) (fun _ _ _ h=>h) (Or.inr ⟨by rfl,rfl⟩) ?_ ?_
 rotate_left
 ·simp only [Act.put,zp1,zp2,zp3,i64_w,i32_w]
  rfl
 refine pure_ (i:=10) (N:=some 18) (v:=undef) (a':=?_) #[Y,Y,Y,Y,Y,Y,Y,Y,Y,Y,Y,X,X,X] rfl rfl (by kernel_rfl) (fun _ _ _ h=>h) (Or.inr ⟨by rfl,rfl⟩) ?_ ?_
 rotate_left
 ·simp only [Act.put,zp1,zp2,zp3,i64_w,i32_w]
  rfl
 refine pure_ (i:=11) (N:=some 19) (v:=undef) (a':=?_) #[Y,Y,Y,Y,Y,Y,Y,Y,Y,Y,Y,Y,X,X] rfl rfl (by kernel_rfl) (fun _ _ _ h=>h) (Or.inr ⟨by rfl,rfl⟩) ?_ ?_
 rotate_left
 ·simp only [Act.put,zp1,zp2,zp3,i64_w,i32_w]
  rfl
 refine pure_ (i:=12) (N:=some 20) (v:=?_) (a':=?_) #[Y,Y,Y,Y,Y,Y,Y,Y,Y,Y,Y,Y,Y,X] rfl rfl (by kernel_rfl) (fun _ _ _ h=>h) (Or.inl ⟨by rfl,?_⟩) ?_ ?_
 rotate_left
 ·intro w'
  go_simp
  with_reducible rfl
 rotate_left
 ·simp only [Act.put,zp1,zp2,zp3,i64_w,i32_w]
  rfl
 refine pure_ (i:=13) (N:=some 4) (v:=?_) (a':=?_) #[Y,Y,Y,Y,Y,Y,Y,Y,Y,Y,Y,Y,Y,Y] rfl rfl (by kernel_rfl) (fun _ _ _ h=>h) (Or.inl ⟨by rfl,?_⟩) ?_ ?_
 rotate_left
 ·intro w'
  go_simp
  with_reducible rfl
 rotate_left
 ·simp only [Act.put,zp1,zp2,zp3,i64_w,i32_w]
  rfl
 refine done_ (by kernel_rfl) ?_
 go_wp2
 go_ret
 exact ⟨rfl,hHeld.2.2.2.2⟩
set_option maxHeartbeats 8000000 in
set_option maxRecDepth 100000 in
theorem cellOk_num (n:Int) (wide:Int) (r:Bool) (w:World) (h:impl_numReckoning_ok.f n wide=some r):Calls Try.prog 92 #[.agg #[.int .i64 2,.int .i64 0,.int .i64 0,.int .i64 n],.int .i64 wide] w fun e w'=>e=.returned (.bool r)∧Below w.heap.size w w':=by
 have HB:=Aside0.mk (Below.refl w.heap.size w)
 have A:=Aside0.mk h
 clear h
 have RK:=impl_reckoningOf.calls 2 0 0 n
 rw [show rkVal 2 0 0 n=.iface 132 (.agg #[.int .i64 n]) from rfl] at RK
 go_enter Try.func92,Try.ntmps92
 go_wp2_with (first|(go_at_call 93;refine (RK _).mono ?_;rintro e w1 ⟨rfl,hb⟩;have HC:=Aside0.mk hb;clear hb))
 clear RK
 have c0:w1.cell? ⟨w.heap.size,0,none⟩=some (.int .i64 2):=(HC.out.cell (p:=⟨w.heap.size,0,none⟩) (by simp)).trans (by simp)
 have c1:w1.cell? ⟨w.heap.size,1,none⟩=some (.int .i64 0):=(HC.out.cell (p:=⟨w.heap.size,1,none⟩) (by simp)).trans (by simp)
 have c2:w1.cell? ⟨w.heap.size,2,none⟩=some (.int .i64 0):=(HC.out.cell (p:=⟨w.heap.size,2,none⟩) (by simp)).trans (by simp)
 have c3:w1.cell? ⟨w.heap.size,3,none⟩=some (.int .i64 n):=(HC.out.cell (p:=⟨w.heap.size,3,none⟩) (by simp)).trans (by simp)
 have B1:Below w.heap.size w w1:=below_step (below_alloc HB.out _) HC.out
 clear HC HB
 have mc : ∀ W : World, (method 248 132 (.agg #[.int .i64 n]) "loop.example/milldam/impl.cell").run Try.prog W = .ok (131, .agg #[.int .i64 n]) W := fun _ => by kernel_rfl
 have mo : ∀ W : World, (method 248 132 (.agg #[.int .i64 n]) "loop.example/milldam/impl.ok").run Try.prog W = .ok (133, .agg #[.int .i64 n]) W := fun _ => by kernel_rfl
 have qc:impl_numReckoning_cell.f n=some (2,0,0,n):=rfl
 refine start_ (n:=14) (S:=fun w'=>w'.cell? ⟨w.heap.size,0,none⟩=some (.int .i64 2)∧w'.cell? ⟨w.heap.size,1,none⟩=some (.int .i64 0)∧w'.cell? ⟨w.heap.size,2,none⟩=some (.int .i64 0)∧w'.cell? ⟨w.heap.size,3,none⟩=some (.int .i64 n)∧Below w.heap.size w w') (ds:=[]) #[X,X,X,X,X,X,X,X,X,X,X,X,X,X] (by kernel_rfl) rfl rfl ⟨c0,c1,c2,c3,(below_drew B1)⟩ (fun hHeld=>?_)
 refine pure_ (i:=0) (N:=some 8) (v:=?_) (a':=?_) #[Y,X,X,X,X,X,X,X,X,X,X,X,X,X] rfl rfl (by kernel_rfl) (fun _ _ _ h=>h) (Or.inl ⟨by rfl,?_⟩) ?_ ?_
 rotate_left
 ·intro w'
  go_simp
  with_reducible rfl
 rotate_left
 ·simp only [Act.put,zp1,zp2,zp3,i64_w,i32_w]
  rfl
 refine pure_ (i:=1) (N:=some 9) (v:=?_) (a':=?_) #[Y,Y,X,X,X,X,X,X,X,X,X,X,X,X] rfl rfl (by kernel_rfl) (fun _ _ _ h=>h) (Or.inl ⟨by rfl,?_⟩) ?_ ?_
 rotate_left
 ·intro w'
  go_simp
  with_reducible rfl
 rotate_left
 ·simp only [Act.put,zp1,zp2,zp3,i64_w,i32_w]
  rfl
 refine pure_ (i:=2) (N:=some 10) (v:=?_) (a':=?_) #[Y,Y,Y,X,X,X,X,X,X,X,X,X,X,X] rfl rfl (by kernel_rfl) (fun _ _ _ h=>h) (Or.inl ⟨by rfl,?_⟩) ?_ ?_
 rotate_left
 ·intro w'
  go_simp
  with_reducible rfl
 rotate_left
 ·simp only [Act.put,zp1,zp2,zp3,i64_w,i32_w]
  rfl
 refine pure_ (i:=3) (N:=some 11) (v:=?_) (a':=?_) #[Y,Y,Y,Y,X,X,X,X,X,X,X,X,X,X] rfl rfl (by kernel_rfl) (fun _ _ _ h=>h) (Or.inl ⟨by rfl,?_⟩) ?_ ?_
 rotate_left
 ·intro w'
  go_simp
  with_reducible rfl
 rotate_left
 ·simp only [Act.put,zp1,zp2,zp3,i64_w,i32_w]
  rfl
 refine take_ (i:=5) (N:=some 13) (v:=?_) (a':=?_) #[Y,Y,Y,Y,X,Y,X,X,X,X,X,X,X,X] rfl rfl (by kernel_rfl) (fun _ _ _ h=>h) (Or.inl ⟨by rfl,?_⟩) hHeld ?_ ?_
 rotate_left
 ·rintro w' ⟨s0,s1,s2,s3,s4⟩
  go_simp
  with_reducible rfl
 rotate_left
 ·simp only [Act.put,zp1,zp2,zp3,i64_w,i32_w]
  rfl
 refine one_ (i:=4) (N:=some 12) #[Y,Y,Y,Y,Y,Y,X,X,X,X,X,X,X,X] rfl rfl (by kernel_rfl) (by decide) (fun K hK=>?_)
 rw [if_pos (by rfl)]
 go_wp2_with (first|(go_at_call 131;refine (impl_numReckoning_cell.calls n 2 0 0 n _ qc).mono ?_;rintro e w' ⟨rfl,hb⟩))
 refine hK.out _ _ ⟨(pw_cell_below hb hHeld.1),(pw_cell_below hb hHeld.2.1),(pw_cell_below hb hHeld.2.2.1),(pw_cell_below hb hHeld.2.2.2.1),(below_step hHeld.2.2.2.2 hb)⟩ (fun hHeld=>?_)
 clear hK K
 refine pure_ (i:=6) (N:=some 14) (v:=?_) (a':=?_) #[Y,Y,Y,Y,Y,Y,Y,X,X,X,X,X,X,X] rfl rfl (by kernel_rfl) (fun _ _ _ h=>h) (Or.inl ⟨by rfl,?_⟩) ?_ ?_
 rotate_left
 ·intro w'
  go_simp
  with_reducible rfl
 rotate_left
 ·simp only [Act.put,zp1,zp2,zp3,i64_w,i32_w]
  rfl
 refine pure_ (i:=7) (N:=some 15) (v:=?_) (a':=?_) #[Y,Y,Y,Y,Y,Y,Y,Y,X,X,X,X,X,X] rfl rfl (by kernel_rfl) (fun _ _ _ h=>h) (Or.inl ⟨by rfl,?_⟩) ?_ ?_
 rotate_left
 ·intro w'
  go_simp
  with_reducible rfl
 rotate_left
 ·simp only [Act.put,zp1,zp2,zp3,i64_w,i32_w]
  rfl
 refine pure_ (i:=8) (N:=some 16) (v:=?_) (a':=?_) #[Y,Y,Y,Y,Y,Y,Y,Y,Y,X,X,X,X,X] rfl rfl (by kernel_rfl) (fun _ _ _ h=>h) (Or.inl ⟨by rfl,?_⟩) ?_ ?_
 rotate_left
 ·intro w'
  go_simp
  with_reducible rfl
 rotate_left
 ·simp only [Act.put,zp1,zp2,zp3,i64_w,i32_w]
  rfl
 refine pure_ (i:=9) (N:=some 17) (v:=?_) (a':=?_) #[Y,Y,Y,Y,Y,Y,Y,Y,Y,Y,X,X,X,X] rfl rfl (by kernel_rfl) (fun _ _ _ h=>h) (Or.inl ⟨by rfl,?_⟩) ?_ ?_
 rotate_left
 ·intro w'
  go_simp
  with_reducible rfl
 rotate_left
 ·simp only [Act.put,zp1,zp2,zp3,i64_w,i32_w]
  rfl
 refine pure_ (i:=10) (N:=some 18) (v:=?_) (a':=?_) #[Y,Y,Y,Y,Y,Y,Y,Y,Y,Y,Y,X,X,X] rfl rfl (by kernel_rfl) (fun _ _ _ h=>h) (Or.inl ⟨by rfl,?_⟩) ?_ ?_
 rotate_left
 ·intro w'
  go_simp
  with_reducible rfl
 rotate_left
 ·simp only [Act.put,zp1,zp2,zp3,i64_w,i32_w]
  rfl
 refine one_ (i:=11) (N:=some 19) #[Y,Y,Y,Y,Y,Y,Y,Y,Y,Y,Y,Y,X,X] rfl rfl (by kernel_rfl) (by decide) (fun K hK=>?_)
 rw [if_pos (by rfl)]
 go_wp2_with (first|(go_at_call 133;refine (impl_numReckoning_ok.calls n wide r _ A.out).mono ?_;rintro e w' ⟨rfl,hb⟩))
 refine hK.out _ _ ⟨(pw_cell_below hb hHeld.1),(pw_cell_below hb hHeld.2.1),(pw_cell_below hb hHeld.2.2.1),(pw_cell_below hb hHeld.2.2.2.1),(below_step hHeld.2.2.2.2 hb)⟩ (fun hHeld=>?_)
 clear hK K
 refine pure_ (i:=12) (N:=some 20) (v:=?_) (a':=?_) #[Y,Y,Y,Y,Y,Y,Y,Y,Y,Y,Y,Y,Y,X] rfl rfl (by kernel_rfl) (fun _ _ _ h=>h) (Or.inl ⟨by rfl,?_⟩) ?_ ?_
 rotate_left
 ·intro w'
  go_simp
  with_reducible rfl
 rotate_left
 ·simp only [Act.put,zp1,zp2,zp3,i64_w,i32_w]
  rfl
 refine pure_ (i:=13) (N:=some 4) (v:=?_) (a':=?_) #[Y,Y,Y,Y,Y,Y,Y,Y,Y,Y,Y,Y,Y,Y] rfl rfl (by kernel_rfl) (fun _ _ _ h=>h) (Or.inl ⟨by rfl,?_⟩) ?_ ?_
 rotate_left
 ·intro w'
  go_simp
  with_reducible rfl
 rotate_left
 ·simp only [Act.put,zp1,zp2,zp3,i64_w,i32_w]
  rfl
 refine done_ (by kernel_rfl) ?_
 go_wp2
 go_ret
 exact ⟨rfl,hHeld.2.2.2.2⟩
set_option maxHeartbeats 8000000 in
set_option maxRecDepth 100000 in
theorem cellOk_num_a (a b n:Int) (wide:Int) (w:World) (ha:((0:Int) == a)=false):Calls Try.prog 92 #[.agg #[.int .i64 2,.int .i64 a,.int .i64 b,.int .i64 n],.int .i64 wide] w fun e w'=>e=.returned (.bool false)∧Below w.heap.size w w':=by
 have HB:=Aside0.mk (Below.refl w.heap.size w)
 have RK:=impl_reckoningOf.calls 2 a b n
 rw [show rkVal 2 a b n=.iface 132 (.agg #[.int .i64 n]) from rfl] at RK
 go_enter Try.func92,Try.ntmps92
 go_wp2_with (first|(go_at_call 93;refine (RK _).mono ?_;rintro e w1 ⟨rfl,hb⟩;have HC:=Aside0.mk hb;clear hb))
 clear RK
 have c0:w1.cell? ⟨w.heap.size,0,none⟩=some (.int .i64 2):=(HC.out.cell (p:=⟨w.heap.size,0,none⟩) (by simp)).trans (by simp)
 have c1:w1.cell? ⟨w.heap.size,1,none⟩=some (.int .i64 a):=(HC.out.cell (p:=⟨w.heap.size,1,none⟩) (by simp)).trans (by simp)
 have c2:w1.cell? ⟨w.heap.size,2,none⟩=some (.int .i64 b):=(HC.out.cell (p:=⟨w.heap.size,2,none⟩) (by simp)).trans (by simp)
 have c3:w1.cell? ⟨w.heap.size,3,none⟩=some (.int .i64 n):=(HC.out.cell (p:=⟨w.heap.size,3,none⟩) (by simp)).trans (by simp)
 have B1:Below w.heap.size w w1:=below_step (below_alloc HB.out _) HC.out
 clear HC HB
 have mc : ∀ W : World, (method 248 132 (.agg #[.int .i64 n]) "loop.example/milldam/impl.cell").run Try.prog W = .ok (131, .agg #[.int .i64 n]) W := fun _ => by kernel_rfl
 have mo : ∀ W : World, (method 248 132 (.agg #[.int .i64 n]) "loop.example/milldam/impl.ok").run Try.prog W = .ok (133, .agg #[.int .i64 n]) W := fun _ => by kernel_rfl
 have qc:impl_numReckoning_cell.f n=some (2,0,0,n):=rfl
 refine start_ (n:=14) (S:=fun w'=>w'.cell? ⟨w.heap.size,0,none⟩=some (.int .i64 2)∧w'.cell? ⟨w.heap.size,1,none⟩=some (.int .i64 a)∧w'.cell? ⟨w.heap.size,2,none⟩=some (.int .i64 b)∧w'.cell? ⟨w.heap.size,3,none⟩=some (.int .i64 n)∧Below w.heap.size w w') (ds:=[]) #[X,X,X,X,X,X,X,X,X,X,X,X,X,X] (by kernel_rfl) rfl rfl ⟨c0,c1,c2,c3,(below_drew B1)⟩ (fun hHeld=>?_)
 refine pure_ (i:=0) (N:=some 8) (v:=?_) (a':=?_) #[Y,X,X,X,X,X,X,X,X,X,X,X,X,X] rfl rfl (by kernel_rfl) (fun _ _ _ h=>h) (Or.inl ⟨by rfl,?_⟩) ?_ ?_
 rotate_left
 ·intro w'
  go_simp
  with_reducible rfl
 rotate_left
 ·simp only [Act.put,zp1,zp2,zp3,i64_w,i32_w]
  rfl
 refine pure_ (i:=1) (N:=some 9) (v:=?_) (a':=?_) #[Y,Y,X,X,X,X,X,X,X,X,X,X,X,X] rfl rfl (by kernel_rfl) (fun _ _ _ h=>h) (Or.inl ⟨by rfl,?_⟩) ?_ ?_
 rotate_left
 ·intro w'
  go_simp
  with_reducible rfl
 rotate_left
 ·simp only [Act.put,zp1,zp2,zp3,i64_w,i32_w]
  rfl
 refine pure_ (i:=2) (N:=some 10) (v:=?_) (a':=?_) #[Y,Y,Y,X,X,X,X,X,X,X,X,X,X,X] rfl rfl (by kernel_rfl) (fun _ _ _ h=>h) (Or.inl ⟨by rfl,?_⟩) ?_ ?_
 rotate_left
 ·intro w'
  go_simp
  with_reducible rfl
 rotate_left
 ·simp only [Act.put,zp1,zp2,zp3,i64_w,i32_w]
  rfl
 refine pure_ (i:=3) (N:=some 11) (v:=?_) (a':=?_) #[Y,Y,Y,Y,X,X,X,X,X,X,X,X,X,X] rfl rfl (by kernel_rfl) (fun _ _ _ h=>h) (Or.inl ⟨by rfl,?_⟩) ?_ ?_
 rotate_left
 ·intro w'
  go_simp
  with_reducible rfl
 rotate_left
 ·simp only [Act.put,zp1,zp2,zp3,i64_w,i32_w]
  rfl
 refine take_ (i:=5) (N:=some 13) (v:=?_) (a':=?_) #[Y,Y,Y,Y,X,Y,X,X,X,X,X,X,X,X] rfl rfl (by kernel_rfl) (fun _ _ _ h=>h) (Or.inl ⟨by rfl,?_⟩) hHeld ?_ ?_
 rotate_left
 ·rintro w' ⟨s0,s1,s2,s3,s4⟩
  go_simp
  with_reducible rfl
 rotate_left
 ·simp only [Act.put,zp1,zp2,zp3,i64_w,i32_w]
  rfl
 refine one_ (i:=4) (N:=some 12) #[Y,Y,Y,Y,Y,Y,X,X,X,X,X,X,X,X] rfl rfl (by kernel_rfl) (by decide) (fun K hK=>?_)
 rw [if_pos (by rfl)]
 go_wp2_with (first|(go_at_call 131;refine (impl_numReckoning_cell.calls n 2 0 0 n _ qc).mono ?_;rintro e w' ⟨rfl,hb⟩))
 refine hK.out _ _ ⟨(pw_cell_below hb hHeld.1),(pw_cell_below hb hHeld.2.1),(pw_cell_below hb hHeld.2.2.1),(pw_cell_below hb hHeld.2.2.2.1),(below_step hHeld.2.2.2.2 hb)⟩ (fun hHeld=>?_)
 clear hK K
 refine pure_ (i:=6) (N:=some 14) (v:=?_) (a':=?_) #[Y,Y,Y,Y,Y,Y,Y,X,X,X,X,X,X,X] rfl rfl (by kernel_rfl) (fun _ _ _ h=>h) (Or.inl ⟨by rfl,?_⟩) ?_ ?_
 rotate_left
 ·intro w'
  go_simp
  with_reducible rfl
 rotate_left
 ·simp only [Act.put,zp1,zp2,zp3,i64_w,i32_w]
  rfl
 refine pure_ (i:=7) (N:=some 15) (v:=?_) (a':=?_) #[Y,Y,Y,Y,Y,Y,Y,Y,X,X,X,X,X,X] rfl rfl (by kernel_rfl) (fun _ _ _ h=>h) (Or.inl ⟨by rfl,?_⟩) ?_ ?_
 rotate_left
 ·intro w'
  go_simp
  with_reducible rfl
 rotate_left
 ·simp only [Act.put,zp1,zp2,zp3,i64_w,i32_w]
  rfl
 refine pure_ (i:=8) (N:=some 16) (v:=?_) (a':=?_) #[Y,Y,Y,Y,Y,Y,Y,Y,Y,X,X,X,X,X] rfl rfl (by kernel_rfl) (fun _ _ _ h=>h) (Or.inl ⟨by rfl,?_⟩) ?_ ?_
 rotate_left
 ·intro w'
  go_simp
  with_reducible rfl
 rotate_left
 ·simp only [Act.put,zp1,zp2,zp3,i64_w,i32_w]
  rfl
 refine pure_ (i:=9) (N:=some 17) (v:=undef) (a':=?_) #[Y,Y,Y,Y,Y,Y,Y,Y,Y,Y,X,X,X,X] rfl rfl (by kernel_rfl) (fun _ _ _ h=>h) (Or.inr ⟨by rfl,rfl⟩) ?_ ?_
 rotate_left
 ·simp only [Act.put,zp1,zp2,zp3,i64_w,i32_w]
  rfl
 refine pure_ (i:=10) (N:=some 18) (v:=undef) (a':=?_) #[Y,Y,Y,Y,Y,Y,Y,Y,Y,Y,Y,X,X,X] rfl rfl (by kernel_rfl) (fun _ _ _ h=>h) (Or.inr ⟨by rfl,rfl⟩) ?_ ?_
 rotate_left
 ·simp only [Act.put,zp1,zp2,zp3,i64_w,i32_w]
  rfl
 refine pure_ (i:=11) (N:=some 19) (v:=undef) (a':=?_) #[Y,Y,Y,Y,Y,Y,Y,Y,Y,Y,Y,Y,X,X] rfl rfl (by kernel_rfl) (fun _ _ _ h=>h) (Or.inr ⟨by rfl,rfl⟩) ?_ ?_
 rotate_left
 ·simp only [Act.put,zp1,zp2,zp3,i64_w,i32_w]
  rfl
 refine pure_ (i:=12) (N:=some 20) (v:=?_) (a':=?_) #[Y,Y,Y,Y,Y,Y,Y,Y,Y,Y,Y,Y,Y,X] rfl rfl (by kernel_rfl) (fun _ _ _ h=>h) (Or.inl ⟨by rfl,?_⟩) ?_ ?_
 rotate_left
 ·intro w'
  go_simp
  with_reducible rfl
 rotate_left
 ·simp only [Act.put,zp1,zp2,zp3,i64_w,i32_w]
  rfl
 refine pure_ (i:=13) (N:=some 4) (v:=?_) (a':=?_) #[Y,Y,Y,Y,Y,Y,Y,Y,Y,Y,Y,Y,Y,Y] rfl rfl (by kernel_rfl) (fun _ _ _ h=>h) (Or.inl ⟨by rfl,?_⟩) ?_ ?_
 rotate_left
 ·intro w'
  go_simp
  with_reducible rfl
 rotate_left
 ·simp only [Act.put,zp1,zp2,zp3,i64_w,i32_w]
  rfl
 refine done_ (by kernel_rfl) ?_
 go_wp2
 go_ret
 exact ⟨rfl,hHeld.2.2.2.2⟩
set_option maxHeartbeats 8000000 in
set_option maxRecDepth 100000 in
theorem cellOk_num_b (b n:Int) (wide:Int) (w:World) (hb:((0:Int) == b)=false):Calls Try.prog 92 #[.agg #[.int .i64 2,.int .i64 0,.int .i64 b,.int .i64 n],.int .i64 wide] w fun e w'=>e=.returned (.bool false)∧Below w.heap.size w w':=by
 have HB:=Aside0.mk (Below.refl w.heap.size w)
 have RK:=impl_reckoningOf.calls 2 0 b n
 rw [show rkVal 2 0 b n=.iface 132 (.agg #[.int .i64 n]) from rfl] at RK
 go_enter Try.func92,Try.ntmps92
 go_wp2_with (first|(go_at_call 93;refine (RK _).mono ?_;rintro e w1 ⟨rfl,hb⟩;have HC:=Aside0.mk hb;clear hb))
 clear RK
 have c0:w1.cell? ⟨w.heap.size,0,none⟩=some (.int .i64 2):=(HC.out.cell (p:=⟨w.heap.size,0,none⟩) (by simp)).trans (by simp)
 have c1:w1.cell? ⟨w.heap.size,1,none⟩=some (.int .i64 0):=(HC.out.cell (p:=⟨w.heap.size,1,none⟩) (by simp)).trans (by simp)
 have c2:w1.cell? ⟨w.heap.size,2,none⟩=some (.int .i64 b):=(HC.out.cell (p:=⟨w.heap.size,2,none⟩) (by simp)).trans (by simp)
 have c3:w1.cell? ⟨w.heap.size,3,none⟩=some (.int .i64 n):=(HC.out.cell (p:=⟨w.heap.size,3,none⟩) (by simp)).trans (by simp)
 have B1:Below w.heap.size w w1:=below_step (below_alloc HB.out _) HC.out
 clear HC HB
 have mc : ∀ W : World, (method 248 132 (.agg #[.int .i64 n]) "loop.example/milldam/impl.cell").run Try.prog W = .ok (131, .agg #[.int .i64 n]) W := fun _ => by kernel_rfl
 have mo : ∀ W : World, (method 248 132 (.agg #[.int .i64 n]) "loop.example/milldam/impl.ok").run Try.prog W = .ok (133, .agg #[.int .i64 n]) W := fun _ => by kernel_rfl
 have qc:impl_numReckoning_cell.f n=some (2,0,0,n):=rfl
 refine start_ (n:=14) (S:=fun w'=>w'.cell? ⟨w.heap.size,0,none⟩=some (.int .i64 2)∧w'.cell? ⟨w.heap.size,1,none⟩=some (.int .i64 0)∧w'.cell? ⟨w.heap.size,2,none⟩=some (.int .i64 b)∧w'.cell? ⟨w.heap.size,3,none⟩=some (.int .i64 n)∧Below w.heap.size w w') (ds:=[]) #[X,X,X,X,X,X,X,X,X,X,X,X,X,X] (by kernel_rfl) rfl rfl ⟨c0,c1,c2,c3,(below_drew B1)⟩ (fun hHeld=>?_)
 refine pure_ (i:=0) (N:=some 8) (v:=?_) (a':=?_) #[Y,X,X,X,X,X,X,X,X,X,X,X,X,X] rfl rfl (by kernel_rfl) (fun _ _ _ h=>h) (Or.inl ⟨by rfl,?_⟩) ?_ ?_
 rotate_left
 ·intro w'
  go_simp
  with_reducible rfl
 rotate_left
 ·simp only [Act.put,zp1,zp2,zp3,i64_w,i32_w]
  rfl
 refine pure_ (i:=1) (N:=some 9) (v:=?_) (a':=?_) #[Y,Y,X,X,X,X,X,X,X,X,X,X,X,X] rfl rfl (by kernel_rfl) (fun _ _ _ h=>h) (Or.inl ⟨by rfl,?_⟩) ?_ ?_
 rotate_left
 ·intro w'
  go_simp
  with_reducible rfl
 rotate_left
 ·simp only [Act.put,zp1,zp2,zp3,i64_w,i32_w]
  rfl
 refine pure_ (i:=2) (N:=some 10) (v:=?_) (a':=?_) #[Y,Y,Y,X,X,X,X,X,X,X,X,X,X,X] rfl rfl (by kernel_rfl) (fun _ _ _ h=>h) (Or.inl ⟨by rfl,?_⟩) ?_ ?_
 rotate_left
 ·intro w'
  go_simp
  with_reducible rfl
 rotate_left
 ·simp only [Act.put,zp1,zp2,zp3,i64_w,i32_w]
  rfl
 refine pure_ (i:=3) (N:=some 11) (v:=?_) (a':=?_) #[Y,Y,Y,Y,X,X,X,X,X,X,X,X,X,X] rfl rfl (by kernel_rfl) (fun _ _ _ h=>h) (Or.inl ⟨by rfl,?_⟩) ?_ ?_
 rotate_left
 ·intro w'
  go_simp
  with_reducible rfl
 rotate_left
 ·simp only [Act.put,zp1,zp2,zp3,i64_w,i32_w]
  rfl
 refine take_ (i:=5) (N:=some 13) (v:=?_) (a':=?_) #[Y,Y,Y,Y,X,Y,X,X,X,X,X,X,X,X] rfl rfl (by kernel_rfl) (fun _ _ _ h=>h) (Or.inl ⟨by rfl,?_⟩) hHeld ?_ ?_
 rotate_left
 ·rintro w' ⟨s0,s1,s2,s3,s4⟩
  go_simp
  with_reducible rfl
 rotate_left
 ·simp only [Act.put,zp1,zp2,zp3,i64_w,i32_w]
  rfl
 refine one_ (i:=4) (N:=some 12) #[Y,Y,Y,Y,Y,Y,X,X,X,X,X,X,X,X] rfl rfl (by kernel_rfl) (by decide) (fun K hK=>?_)
 rw [if_pos (by rfl)]
 go_wp2_with (first|(go_at_call 131;refine (impl_numReckoning_cell.calls n 2 0 0 n _ qc).mono ?_;rintro e w' ⟨rfl,hb⟩))
 refine hK.out _ _ ⟨(pw_cell_below hb hHeld.1),(pw_cell_below hb hHeld.2.1),(pw_cell_below hb hHeld.2.2.1),(pw_cell_below hb hHeld.2.2.2.1),(below_step hHeld.2.2.2.2 hb)⟩ (fun hHeld=>?_)
 clear hK K
 refine pure_ (i:=6) (N:=some 14) (v:=?_) (a':=?_) #[Y,Y,Y,Y,Y,Y,Y,X,X,X,X,X,X,X] rfl rfl (by kernel_rfl) (fun _ _ _ h=>h) (Or.inl ⟨by rfl,?_⟩) ?_ ?_
 rotate_left
 ·intro w'
  go_simp
  with_reducible rfl
 rotate_left
 ·simp only [Act.put,zp1,zp2,zp3,i64_w,i32_w]
  rfl
 refine pure_ (i:=7) (N:=some 15) (v:=?_) (a':=?_) #[Y,Y,Y,Y,Y,Y,Y,Y,X,X,X,X,X,X] rfl rfl (by kernel_rfl) (fun _ _ _ h=>h) (Or.inl ⟨by rfl,?_⟩) ?_ ?_
 rotate_left
 ·intro w'
  go_simp
  with_reducible rfl
 rotate_left
 ·simp only [Act.put,zp1,zp2,zp3,i64_w,i32_w]
  rfl
 refine pure_ (i:=8) (N:=some 16) (v:=?_) (a':=?_) #[Y,Y,Y,Y,Y,Y,Y,Y,Y,X,X,X,X,X] rfl rfl (by kernel_rfl) (fun _ _ _ h=>h) (Or.inl ⟨by rfl,?_⟩) ?_ ?_
 rotate_left
 ·intro w'
  go_simp
  with_reducible rfl
 rotate_left
 ·simp only [Act.put,zp1,zp2,zp3,i64_w,i32_w]
  rfl
 refine pure_ (i:=9) (N:=some 17) (v:=undef) (a':=?_) #[Y,Y,Y,Y,Y,Y,Y,Y,Y,Y,X,X,X,X] rfl rfl (by kernel_rfl) (fun _ _ _ h=>h) (Or.inr ⟨by rfl,rfl⟩) ?_ ?_
 rotate_left
 ·simp only [Act.put,zp1,zp2,zp3,i64_w,i32_w]
  rfl
 refine pure_ (i:=10) (N:=some 18) (v:=undef) (a':=?_) #[Y,Y,Y,Y,Y,Y,Y,Y,Y,Y,Y,X,X,X] rfl rfl (by kernel_rfl) (fun _ _ _ h=>h) (Or.inr ⟨by rfl,rfl⟩) ?_ ?_
 rotate_left
 ·simp only [Act.put,zp1,zp2,zp3,i64_w,i32_w]
  rfl
 refine pure_ (i:=11) (N:=some 19) (v:=undef) (a':=?_) #[Y,Y,Y,Y,Y,Y,Y,Y,Y,Y,Y,Y,X,X] rfl rfl (by kernel_rfl) (fun _ _ _ h=>h) (Or.inr ⟨by rfl,rfl⟩) ?_ ?_
 rotate_left
 ·simp only [Act.put,zp1,zp2,zp3,i64_w,i32_w]
  rfl
 refine pure_ (i:=12) (N:=some 20) (v:=?_) (a':=?_) #[Y,Y,Y,Y,Y,Y,Y,Y,Y,Y,Y,Y,Y,X] rfl rfl (by kernel_rfl) (fun _ _ _ h=>h) (Or.inl ⟨by rfl,?_⟩) ?_ ?_
 rotate_left
 ·intro w'
  go_simp
  with_reducible rfl
 rotate_left
 ·simp only [Act.put,zp1,zp2,zp3,i64_w,i32_w]
  rfl
 refine pure_ (i:=13) (N:=some 4) (v:=?_) (a':=?_) #[Y,Y,Y,Y,Y,Y,Y,Y,Y,Y,Y,Y,Y,Y] rfl rfl (by kernel_rfl) (fun _ _ _ h=>h) (Or.inl ⟨by rfl,?_⟩) ?_ ?_
 rotate_left
 ·intro w'
  go_simp
  with_reducible rfl
 rotate_left
 ·simp only [Act.put,zp1,zp2,zp3,i64_w,i32_w]
  rfl
 refine done_ (by kernel_rfl) ?_
 go_wp2
 go_ret
 exact ⟨rfl,hHeld.2.2.2.2⟩
set_option maxHeartbeats 8000000 in
set_option maxRecDepth 100000 in
theorem cellOk_sum (a b:Int) (wide:Int) (r:Bool) (w:World) (h:impl_sumReckoning_ok.f a b wide=some r):Calls Try.prog 92 #[.agg #[.int .i64 3,.int .i64 a,.int .i64 b,.int .i64 0],.int .i64 wide] w fun e w'=>e=.returned (.bool r)∧Below w.heap.size w w':=by
 have HB:=Aside0.mk (Below.refl w.heap.size w)
 have A:=Aside0.mk h
 clear h
 have RK:=impl_reckoningOf.calls 3 a b 0
 rw [show rkVal 3 a b 0=.iface 134 (.agg #[.int .i64 a,.int .i64 b]) from rfl] at RK
 go_enter Try.func92,Try.ntmps92
 go_wp2_with (first|(go_at_call 93;refine (RK _).mono ?_;rintro e w1 ⟨rfl,hb⟩;have HC:=Aside0.mk hb;clear hb))
 clear RK
 have c0:w1.cell? ⟨w.heap.size,0,none⟩=some (.int .i64 3):=(HC.out.cell (p:=⟨w.heap.size,0,none⟩) (by simp)).trans (by simp)
 have c1:w1.cell? ⟨w.heap.size,1,none⟩=some (.int .i64 a):=(HC.out.cell (p:=⟨w.heap.size,1,none⟩) (by simp)).trans (by simp)
 have c2:w1.cell? ⟨w.heap.size,2,none⟩=some (.int .i64 b):=(HC.out.cell (p:=⟨w.heap.size,2,none⟩) (by simp)).trans (by simp)
 have c3:w1.cell? ⟨w.heap.size,3,none⟩=some (.int .i64 0):=(HC.out.cell (p:=⟨w.heap.size,3,none⟩) (by simp)).trans (by simp)
 have B1:Below w.heap.size w w1:=below_step (below_alloc HB.out _) HC.out
 clear HC HB
 have mc : ∀ W : World, (method 248 134 (.agg #[.int .i64 a, .int .i64 b]) "loop.example/milldam/impl.cell").run Try.prog W = .ok (136, .agg #[.int .i64 a, .int .i64 b]) W := fun _ => by kernel_rfl
 have mo : ∀ W : World, (method 248 134 (.agg #[.int .i64 a, .int .i64 b]) "loop.example/milldam/impl.ok").run Try.prog W = .ok (138, .agg #[.int .i64 a, .int .i64 b]) W := fun _ => by kernel_rfl
 have qc:impl_sumReckoning_cell.f a b=some (3,a,b,0):=rfl
 refine start_ (n:=14) (S:=fun w'=>w'.cell? ⟨w.heap.size,0,none⟩=some (.int .i64 3)∧w'.cell? ⟨w.heap.size,1,none⟩=some (.int .i64 a)∧w'.cell? ⟨w.heap.size,2,none⟩=some (.int .i64 b)∧w'.cell? ⟨w.heap.size,3,none⟩=some (.int .i64 0)∧Below w.heap.size w w') (ds:=[]) #[X,X,X,X,X,X,X,X,X,X,X,X,X,X] (by kernel_rfl) rfl rfl ⟨c0,c1,c2,c3,(below_drew B1)⟩ (fun hHeld=>?_)
 refine pure_ (i:=0) (N:=some 8) (v:=?_) (a':=?_) #[Y,X,X,X,X,X,X,X,X,X,X,X,X,X] rfl rfl (by kernel_rfl) (fun _ _ _ h=>h) (Or.inl ⟨by rfl,?_⟩) ?_ ?_
 rotate_left
 ·intro w'
  go_simp
  with_reducible rfl
 rotate_left
 ·simp only [Act.put,zp1,zp2,zp3,i64_w,i32_w]
  rfl
 refine pure_ (i:=1) (N:=some 9) (v:=?_) (a':=?_) #[Y,Y,X,X,X,X,X,X,X,X,X,X,X,X] rfl rfl (by kernel_rfl) (fun _ _ _ h=>h) (Or.inl ⟨by rfl,?_⟩) ?_ ?_
 rotate_left
 ·intro w'
  go_simp
  with_reducible rfl
 rotate_left
 ·simp only [Act.put,zp1,zp2,zp3,i64_w,i32_w]
  rfl
 refine pure_ (i:=2) (N:=some 10) (v:=?_) (a':=?_) #[Y,Y,Y,X,X,X,X,X,X,X,X,X,X,X] rfl rfl (by kernel_rfl) (fun _ _ _ h=>h) (Or.inl ⟨by rfl,?_⟩) ?_ ?_
 rotate_left
 ·intro w'
  go_simp
  with_reducible rfl
 rotate_left
 ·simp only [Act.put,zp1,zp2,zp3,i64_w,i32_w]
  rfl
 refine pure_ (i:=3) (N:=some 11) (v:=?_) (a':=?_) #[Y,Y,Y,Y,X,X,X,X,X,X,X,X,X,X] rfl rfl (by kernel_rfl) (fun _ _ _ h=>h) (Or.inl ⟨by rfl,?_⟩) ?_ ?_
 rotate_left
 ·intro w'
  go_simp
  with_reducible rfl
 rotate_left
 ·simp only [Act.put,zp1,zp2,zp3,i64_w,i32_w]
  rfl
 refine take_ (i:=5) (N:=some 13) (v:=?_) (a':=?_) #[Y,Y,Y,Y,X,Y,X,X,X,X,X,X,X,X] rfl rfl (by kernel_rfl) (fun _ _ _ h=>h) (Or.inl ⟨by rfl,?_⟩) hHeld ?_ ?_
 rotate_left
 ·rintro w' ⟨s0,s1,s2,s3,s4⟩
  go_simp
  with_reducible rfl
 rotate_left
 ·simp only [Act.put,zp1,zp2,zp3,i64_w,i32_w]
  rfl
 refine one_ (i:=4) (N:=some 12) #[Y,Y,Y,Y,Y,Y,X,X,X,X,X,X,X,X] rfl rfl (by kernel_rfl) (by decide) (fun K hK=>?_)
 rw [if_pos (by rfl)]
 go_wp2_with (first|(go_at_call 136;refine (impl_sumReckoning_cell.calls a b 3 a b 0 _ qc).mono ?_;rintro e w' ⟨rfl,hb⟩))
 refine hK.out _ _ ⟨(pw_cell_below hb hHeld.1),(pw_cell_below hb hHeld.2.1),(pw_cell_below hb hHeld.2.2.1),(pw_cell_below hb hHeld.2.2.2.1),(below_step hHeld.2.2.2.2 hb)⟩ (fun hHeld=>?_)
 clear hK K
 refine pure_ (i:=6) (N:=some 14) (v:=?_) (a':=?_) #[Y,Y,Y,Y,Y,Y,Y,X,X,X,X,X,X,X] rfl rfl (by kernel_rfl) (fun _ _ _ h=>h) (Or.inl ⟨by rfl,?_⟩) ?_ ?_
 rotate_left
 ·intro w'
  go_simp
  with_reducible rfl
 rotate_left
 ·simp only [Act.put,zp1,zp2,zp3,i64_w,i32_w]
  rfl
 refine pure_ (i:=7) (N:=some 15) (v:=?_) (a':=?_) #[Y,Y,Y,Y,Y,Y,Y,Y,X,X,X,X,X,X] rfl rfl (by kernel_rfl) (fun _ _ _ h=>h) (Or.inl ⟨by rfl,?_⟩) ?_ ?_
 rotate_left
 ·intro w'
  go_simp
  with_reducible rfl
 rotate_left
 ·simp only [Act.put,zp1,zp2,zp3,i64_w,i32_w]
  rfl
 refine pure_ (i:=8) (N:=some 16) (v:=?_) (a':=?_) #[Y,Y,Y,Y,Y,Y,Y,Y,Y,X,X,X,X,X] rfl rfl (by kernel_rfl) (fun _ _ _ h=>h) (Or.inl ⟨by rfl,?_⟩) ?_ ?_
 rotate_left
 ·intro w'
  go_simp
  with_reducible rfl
 rotate_left
 ·simp only [Act.put,zp1,zp2,zp3,i64_w,i32_w]
  rfl
 refine pure_ (i:=9) (N:=some 17) (v:=?_) (a':=?_) #[Y,Y,Y,Y,Y,Y,Y,Y,Y,Y,X,X,X,X] rfl rfl (by kernel_rfl) (fun _ _ _ h=>h) (Or.inl ⟨by rfl,?_⟩) ?_ ?_
 rotate_left
 ·intro w'
  go_simp
  with_reducible rfl
 rotate_left
 ·simp only [Act.put,zp1,zp2,zp3,i64_w,i32_w]
  rfl
 refine pure_ (i:=10) (N:=some 18) (v:=?_) (a':=?_) #[Y,Y,Y,Y,Y,Y,Y,Y,Y,Y,Y,X,X,X] rfl rfl (by kernel_rfl) (fun _ _ _ h=>h) (Or.inl ⟨by rfl,?_⟩) ?_ ?_
 rotate_left
 ·intro w'
  go_simp
  with_reducible rfl
 rotate_left
 ·simp only [Act.put,zp1,zp2,zp3,i64_w,i32_w]
  rfl
 refine one_ (i:=11) (N:=some 19) #[Y,Y,Y,Y,Y,Y,Y,Y,Y,Y,Y,Y,X,X] rfl rfl (by kernel_rfl) (by decide) (fun K hK=>?_)
 rw [if_pos (by rfl)]
 go_wp2_with (first|(go_at_call 138;refine (impl_sumReckoning_ok.calls a b wide r _ A.out).mono ?_;rintro e w' ⟨rfl,hb⟩))
 refine hK.out _ _ ⟨(pw_cell_below hb hHeld.1),(pw_cell_below hb hHeld.2.1),(pw_cell_below hb hHeld.2.2.1),(pw_cell_below hb hHeld.2.2.2.1),(below_step hHeld.2.2.2.2 hb)⟩ (fun hHeld=>?_)
 clear hK K
 refine pure_ (i:=12) (N:=some 20) (v:=?_) (a':=?_) #[Y,Y,Y,Y,Y,Y,Y,Y,Y,Y,Y,Y,Y,X] rfl rfl (by kernel_rfl) (fun _ _ _ h=>h) (Or.inl ⟨by rfl,?_⟩) ?_ ?_
 rotate_left
 ·intro w'
  go_simp
  with_reducible rfl
 rotate_left
 ·simp only [Act.put,zp1,zp2,zp3,i64_w,i32_w]
  rfl
 refine pure_ (i:=13) (N:=some 4) (v:=?_) (a':=?_) #[Y,Y,Y,Y,Y,Y,Y,Y,Y,Y,Y,Y,Y,Y] rfl rfl (by kernel_rfl) (fun _ _ _ h=>h) (Or.inl ⟨by rfl,?_⟩) ?_ ?_
 rotate_left
 ·intro w'
  go_simp
  with_reducible rfl
 rotate_left
 ·simp only [Act.put,zp1,zp2,zp3,i64_w,i32_w]
  rfl
 refine done_ (by kernel_rfl) ?_
 go_wp2
 go_ret
 exact ⟨rfl,hHeld.2.2.2.2⟩
set_option maxHeartbeats 8000000 in
set_option maxRecDepth 100000 in
theorem cellOk_sum_n (a b n:Int) (wide:Int) (w:World) (hn:((0:Int) == n)=false):Calls Try.prog 92 #[.agg #[.int .i64 3,.int .i64 a,.int .i64 b,.int .i64 n],.int .i64 wide] w fun e w'=>e=.returned (.bool false)∧Below w.heap.size w w':=by
 have HB:=Aside0.mk (Below.refl w.heap.size w)
 have RK:=impl_reckoningOf.calls 3 a b n
 rw [show rkVal 3 a b n=.iface 134 (.agg #[.int .i64 a,.int .i64 b]) from rfl] at RK
 go_enter Try.func92,Try.ntmps92
 go_wp2_with (first|(go_at_call 93;refine (RK _).mono ?_;rintro e w1 ⟨rfl,hb⟩;have HC:=Aside0.mk hb;clear hb))
 clear RK
 have c0:w1.cell? ⟨w.heap.size,0,none⟩=some (.int .i64 3):=(HC.out.cell (p:=⟨w.heap.size,0,none⟩) (by simp)).trans (by simp)
 have c1:w1.cell? ⟨w.heap.size,1,none⟩=some (.int .i64 a):=(HC.out.cell (p:=⟨w.heap.size,1,none⟩) (by simp)).trans (by simp)
 have c2:w1.cell? ⟨w.heap.size,2,none⟩=some (.int .i64 b):=(HC.out.cell (p:=⟨w.heap.size,2,none⟩) (by simp)).trans (by simp)
 have c3:w1.cell? ⟨w.heap.size,3,none⟩=some (.int .i64 n):=(HC.out.cell (p:=⟨w.heap.size,3,none⟩) (by simp)).trans (by simp)
 have B1:Below w.heap.size w w1:=below_step (below_alloc HB.out _) HC.out
 clear HC HB
 have mc : ∀ W : World, (method 248 134 (.agg #[.int .i64 a, .int .i64 b]) "loop.example/milldam/impl.cell").run Try.prog W = .ok (136, .agg #[.int .i64 a, .int .i64 b]) W := fun _ => by kernel_rfl
 have mo : ∀ W : World, (method 248 134 (.agg #[.int .i64 a, .int .i64 b]) "loop.example/milldam/impl.ok").run Try.prog W = .ok (138, .agg #[.int .i64 a, .int .i64 b]) W := fun _ => by kernel_rfl
 have qc:impl_sumReckoning_cell.f a b=some (3,a,b,0):=rfl
 refine start_ (n:=14) (S:=fun w'=>w'.cell? ⟨w.heap.size,0,none⟩=some (.int .i64 3)∧w'.cell? ⟨w.heap.size,1,none⟩=some (.int .i64 a)∧w'.cell? ⟨w.heap.size,2,none⟩=some (.int .i64 b)∧w'.cell? ⟨w.heap.size,3,none⟩=some (.int .i64 n)∧Below w.heap.size w w') (ds:=[]) #[X,X,X,X,X,X,X,X,X,X,X,X,X,X] (by kernel_rfl) rfl rfl ⟨c0,c1,c2,c3,(below_drew B1)⟩ (fun hHeld=>?_)
 refine pure_ (i:=0) (N:=some 8) (v:=?_) (a':=?_) #[Y,X,X,X,X,X,X,X,X,X,X,X,X,X] rfl rfl (by kernel_rfl) (fun _ _ _ h=>h) (Or.inl ⟨by rfl,?_⟩) ?_ ?_
 rotate_left
 ·intro w'
  go_simp
  with_reducible rfl
 rotate_left
 ·simp only [Act.put,zp1,zp2,zp3,i64_w,i32_w]
  rfl
 refine pure_ (i:=1) (N:=some 9) (v:=?_) (a':=?_) #[Y,Y,X,X,X,X,X,X,X,X,X,X,X,X] rfl rfl (by kernel_rfl) (fun _ _ _ h=>h) (Or.inl ⟨by rfl,?_⟩) ?_ ?_
 rotate_left
 ·intro w'
  go_simp
  with_reducible rfl
 rotate_left
 ·simp only [Act.put,zp1,zp2,zp3,i64_w,i32_w]
  rfl
 refine pure_ (i:=2) (N:=some 10) (v:=?_) (a':=?_) #[Y,Y,Y,X,X,X,X,X,X,X,X,X,X,X] rfl rfl (by kernel_rfl) (fun _ _ _ h=>h) (Or.inl ⟨by rfl,?_⟩) ?_ ?_
 rotate_left
 ·intro w'
  go_simp
  with_reducible rfl
 rotate_left
 ·simp only [Act.put,zp1,zp2,zp3,i64_w,i32_w]
  rfl
 refine pure_ (i:=3) (N:=some 11) (v:=?_) (a':=?_) #[Y,Y,Y,Y,X,X,X,X,X,X,X,X,X,X] rfl rfl (by kernel_rfl) (fun _ _ _ h=>h) (Or.inl ⟨by rfl,?_⟩) ?_ ?_
 rotate_left
 ·intro w'
  go_simp
  with_reducible rfl
 rotate_left
 ·simp only [Act.put,zp1,zp2,zp3,i64_w,i32_w]
  rfl
 refine take_ (i:=5) (N:=some 13) (v:=?_) (a':=?_) #[Y,Y,Y,Y,X,Y,X,X,X,X,X,X,X,X] rfl rfl (by kernel_rfl) (fun _ _ _ h=>h) (Or.inl ⟨by rfl,?_⟩) hHeld ?_ ?_
 rotate_left
 ·rintro w' ⟨s0,s1,s2,s3,s4⟩
  go_simp
  with_reducible rfl
 rotate_left
 ·simp only [Act.put,zp1,zp2,zp3,i64_w,i32_w]
  rfl
 refine one_ (i:=4) (N:=some 12) #[Y,Y,Y,Y,Y,Y,X,X,X,X,X,X,X,X] rfl rfl (by kernel_rfl) (by decide) (fun K hK=>?_)
 rw [if_pos (by rfl)]
 go_wp2_with (first|(go_at_call 136;refine (impl_sumReckoning_cell.calls a b 3 a b 0 _ qc).mono ?_;rintro e w' ⟨rfl,hb⟩))
 refine hK.out _ _ ⟨(pw_cell_below hb hHeld.1),(pw_cell_below hb hHeld.2.1),(pw_cell_below hb hHeld.2.2.1),(pw_cell_below hb hHeld.2.2.2.1),(below_step hHeld.2.2.2.2 hb)⟩ (fun hHeld=>?_)
 clear hK K
 refine pure_ (i:=6) (N:=some 14) (v:=?_) (a':=?_) #[Y,Y,Y,Y,Y,Y,Y,X,X,X,X,X,X,X] rfl rfl (by kernel_rfl) (fun _ _ _ h=>h) (Or.inl ⟨by rfl,?_⟩) ?_ ?_
 rotate_left
 ·intro w'
  go_simp
  with_reducible rfl
 rotate_left
 ·simp only [Act.put,zp1,zp2,zp3,i64_w,i32_w]
  rfl
 refine pure_ (i:=7) (N:=some 15) (v:=?_) (a':=?_) #[Y,Y,Y,Y,Y,Y,Y,Y,X,X,X,X,X,X] rfl rfl (by kernel_rfl) (fun _ _ _ h=>h) (Or.inl ⟨by rfl,?_⟩) ?_ ?_
 rotate_left
 ·intro w'
  go_simp
  with_reducible rfl
 rotate_left
 ·simp only [Act.put,zp1,zp2,zp3,i64_w,i32_w]
  rfl
 refine pure_ (i:=8) (N:=some 16) (v:=?_) (a':=?_) #[Y,Y,Y,Y,Y,Y,Y,Y,Y,X,X,X,X,X] rfl rfl (by kernel_rfl) (fun _ _ _ h=>h) (Or.inl ⟨by rfl,?_⟩) ?_ ?_
 rotate_left
 ·intro w'
  go_simp
  with_reducible rfl
 rotate_left
 ·simp only [Act.put,zp1,zp2,zp3,i64_w,i32_w]
  rfl
 refine pure_ (i:=9) (N:=some 17) (v:=undef) (a':=?_) #[Y,Y,Y,Y,Y,Y,Y,Y,Y,Y,X,X,X,X] rfl rfl (by kernel_rfl) (fun _ _ _ h=>h) (Or.inr ⟨by rfl,rfl⟩) ?_ ?_
 rotate_left
 ·simp only [Act.put,zp1,zp2,zp3,i64_w,i32_w]
  rfl
 refine pure_ (i:=10) (N:=some 18) (v:=undef) (a':=?_) #[Y,Y,Y,Y,Y,Y,Y,Y,Y,Y,Y,X,X,X] rfl rfl (by kernel_rfl) (fun _ _ _ h=>h) (Or.inr ⟨by rfl,rfl⟩) ?_ ?_
 rotate_left
 ·simp only [Act.put,zp1,zp2,zp3,i64_w,i32_w]
  rfl
 refine pure_ (i:=11) (N:=some 19) (v:=undef) (a':=?_) #[Y,Y,Y,Y,Y,Y,Y,Y,Y,Y,Y,Y,X,X] rfl rfl (by kernel_rfl) (fun _ _ _ h=>h) (Or.inr ⟨by rfl,rfl⟩) ?_ ?_
 rotate_left
 ·simp only [Act.put,zp1,zp2,zp3,i64_w,i32_w]
  rfl
 refine pure_ (i:=12) (N:=some 20) (v:=?_) (a':=?_) #[Y,Y,Y,Y,Y,Y,Y,Y,Y,Y,Y,Y,Y,X] rfl rfl (by kernel_rfl) (fun _ _ _ h=>h) (Or.inl ⟨by rfl,?_⟩) ?_ ?_
 rotate_left
 ·intro w'
  go_simp
  with_reducible rfl
 rotate_left
 ·simp only [Act.put,zp1,zp2,zp3,i64_w,i32_w]
  rfl
 refine pure_ (i:=13) (N:=some 4) (v:=?_) (a':=?_) #[Y,Y,Y,Y,Y,Y,Y,Y,Y,Y,Y,Y,Y,Y] rfl rfl (by kernel_rfl) (fun _ _ _ h=>h) (Or.inl ⟨by rfl,?_⟩) ?_ ?_
 rotate_left
 ·intro w'
  go_simp
  with_reducible rfl
 rotate_left
 ·simp only [Act.put,zp1,zp2,zp3,i64_w,i32_w]
  rfl
 refine done_ (by kernel_rfl) ?_
 go_wp2
 go_ret
 exact ⟨rfl,hHeld.2.2.2.2⟩
set_option maxHeartbeats 8000000 in
set_option maxRecDepth 100000 in
theorem cellOk_none (k a b n:Int) (wide:Int) (w:World) (h1:k≠1) (h2:k≠2) (h3:k≠3):Calls Try.prog 92 #[.agg #[.int .i64 k,.int .i64 a,.int .i64 b,.int .i64 n],.int .i64 wide] w fun e w'=>e=.returned (.bool false)∧Below w.heap.size w w':=by
 have HB:=Aside0.mk (Below.refl w.heap.size w)
 have RK:=impl_reckoningOf.calls k a b n
 unfold rkVal at RK
 rw [if_neg h1,if_neg h2,if_neg h3] at RK
 clear h1 h2 h3
 go_enter Try.func92,Try.ntmps92
 go_wp2_with (first|(go_at_call 93;refine (RK _).mono ?_;rintro e w1 ⟨rfl,hb⟩;have HC:=Aside0.mk hb;clear hb))
 clear RK
 have B1:Below w.heap.size w w1:=below_step (below_alloc HB.out _) HC.out
 clear HC HB
 refine start_ (n:=14) (S:=fun w'=>Below w.heap.size w w') (ds:=[]) #[X,X,X,X,X,X,X,X,X,X,X,X,X,X] (by kernel_rfl) rfl rfl ((below_drew B1)) (fun hHeld=>?_)
 refine pure_ (i:=0) (N:=some 8) (v:=?_) (a':=?_) #[Y,X,X,X,X,X,X,X,X,X,X,X,X,X] rfl rfl (by kernel_rfl) (fun _ _ _ h=>h) (Or.inl ⟨by rfl,?_⟩) ?_ ?_
 rotate_left
 ·intro w'
  go_simp
  with_reducible rfl
 rotate_left
 ·simp only [Act.put,zp1,zp2,zp3,i64_w,i32_w]
  rfl
 refine pure_ (i:=1) (N:=some 9) (v:=?_) (a':=?_) #[Y,Y,X,X,X,X,X,X,X,X,X,X,X,X] rfl rfl (by kernel_rfl) (fun _ _ _ h=>h) (Or.inl ⟨by rfl,?_⟩) ?_ ?_
 rotate_left
 ·intro w'
  go_simp
  with_reducible rfl
 rotate_left
 ·simp only [Act.put,zp1,zp2,zp3,i64_w,i32_w]
  rfl
 refine pure_ (i:=2) (N:=some 10) (v:=?_) (a':=?_) #[Y,Y,Y,X,X,X,X,X,X,X,X,X,X,X] rfl rfl (by kernel_rfl) (fun _ _ _ h=>h) (Or.inl ⟨by rfl,?_⟩) ?_ ?_
 rotate_left
 ·intro w'
  go_simp
  with_reducible rfl
 rotate_left
 ·simp only [Act.put,zp1,zp2,zp3,i64_w,i32_w]
  rfl
 refine pure_ (i:=3) (N:=some 11) (v:=undef) (a':=?_) #[Y,Y,Y,Y,X,X,X,X,X,X,X,X,X,X] rfl rfl (by kernel_rfl) (fun _ _ _ h=>h) (Or.inr ⟨by rfl,rfl⟩) ?_ ?_
 rotate_left
 ·simp only [Act.put,zp1,zp2,zp3,i64_w,i32_w]
  rfl
 refine pure_ (i:=4) (N:=some 12) (v:=undef) (a':=?_) #[Y,Y,Y,Y,Y,X,X,X,X,X,X,X,X,X] rfl rfl (by kernel_rfl) (fun _ _ _ h=>h) (Or.inr ⟨by rfl,rfl⟩) ?_ ?_
 rotate_left
 ·simp only [Act.put,zp1,zp2,zp3,i64_w,i32_w]
  rfl
 refine pure_ (i:=5) (N:=some 13) (v:=undef) (a':=?_) #[Y,Y,Y,Y,Y,Y,X,X,X,X,X,X,X,X] rfl rfl (by kernel_rfl) (fun _ _ _ h=>h) (Or.inr ⟨by rfl,rfl⟩) ?_ ?_
 rotate_left
 ·simp only [Act.put,zp1,zp2,zp3,i64_w,i32_w]
  rfl
 refine pure_ (i:=6) (N:=some 14) (v:=undef) (a':=?_) #[Y,Y,Y,Y,Y,Y,Y,X,X,X,X,X,X,X] rfl rfl (by kernel_rfl) (fun _ _ _ h=>h) (Or.inr ⟨by rfl,rfl⟩) ?_ ?_
 rotate_left
 ·simp only [Act.put,zp1,zp2,zp3,i64_w,i32_w]
  rfl
 refine pure_ (i:=7) (N:=some 15) (v:=?_) (a':=?_) #[Y,Y,Y,Y,Y,Y,Y,Y,X,X,X,X,X,X] rfl rfl (by kernel_rfl) (fun _ _ _ h=>h) (Or.inl ⟨by rfl,?_⟩) ?_ ?_
 rotate_left
 ·intro w'
  go_simp
  with_reducible rfl
 rotate_left
 ·simp only [Act.put,zp1,zp2,zp3,i64_w,i32_w]
  rfl
 refine pure_ (i:=8) (N:=some 16) (v:=?_) (a':=?_) #[Y,Y,Y,Y,Y,Y,Y,Y,Y,X,X,X,X,X] rfl rfl (by kernel_rfl) (fun _ _ _ h=>h) (Or.inl ⟨by rfl,?_⟩) ?_ ?_
 rotate_left
 ·intro w'
  go_simp
  with_reducible rfl
 rotate_left
 ·simp only [Act.put,zp1,zp2,zp3,i64_w,i32_w]
  rfl
 refine pure_ (i:=9) (N:=some 17) (v:=undef) (a':=?_) #[Y,Y,Y,Y,Y,Y,Y,Y,Y,Y,X,X,X,X] rfl rfl (by kernel_rfl) (fun _ _ _ h=>h) (Or.inr ⟨by rfl,rfl⟩) ?_ ?_
 rotate_left
 ·simp only [Act.put,zp1,zp2,zp3,i64_w,i32_w]
  rfl
 refine pure_ (i:=10) (N:=some 18) (v:=undef) (a':=?_) #[Y,Y,Y,Y,Y,Y,Y,Y,Y,Y,Y,X,X,X] rfl rfl (by kernel_rfl) (fun _ _ _ h=>h) (Or.inr ⟨by rfl,rfl⟩) ?_ ?_
 rotate_left
 ·simp only [Act.put,zp1,zp2,zp3,i64_w,i32_w]
  rfl
 refine pure_ (i:=11) (N:=some 19) (v:=undef) (a':=?_) #[Y,Y,Y,Y,Y,Y,Y,Y,Y,Y,Y,Y,X,X] rfl rfl (by kernel_rfl) (fun _ _ _ h=>h) (Or.inr ⟨by rfl,rfl⟩) ?_ ?_
 rotate_left
 ·simp only [Act.put,zp1,zp2,zp3,i64_w,i32_w]
  rfl
 refine pure_ (i:=12) (N:=some 20) (v:=?_) (a':=?_) #[Y,Y,Y,Y,Y,Y,Y,Y,Y,Y,Y,Y,Y,X] rfl rfl (by kernel_rfl) (fun _ _ _ h=>h) (Or.inl ⟨by rfl,?_⟩) ?_ ?_
 rotate_left
 ·intro w'
  go_simp
  with_reducible rfl
 rotate_left
 ·simp only [Act.put,zp1,zp2,zp3,i64_w,i32_w]
  rfl
 refine pure_ (i:=13) (N:=some 4) (v:=?_) (a':=?_) #[Y,Y,Y,Y,Y,Y,Y,Y,Y,Y,Y,Y,Y,Y] rfl rfl (by kernel_rfl) (fun _ _ _ h=>h) (Or.inl ⟨by rfl,?_⟩) ?_ ?_
 rotate_left
 ·intro w'
  go_simp
  with_reducible rfl
 rotate_left
 ·simp only [Act.put,zp1,zp2,zp3,i64_w,i32_w]
  rfl
 refine done_ (by kernel_rfl) ?_
 go_wp2
 go_ret
 exact ⟨rfl,hHeld⟩
set_option maxHeartbeats 8000000 in
theorem impl_CellOk.calls (a0_0:Int) (a0_1:Int) (a0_2:Int) (a0_3:Int) (a1:Int) (r:Bool) (w:World) (h:impl_CellOk.f a0_0 a0_1 a0_2 a0_3 a1=some r) :
  Calls Try.prog 92 #[.agg #[.int .i64 a0_0,.int .i64 a0_1,.int .i64 a0_2,.int .i64 a0_3],.int .i64 a1] w fun e w'=>e=.returned (.bool r)∧Below w.heap.size w w':=by
 have ne : ∀ x:Int,¬ x=0→((0:Int) == x)=false:=fun x hx=>by simpa using fun e:0=x=>hx e.symm
 unfold impl_CellOk.f at h
 by_cases h1:a0_0=1
 ·subst h1
  rw [if_pos rfl] at h
  by_cases h2:a0_2=0
  ·subst h2
   rw [if_pos rfl] at h
   by_cases h3:a0_3=0
   ·subst h3
    rw [if_pos rfl] at h
    exact cellOk_col a0_1 a1 r w h
   ·rw [if_neg h3] at h
    obtain rfl:=Option.some.inj h
    exact cellOk_col_n a0_1 a0_3 a1 w (ne _ h3)
  ·rw [if_neg h2] at h
   obtain rfl:=Option.some.inj h
   exact cellOk_col_b a0_1 a0_2 a0_3 a1 w (ne _ h2)
 rw [if_neg h1] at h
 by_cases h2:a0_0=2
 ·subst h2
  rw [if_pos rfl] at h
  by_cases h3:a0_1=0
  ·subst h3
   rw [if_pos rfl] at h
   by_cases h4:a0_2=0
   ·subst h4
    rw [if_pos rfl] at h
    exact cellOk_num a0_3 a1 r w h
   ·rw [if_neg h4] at h
    obtain rfl:=Option.some.inj h
    exact cellOk_num_b a0_2 a0_3 a1 w (ne _ h4)
  ·rw [if_neg h3] at h
   obtain rfl:=Option.some.inj h
   exact cellOk_num_a a0_1 a0_2 a0_3 a1 w (ne _ h3)
 rw [if_neg h2] at h
 by_cases h3:a0_0=3
 ·subst h3
  rw [if_pos rfl] at h
  by_cases h4:a0_3=0
  ·subst h4
   rw [if_pos rfl] at h
   exact cellOk_sum a0_1 a0_2 a1 r w h
  ·rw [if_neg h4] at h
   obtain rfl:=Option.some.inj h
   exact cellOk_sum_n a0_1 a0_2 a0_3 a1 w (ne _ h4)
 rw [if_neg h3] at h
 obtain rfl:=Option.some.inj h
 exact cellOk_none a0_0 a0_1 a0_2 a0_3 a1 w h1 h2 h3

/-! ### impl_TestOk: function 91 -/
def impl_TestOk.f (a0_0:Int) (a0_1:Bool) (a0_2:Int) (a0_3:Int) (a0_4:Int) (a0_5:Int) (a0_6:Int) (a0_7:Int) (a0_8:Int) (a0_9:Int) (a1:Int):Option (Bool):=if a0_0=1 then ((impl_CellOk.f a0_2 a0_3 a0_4 a0_5 a1).bind fun t227=>(if t227=true then ((impl_CellOk.f a0_6 a0_7 a0_8 a0_9 a1).bind fun t228=>(some t228)) else (some false))) else (if a0_0=2 then ((impl_CellOk.f a0_2 a0_3 a0_4 a0_5 a1).bind fun t229=>(if t229=true then ((impl_CellOk.f a0_6 a0_7 a0_8 a0_9 a1).bind fun t230=>(some t230)) else (some false))) else (some false))
set_option maxHeartbeats 8000000 in
set_option maxRecDepth 100000 in
theorem impl_TestOk.calls (a0_0:Int) (a0_1:Bool) (a0_2:Int) (a0_3:Int) (a0_4:Int) (a0_5:Int) (a0_6:Int) (a0_7:Int) (a0_8:Int) (a0_9:Int) (a1:Int) (r:Bool) (w:World) (h:impl_TestOk.f a0_0 a0_1 a0_2 a0_3 a0_4 a0_5 a0_6 a0_7 a0_8 a0_9 a1=some r) :
  Calls Try.prog 91 #[.agg #[.int .i64 a0_0,.bool a0_1,.int .i64 a0_2,.int .i64 a0_3,.int .i64 a0_4,.int .i64 a0_5,.int .i64 a0_6,.int .i64 a0_7,.int .i64 a0_8,.int .i64 a0_9],.int .i64 a1] w fun e w'=>e=.returned (.bool r)∧Below w.heap.size w w':=by
 have hu35:=Try.underlying35
 have hu33:=Try.underlying33
 have HB:=Aside0.mk (Below.refl w.heap.size w)
 have H:(if a0_0=1 then ((impl_CellOk.f a0_2 a0_3 a0_4 a0_5 a1).bind fun t227=>(if t227=true then ((impl_CellOk.f a0_6 a0_7 a0_8 a0_9 a1).bind fun t228=>(some t228)) else (some false))) else (if a0_0=2 then ((impl_CellOk.f a0_2 a0_3 a0_4 a0_5 a1).bind fun t229=>(if t229=true then ((impl_CellOk.f a0_6 a0_7 a0_8 a0_9 a1).bind fun t230=>(some t230)) else (some false))) else (some false)))=some r:=h
 clear h
 by_cases c3:a0_0=1
 ·rw [if_pos c3] at H
  have c3b0:(a0_0 == 1)=true:=beq_iff_eq.mpr c3
  have c3b1:(a0_0 != 1)=false:=bne_eq_false_iff_eq.mpr c3
  clear c3
  replace H:=Option.bind_eq_some_iff.mp H
  obtain ⟨t227,A40,H⟩:=H
  (try dsimp only at H)
  have A4:=Aside0.mk A40
  clear A40
  by_cases c5:t227=true
  ·subst c5
   have H1:((impl_CellOk.f a0_6 a0_7 a0_8 a0_9 a1).bind fun t228=>(some t228))=some r:=by rw [if_pos rfl] at H;exact H
   clear H
   have H:=H1
   clear H1
   replace H:=Option.bind_eq_some_iff.mp H
   obtain ⟨t228,A60,H⟩:=H
   (try dsimp only at H)
   have A6:=Aside0.mk A60
   clear A60
   obtain rfl:=Option.some.inj H
   go_enter Try.func91,Try.ntmps91
   go_wp2_with (first|((with_reducible refine gate_dst (N:=2) rfl ?_);refine box_event ?hg (N:=2) ?hd (cs:=#[.int .i64 a0_0,.bool a0_1,.int .i64 a0_2,.int .i64 a0_3,.int .i64 a0_4,.int .i64 a0_5,.int .i64 a0_6,.int .i64 a0_7,.int .i64 a0_8,.int .i64 a0_9]) (t:=35) ?hr ?_;(case hd=>rfl);(case hg=>rfl);(case hr=>first|(go_simp;done)|(go_simp;rfl));intro gb226 hg w7 hbox hb;have n0_:=Aside0.mk (below_step zhb hb);have n1_:=Aside0.mk (hbox);have n2_:=Aside0.mk ((by rw [hg];exact (below_size zhb):w.heap.size≤gb226));have n3_:=Aside0.mk ((by rw [hg];exact (below_size zhb):w.heap.size≤gb226));clear HB;have HB:=n0_;have BK226:=n1_;have GW226:=n2_;have GE226:=n3_;clear n0_ n1_ n2_ n3_;clear hb hbox hg;have hcz8_0:w7.cell? ⟨gb226,0,none⟩=some (.int .i64 a0_0):=(blk_cell BK226.out 0).trans rfl;have hcz8_1:w7.cell? ⟨gb226,1,none⟩=some (.bool a0_1):=(blk_cell BK226.out 1).trans rfl;have hcz8_2:w7.cell? ⟨gb226,2,none⟩=some (.int .i64 a0_2):=(blk_cell BK226.out 2).trans rfl;have hcz8_3:w7.cell? ⟨gb226,3,none⟩=some (.int .i64 a0_3):=(blk_cell BK226.out 3).trans rfl;have hcz8_4:w7.cell? ⟨gb226,4,none⟩=some (.int .i64 a0_4):=(blk_cell BK226.out 4).trans rfl;have hcz8_5:w7.cell? ⟨gb226,5,none⟩=some (.int .i64 a0_5):=(blk_cell BK226.out 5).trans rfl;have hcz8_6:w7.cell? ⟨gb226,6,none⟩=some (.int .i64 a0_6):=(blk_cell BK226.out 6).trans rfl;have hcz8_7:w7.cell? ⟨gb226,7,none⟩=some (.int .i64 a0_7):=(blk_cell BK226.out 7).trans rfl;have hcz8_8:w7.cell? ⟨gb226,8,none⟩=some (.int .i64 a0_8):=(blk_cell BK226.out 8).trans rfl;have hcz8_9:w7.cell? ⟨gb226,9,none⟩=some (.int .i64 a0_9):=(blk_cell BK226.out 9).trans rfl;have hfz8_0:=blk_frozen BK226.out 0;have hfz8_1:=blk_frozen BK226.out 1;have hfz8_2:=blk_frozen BK226.out 2;have hfz8_3:=blk_frozen BK226.out 3;have hfz8_4:=blk_frozen BK226.out 4;have hfz8_5:=blk_frozen BK226.out 5;have hfz8_6:=blk_frozen BK226.out 6;have hfz8_7:=blk_frozen BK226.out 7;have hfz8_8:=blk_frozen BK226.out 8;have hfz8_9:=blk_frozen BK226.out 9)|(go_at_call 92;(with_reducible refine (impl_CellOk.calls a0_2 a0_3 a0_4 a0_5 a1 true _ A4.out).mono ?_);rintro e w9 ⟨rfl,hb⟩;have n0_:=Aside0.mk (blk_below (g:=gb226) (o:=.cells #[.int .i64 a0_0,.bool a0_1,.int .i64 a0_2,.int .i64 a0_3,.int .i64 a0_4,.int .i64 a0_5,.int .i64 a0_6,.int .i64 a0_7,.int .i64 a0_8,.int .i64 a0_9] 35 (0,0)) (by (with_reducible repeat (first|refine blk_drewN ?_ _|refine blk_drew ?_|refine blk_alloc ?_ _));exact BK226.out) hb);have n1_:=Aside0.mk (below_step (by repeat (first|(with_reducible first|exact HB.out|apply below_alloc|apply pw_below_drewN|apply below_drew1|refine below_set ?_ GE226.out)|exact HB.out)) hb);clear BK226;clear HB;have BK226:=n0_;have HB:=n1_;clear n0_ n1_;(try clear hb);(try clear hb2);(try clear hk);(try clear hi);have hcz10_0:w9.cell? ⟨gb226,0,none⟩=some (.int .i64 a0_0):=(blk_cell BK226.out 0).trans rfl;have hcz10_1:w9.cell? ⟨gb226,1,none⟩=some (.bool a0_1):=(blk_cell BK226.out 1).trans rfl;have hcz10_2:w9.cell? ⟨gb226,2,none⟩=some (.int .i64 a0_2):=(blk_cell BK226.out 2).trans rfl;have hcz10_3:w9.cell? ⟨gb226,3,none⟩=some (.int .i64 a0_3):=(blk_cell BK226.out 3).trans rfl;have hcz10_4:w9.cell? ⟨gb226,4,none⟩=some (.int .i64 a0_4):=(blk_cell BK226.out 4).trans rfl;have hcz10_5:w9.cell? ⟨gb226,5,none⟩=some (.int .i64 a0_5):=(blk_cell BK226.out 5).trans rfl;have hcz10_6:w9.cell? ⟨gb226,6,none⟩=some (.int .i64 a0_6):=(blk_cell BK226.out 6).trans rfl;have hcz10_7:w9.cell? ⟨gb226,7,none⟩=some (.int .i64 a0_7):=(blk_cell BK226.out 7).trans rfl;have hcz10_8:w9.cell? ⟨gb226,8,none⟩=some (.int .i64 a0_8):=(blk_cell BK226.out 8).trans rfl;have hcz10_9:w9.cell? ⟨gb226,9,none⟩=some (.int .i64 a0_9):=(blk_cell BK226.out 9).trans rfl;have hfz10_0:=blk_frozen BK226.out 0;have hfz10_1:=blk_frozen BK226.out 1;have hfz10_2:=blk_frozen BK226.out 2;have hfz10_3:=blk_frozen BK226.out 3;have hfz10_4:=blk_frozen BK226.out 4;have hfz10_5:=blk_frozen BK226.out 5;have hfz10_6:=blk_frozen BK226.out 6;have hfz10_7:=blk_frozen BK226.out 7;have hfz10_8:=blk_frozen BK226.out 8;have hfz10_9:=blk_frozen BK226.out 9)|(go_at_call 92;(with_reducible refine (impl_CellOk.calls a0_6 a0_7 a0_8 a0_9 a1 t228 _ A6.out).mono ?_);rintro e w11 ⟨rfl,hb⟩;have n0_:=Aside0.mk (blk_below (g:=gb226) (o:=.cells #[.int .i64 a0_0,.bool a0_1,.int .i64 a0_2,.int .i64 a0_3,.int .i64 a0_4,.int .i64 a0_5,.int .i64 a0_6,.int .i64 a0_7,.int .i64 a0_8,.int .i64 a0_9] 35 (0,0)) (by (with_reducible repeat (first|refine blk_drewN ?_ _|refine blk_drew ?_|refine blk_alloc ?_ _));exact BK226.out) hb);have n1_:=Aside0.mk (below_step (by repeat (first|(with_reducible first|exact HB.out|apply below_alloc|apply pw_below_drewN|apply below_drew1|refine below_set ?_ GE226.out)|exact HB.out)) hb);clear BK226;clear HB;have BK226:=n0_;have HB:=n1_;clear n0_ n1_;(try clear hb);(try clear hb2);(try clear hk);(try clear hi)))
   go_ret
   exact ⟨by first|rfl|(simp [errW_none,errW_some] <;> rfl)|(simp [*,errW_none,errW_some] <;> rfl),by repeat (first|(with_reducible first|exact HB.out|apply below_alloc|apply pw_below_drewN|apply below_drew1|refine below_set ?_ GE226.out)|exact HB.out)⟩
  ·replace c5:=Bool.eq_false_iff.mpr c5
   subst c5
   have H1:(some false)=some r:=by rw [if_neg (show ¬ (false=true) by decide)] at H;exact H
   clear H
   have H:=H1
   clear H1
   obtain rfl:=Option.some.inj H
   go_enter Try.func91,Try.ntmps91
   go_wp2_with (first|((with_reducible refine gate_dst (N:=2) rfl ?_);refine box_event ?hg (N:=2) ?hd (cs:=#[.int .i64 a0_0,.bool a0_1,.int .i64 a0_2,.int .i64 a0_3,.int .i64 a0_4,.int .i64 a0_5,.int .i64 a0_6,.int .i64 a0_7,.int .i64 a0_8,.int .i64 a0_9]) (t:=35) ?hr ?_;(case hd=>rfl);(case hg=>rfl);(case hr=>first|(go_simp;done)|(go_simp;rfl));intro gb226 hg w12 hbox hb;have n0_:=Aside0.mk (below_step zhb hb);have n1_:=Aside0.mk (hbox);have n2_:=Aside0.mk ((by rw [hg];exact (below_size zhb):w.heap.size≤gb226));have n3_:=Aside0.mk ((by rw [hg];exact (below_size zhb):w.heap.size≤gb226));clear HB;have HB:=n0_;have BK226:=n1_;have GW226:=n2_;have GE226:=n3_;clear n0_ n1_ n2_ n3_;clear hb hbox hg;have hcz13_0:w12.cell? ⟨gb226,0,none⟩=some (.int .i64 a0_0):=(blk_cell BK226.out 0).trans rfl;have hcz13_1:w12.cell? ⟨gb226,1,none⟩=some (.bool a0_1):=(blk_cell BK226.out 1).trans rfl;have hcz13_2:w12.cell? ⟨gb226,2,none⟩=some (.int .i64 a0_2):=(blk_cell BK226.out 2).trans rfl;have hcz13_3:w12.cell? ⟨gb226,3,none⟩=some (.int .i64 a0_3):=(blk_cell BK226.out 3).trans rfl;have hcz13_4:w12.cell? ⟨gb226,4,none⟩=some (.int .i64 a0_4):=(blk_cell BK226.out 4).trans rfl;have hcz13_5:w12.cell? ⟨gb226,5,none⟩=some (.int .i64 a0_5):=(blk_cell BK226.out 5).trans rfl;have hcz13_6:w12.cell? ⟨gb226,6,none⟩=some (.int .i64 a0_6):=(blk_cell BK226.out 6).trans rfl;have hcz13_7:w12.cell? ⟨gb226,7,none⟩=some (.int .i64 a0_7):=(blk_cell BK226.out 7).trans rfl;have hcz13_8:w12.cell? ⟨gb226,8,none⟩=some (.int .i64 a0_8):=(blk_cell BK226.out 8).trans rfl;have hcz13_9:w12.cell? ⟨gb226,9,none⟩=some (.int .i64 a0_9):=(blk_cell BK226.out 9).trans rfl;have hfz13_0:=blk_frozen BK226.out 0;have hfz13_1:=blk_frozen BK226.out 1;have hfz13_2:=blk_frozen BK226.out 2;have hfz13_3:=blk_frozen BK226.out 3;have hfz13_4:=blk_frozen BK226.out 4;have hfz13_5:=blk_frozen BK226.out 5;have hfz13_6:=blk_frozen BK226.out 6;have hfz13_7:=blk_frozen BK226.out 7;have hfz13_8:=blk_frozen BK226.out 8;have hfz13_9:=blk_frozen BK226.out 9)|(go_at_call 92;(with_reducible refine (impl_CellOk.calls a0_2 a0_3 a0_4 a0_5 a1 false _ A4.out).mono ?_);rintro e w14 ⟨rfl,hb⟩;have n0_:=Aside0.mk (blk_below (g:=gb226) (o:=.cells #[.int .i64 a0_0,.bool a0_1,.int .i64 a0_2,.int .i64 a0_3,.int .i64 a0_4,.int .i64 a0_5,.int .i64 a0_6,.int .i64 a0_7,.int .i64 a0_8,.int .i64 a0_9] 35 (0,0)) (by (with_reducible repeat (first|refine blk_drewN ?_ _|refine blk_drew ?_|refine blk_alloc ?_ _));exact BK226.out) hb);have n1_:=Aside0.mk (below_step (by repeat (first|(with_reducible first|exact HB.out|apply below_alloc|apply pw_below_drewN|apply below_drew1|refine below_set ?_ GE226.out)|exact HB.out)) hb);clear BK226;clear HB;have BK226:=n0_;have HB:=n1_;clear n0_ n1_;(try clear hb);(try clear hb2);(try clear hk);(try clear hi)))
   go_ret
   exact ⟨by first|rfl|(simp [errW_none,errW_some] <;> rfl)|(simp [*,errW_none,errW_some] <;> rfl),by repeat (first|(with_reducible first|exact HB.out|apply below_alloc|apply pw_below_drewN|apply below_drew1|refine below_set ?_ GE226.out)|exact HB.out)⟩
 ·rw [if_neg c3] at H
  have c3b0:(a0_0 == 1)=false:=beq_eq_false_iff_ne.mpr c3
  have c3b1:(a0_0 != 1)=true:=bne_iff_ne.mpr c3
  by_cases c15:a0_0=2
  ·rw [if_pos c15] at H
   have c15b0:(a0_0 == 2)=true:=beq_iff_eq.mpr c15
   have c15b1:(a0_0 != 2)=false:=bne_eq_false_iff_eq.mpr c15
   clear c15
   replace H:=Option.bind_eq_some_iff.mp H
   obtain ⟨t229,A160,H⟩:=H
   (try dsimp only at H)
   have A16:=Aside0.mk A160
   clear A160
   by_cases c17:t229=true
   ·subst c17
    have H1:((impl_CellOk.f a0_6 a0_7 a0_8 a0_9 a1).bind fun t230=>(some t230))=some r:=by rw [if_pos rfl] at H;exact H
    clear H
    have H:=H1
    clear H1
    replace H:=Option.bind_eq_some_iff.mp H
    obtain ⟨t230,A180,H⟩:=H
    (try dsimp only at H)
    have A18:=Aside0.mk A180
    clear A180
    obtain rfl:=Option.some.inj H
    go_enter Try.func91,Try.ntmps91
    go_wp2_with (first|((with_reducible refine gate_dst (N:=2) rfl ?_);refine box_event ?hg (N:=2) ?hd (cs:=#[.int .i64 a0_0,.bool a0_1,.int .i64 a0_2,.int .i64 a0_3,.int .i64 a0_4,.int .i64 a0_5,.int .i64 a0_6,.int .i64 a0_7,.int .i64 a0_8,.int .i64 a0_9]) (t:=35) ?hr ?_;(case hd=>rfl);(case hg=>rfl);(case hr=>first|(go_simp;done)|(go_simp;rfl));intro gb226 hg w19 hbox hb;have n0_:=Aside0.mk (below_step zhb hb);have n1_:=Aside0.mk (hbox);have n2_:=Aside0.mk ((by rw [hg];exact (below_size zhb):w.heap.size≤gb226));have n3_:=Aside0.mk ((by rw [hg];exact (below_size zhb):w.heap.size≤gb226));clear HB;have HB:=n0_;have BK226:=n1_;have GW226:=n2_;have GE226:=n3_;clear n0_ n1_ n2_ n3_;clear hb hbox hg;have hcz20_0:w19.cell? ⟨gb226,0,none⟩=some (.int .i64 a0_0):=(blk_cell BK226.out 0).trans rfl;have hcz20_1:w19.cell? ⟨gb226,1,none⟩=some (.bool a0_1):=(blk_cell BK226.out 1).trans rfl;have hcz20_2:w19.cell? ⟨gb226,2,none⟩=some (.int .i64 a0_2):=(blk_cell BK226.out 2).trans rfl;have hcz20_3:w19.cell? ⟨gb226,3,none⟩=some (.int .i64 a0_3):=(blk_cell BK226.out 3).trans rfl;have hcz20_4:w19.cell? ⟨gb226,4,none⟩=some (.int .i64 a0_4):=(blk_cell BK226.out 4).trans rfl;have hcz20_5:w19.cell? ⟨gb226,5,none⟩=some (.int .i64 a0_5):=(blk_cell BK226.out 5).trans rfl;have hcz20_6:w19.cell? ⟨gb226,6,none⟩=some (.int .i64 a0_6):=(blk_cell BK226.out 6).trans rfl;have hcz20_7:w19.cell? ⟨gb226,7,none⟩=some (.int .i64 a0_7):=(blk_cell BK226.out 7).trans rfl;have hcz20_8:w19.cell? ⟨gb226,8,none⟩=some (.int .i64 a0_8):=(blk_cell BK226.out 8).trans rfl;have hcz20_9:w19.cell? ⟨gb226,9,none⟩=some (.int .i64 a0_9):=(blk_cell BK226.out 9).trans rfl;have hfz20_0:=blk_frozen BK226.out 0;have hfz20_1:=blk_frozen BK226.out 1;have hfz20_2:=blk_frozen BK226.out 2;have hfz20_3:=blk_frozen BK226.out 3;have hfz20_4:=blk_frozen BK226.out 4;have hfz20_5:=blk_frozen BK226.out 5;have hfz20_6:=blk_frozen BK226.out 6;have hfz20_7:=blk_frozen BK226.out 7;have hfz20_8:=blk_frozen BK226.out 8;have hfz20_9:=blk_frozen BK226.out 9)|(go_at_call 92;(with_reducible refine (impl_CellOk.calls a0_2 a0_3 a0_4 a0_5 a1 true _ A16.out).mono ?_);rintro e w21 ⟨rfl,hb⟩;have n0_:=Aside0.mk (blk_below (g:=gb226) (o:=.cells #[.int .i64 a0_0,.bool a0_1,.int .i64 a0_2,.int .i64 a0_3,.int .i64 a0_4,.int .i64 a0_5,.int .i64 a0_6,.int .i64 a0_7,.int .i64 a0_8,.int .i64 a0_9] 35 (0,0)) (by (with_reducible repeat (first|refine blk_drewN ?_ _|refine blk_drew ?_|refine blk_alloc ?_ _));exact BK226.out) hb);have n1_:=Aside0.mk (below_step (by repeat (first|(with_reducible first|exact HB.out|apply below_alloc|apply pw_below_drewN|apply below_drew1|refine below_set ?_ GE226.out)|exact HB.out)) hb);clear BK226;clear HB;have BK226:=n0_;have HB:=n1_;clear n0_ n1_;(try clear hb);(try clear hb2);(try clear hk);(try clear hi);have hcz22_0:w21.cell? ⟨gb226,0,none⟩=some (.int .i64 a0_0):=(blk_cell BK226.out 0).trans rfl;have hcz22_1:w21.cell? ⟨gb226,1,none⟩=some (.bool a0_1):=(blk_cell BK226.out 1).trans rfl;have hcz22_2:w21.cell? ⟨gb226,2,none⟩=some (.int .i64 a0_2):=(blk_cell BK226.out 2).trans rfl;have hcz22_3:w21.cell? ⟨gb226,3,none⟩=some (.int .i64 a0_3):=(blk_cell BK226.out 3).trans rfl;have hcz22_4:w21.cell? ⟨gb226,4,none⟩=some (.int .i64 a0_4):=(blk_cell BK226.out 4).trans rfl;have hcz22_5:w21.cell? ⟨gb226,5,none⟩=some (.int .i64 a0_5):=(blk_cell BK226.out 5).trans rfl;have hcz22_6:w21.cell? ⟨gb226,6,none⟩=some (.int .i64 a0_6):=(blk_cell BK226.out 6).trans rfl;have hcz22_7:w21.cell? ⟨gb226,7,none⟩=some (.int .i64 a0_7):=(blk_cell BK226.out 7).trans rfl;have hcz22_8:w21.cell? ⟨gb226,8,none⟩=some (.int .i64 a0_8):=(blk_cell BK226.out 8).trans rfl;have hcz22_9:w21.cell? ⟨gb226,9,none⟩=some (.int .i64 a0_9):=(blk_cell BK226.out 9).trans rfl;have hfz22_0:=blk_frozen BK226.out 0;have hfz22_1:=blk_frozen BK226.out 1;have hfz22_2:=blk_frozen BK226.out 2;have hfz22_3:=blk_frozen BK226.out 3;have hfz22_4:=blk_frozen BK226.out 4;have hfz22_5:=blk_frozen BK226.out 5;have hfz22_6:=blk_frozen BK226.out 6;have hfz22_7:=blk_frozen BK226.out 7;have hfz22_8:=blk_frozen BK226.out 8;have hfz22_9:=blk_frozen BK226.out 9)|(go_at_call 92;(with_reducible refine (impl_CellOk.calls a0_6 a0_7 a0_8 a0_9 a1 t230 _ A18.out).mono ?_);rintro e w23 ⟨rfl,hb⟩;have n0_:=Aside0.mk (blk_below (g:=gb226) (o:=.cells #[.int .i64 a0_0,.bool a0_1,.int .i64 a0_2,.int .i64 a0_3,.int .i64 a0_4,.int .i64 a0_5,.int .i64 a0_6,.int .i64 a0_7,.int .i64 a0_8,.int .i64 a0_9] 35 (0,0)) (by (with_reducible repeat (first|refine blk_drewN ?_ _|refine blk_drew ?_|refine blk_alloc ?_ _));exact BK226.out) hb);have n1_:=Aside0.mk (below_step (by repeat (first|(with_reducible first|exact HB.out|apply below_alloc|apply pw_below_drewN|apply below_drew1|refine below_set ?_ GE226.out)|exact HB.out)) hb);clear BK226;clear HB;have BK226:=n0_;have HB:=n1_;clear n0_ n1_;(try clear hb);(try clear hb2);(try clear hk);(try clear hi)))
    go_ret
    exact ⟨by first|rfl|(simp [errW_none,errW_some] <;> rfl)|(simp [*,errW_none,errW_some] <;> rfl),by repeat (first|(with_reducible first|exact HB.out|apply below_alloc|apply pw_below_drewN|apply below_drew1|refine below_set ?_ GE226.out)|exact HB.out)⟩
   ·replace c17:=Bool.eq_false_iff.mpr c17
    subst c17
    have H1:(some false)=some r:=by rw [if_neg (show ¬ (false=true) by decide)] at H;exact H
    clear H
    have H:=H1
    clear H1
    obtain rfl:=Option.some.inj H
    go_enter Try.func91,Try.ntmps91
    go_wp2_with (first|((with_reducible refine gate_dst (N:=2) rfl ?_);refine box_event ?hg (N:=2) ?hd (cs:=#[.int .i64 a0_0,.bool a0_1,.int .i64 a0_2,.int .i64 a0_3,.int .i64 a0_4,.int .i64 a0_5,.int .i64 a0_6,.int .i64 a0_7,.int .i64 a0_8,.int .i64 a0_9]) (t:=35) ?hr ?_;(case hd=>rfl);(case hg=>rfl);(case hr=>first|(go_simp;done)|(go_simp;rfl));intro gb226 hg w24 hbox hb;have n0_:=Aside0.mk (below_step zhb hb);have n1_:=Aside0.mk (hbox);have n2_:=Aside0.mk ((by rw [hg];exact (below_size zhb):w.heap.size≤gb226));have n3_:=Aside0.mk ((by rw [hg];exact (below_size zhb):w.heap.size≤gb226));clear HB;have HB:=n0_;have BK226:=n1_;have GW226:=n2_;have GE226:=n3_;clear n0_ n1_ n2_ n3_;clear hb hbox hg;have hcz25_0:w24.cell? ⟨gb226,0,none⟩=some (.int .i64 a0_0):=(blk_cell BK226.out 0).trans rfl;have hcz25_1:w24.cell? ⟨gb226,1,none⟩=some (.bool a0_1):=(blk_cell BK226.out 1).trans rfl;have hcz25_2:w24.cell? ⟨gb226,2,none⟩=some (.int .i64 a0_2):=(blk_cell BK226.out 2).trans rfl;have hcz25_3:w24.cell? ⟨gb226,3,none⟩=some (.int .i64 a0_3):=(blk_cell BK226.out 3).trans rfl;have hcz25_4:w24.cell? ⟨gb226,4,none⟩=some (.int .i64 a0_4):=(blk_cell BK226.out 4).trans rfl;have hcz25_5:w24.cell? ⟨gb226,5,none⟩=some (.int .i64 a0_5):=(blk_cell BK226.out 5).trans rfl;have hcz25_6:w24.cell? ⟨gb226,6,none⟩=some (.int .i64 a0_6):=(blk_cell BK226.out 6).trans rfl;have hcz25_7:w24.cell? ⟨gb226,7,none⟩=some (.int .i64 a0_7):=(blk_cell BK226.out 7).trans rfl;have hcz25_8:w24.cell? ⟨gb226,8,none⟩=some (.int .i64 a0_8):=(blk_cell BK226.out 8).trans rfl;have hcz25_9:w24.cell? ⟨gb226,9,none⟩=some (.int .i64 a0_9):=(blk_cell BK226.out 9).trans rfl;have hfz25_0:=blk_frozen BK226.out 0;have hfz25_1:=blk_frozen BK226.out 1;have hfz25_2:=blk_frozen BK226.out 2;have hfz25_3:=blk_frozen BK226.out 3;have hfz25_4:=blk_frozen BK226.out 4;have hfz25_5:=blk_frozen BK226.out 5;have hfz25_6:=blk_frozen BK226.out 6;have hfz25_7:=blk_frozen BK226.out 7;have hfz25_8:=blk_frozen BK226.out 8;have hfz25_9:=blk_frozen BK226.out 9)|(go_at_call 92;(with_reducible refine (impl_CellOk.calls a0_2 a0_3 a0_4 a0_5 a1 false _ A16.out).mono ?_);rintro e w26 ⟨rfl,hb⟩;have n0_:=Aside0.mk (blk_below (g:=gb226) (o:=.cells #[.int .i64 a0_0,.bool a0_1,.int .i64 a0_2,.int .i64 a0_3,.int .i64 a0_4,.int .i64 a0_5,.int .i64 a0_6,.int .i64 a0_7,.int .i64 a0_8,.int .i64 a0_9] 35 (0,0)) (by (with_reducible repeat (first|refine blk_drewN ?_ _|refine blk_drew ?_|refine blk_alloc ?_ _));exact BK226.out) hb);have n1_:=Aside0.mk (below_step (by repeat (first|(with_reducible first|exact HB.out|apply below_alloc|apply pw_below_drewN|apply below_drew1|refine below_set ?_ GE226.out)|exact HB.out)) hb);clear BK226;clear HB;have BK226:=n0_;have HB:=n1_;clear n0_ n1_;(try clear hb);(try clear hb2);(try clear hk);(try clear hi)))
    go_ret
    exact ⟨by first|rfl|(simp [errW_none,errW_some] <;> rfl)|(simp [*,errW_none,errW_some] <;> rfl),by repeat (first|(with_reducible first|exact HB.out|apply below_alloc|apply pw_below_drewN|apply below_drew1|refine below_set ?_ GE226.out)|exact HB.out)⟩
  ·rw [if_neg c15] at H
   have c15b0:(a0_0 == 2)=false:=beq_eq_false_iff_ne.mpr c15
   have c15b1:(a0_0 != 2)=true:=bne_iff_ne.mpr c15
   obtain rfl:=Option.some.inj H
   go_enter Try.func91,Try.ntmps91
   go_wp2_with (first|((with_reducible refine gate_dst (N:=2) rfl ?_);refine box_event ?hg (N:=2) ?hd (cs:=#[.int .i64 a0_0,.bool a0_1,.int .i64 a0_2,.int .i64 a0_3,.int .i64 a0_4,.int .i64 a0_5,.int .i64 a0_6,.int .i64 a0_7,.int .i64 a0_8,.int .i64 a0_9]) (t:=35) ?hr ?_;(case hd=>rfl);(case hg=>rfl);(case hr=>first|(go_simp;done)|(go_simp;rfl));intro gb226 hg w27 hbox hb;have n0_:=Aside0.mk (below_step zhb hb);have n1_:=Aside0.mk (hbox);have n2_:=Aside0.mk ((by rw [hg];exact (below_size zhb):w.heap.size≤gb226));have n3_:=Aside0.mk ((by rw [hg];exact (below_size zhb):w.heap.size≤gb226));clear HB;have HB:=n0_;have BK226:=n1_;have GW226:=n2_;have GE226:=n3_;clear n0_ n1_ n2_ n3_;clear hb hbox hg;have hcz28_0:w27.cell? ⟨gb226,0,none⟩=some (.int .i64 a0_0):=(blk_cell BK226.out 0).trans rfl;have hcz28_1:w27.cell? ⟨gb226,1,none⟩=some (.bool a0_1):=(blk_cell BK226.out 1).trans rfl;have hcz28_2:w27.cell? ⟨gb226,2,none⟩=some (.int .i64 a0_2):=(blk_cell BK226.out 2).trans rfl;have hcz28_3:w27.cell? ⟨gb226,3,none⟩=some (.int .i64 a0_3):=(blk_cell BK226.out 3).trans rfl;have hcz28_4:w27.cell? ⟨gb226,4,none⟩=some (.int .i64 a0_4):=(blk_cell BK226.out 4).trans rfl;have hcz28_5:w27.cell? ⟨gb226,5,none⟩=some (.int .i64 a0_5):=(blk_cell BK226.out 5).trans rfl;have hcz28_6:w27.cell? ⟨gb226,6,none⟩=some (.int .i64 a0_6):=(blk_cell BK226.out 6).trans rfl;have hcz28_7:w27.cell? ⟨gb226,7,none⟩=some (.int .i64 a0_7):=(blk_cell BK226.out 7).trans rfl;have hcz28_8:w27.cell? ⟨gb226,8,none⟩=some (.int .i64 a0_8):=(blk_cell BK226.out 8).trans rfl;have hcz28_9:w27.cell? ⟨gb226,9,none⟩=some (.int .i64 a0_9):=(blk_cell BK226.out 9).trans rfl;have hfz28_0:=blk_frozen BK226.out 0;have hfz28_1:=blk_frozen BK226.out 1;have hfz28_2:=blk_frozen BK226.out 2;have hfz28_3:=blk_frozen BK226.out 3;have hfz28_4:=blk_frozen BK226.out 4;have hfz28_5:=blk_frozen BK226.out 5;have hfz28_6:=blk_frozen BK226.out 6;have hfz28_7:=blk_frozen BK226.out 7;have hfz28_8:=blk_frozen BK226.out 8;have hfz28_9:=blk_frozen BK226.out 9))
   go_ret
   exact ⟨by first|rfl|(simp [errW_none,errW_some] <;> rfl)|(simp [*,errW_none,errW_some] <;> rfl),by repeat (first|(with_reducible first|exact HB.out|apply below_alloc|apply pw_below_drewN|apply below_drew1|refine below_set ?_ GE226.out)|exact HB.out)⟩


end Go.Proofs.Ytlpgnkndjmfcjaa.PFnExactPlanWide
