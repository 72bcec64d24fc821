-- Written by wip/tools/pp.py, a program of this session over the kit's printer: not the kit's own print
import Derived.Test.YtaifnkapbffmaaaPFnZx0
import Derived.Test.YtaifnkapbffmaaaPFnZx6
import Derived.Test.YtaifnkapbffmaaaPFnZx7
import Derived.Test.YtaifnkapbffmaaaPFnZx8
import Derived.Test.YtaifnkapbffmaaaPFnZx9
namespace Go.Proofs.Ytaifnkapbffmaaa.PFnZ
open Go.RowKit Go.Proofs.YtaifnkapbffmaaaW.PrintWords Go.Proofs.YtaifnkapbffmaaaW.PrintLast Go.Proofs.YtaifnkapbffmaaaW.PrintMore
attribute [local go_sem] max2_int min2_int max_two min_two max_three min_three max_four min_four   -- for this text's walks alone
set_option linter.unusedVariables false
set_option linter.unusedSimpArgs false

/-! ### impl_together: function 54 -/
def impl_together.f (k:Nat) (l0:List (S54)) (l1:List (S54)):Option ((List (S54))):=(impl_merged_impl_Item__impl_cmpItem_impl_together_1.f k l0 l1).bind fun t258=>(some t258)
theorem impl_together.mono : ∀ a0 a1 k,LeO (impl_together.f k a0 a1) (impl_together.f (k + 1) a0 a1):=by
 intro a0 a1 k
 unfold impl_together.f
 repeat' first
   | (with_reducible exact impl_merged_impl_Item__impl_cmpItem_impl_together_1.mono _ _ _)
   | (with_reducible exact LeO.refl _)
   | (with_reducible exact LeO.none _)
   | (with_reducible refine LeO.ite ?_ ?_)
   | (with_reducible refine LeO.bind ?_ (fun _=>?_))
   | exact LeO.none _
   | refine LeO.ite ?_ ?_
   | refine LeO.bind ?_ (fun _=>?_)
set_option maxHeartbeats 8000000 in
set_option maxRecDepth 100000 in
theorem impl_together.calls (k:Nat) (P0_:Nat→Prop) (A0:Option Addr) (c0:Nat) (l0:List (S54)) (P1_:Nat→Prop) (A1:Option Addr) (c1:Nat) (l1:List (S54)) (r:List (S54)) (w:World) (hs0:Kd.V k54 54 w w.heap.size (fun k_=>P0_ k_) (.slice A0 l0.length c0) l0) (hs1:Kd.V k54 54 w w.heap.size (fun k_=>P1_ k_) (.slice A1 l1.length c1) l1) (h:impl_together.f k l0 l1=some r) :
  Calls Try.prog 54 #[.slice A0 l0.length c0,.slice A1 l1.length c1] w fun e w'=>∃ v0_:Value,e=.returned (v0_)∧Kd.N k54 54 w' w.heap.size (fun k_=>((P0_ k_∨P1_ k_)∨w.heap.size≤k_)) v0_ r∧Below w.heap.size w w':=by
 have HO0:=Aside0.mk (show Kd.V k54 54 w w.heap.size (fun k_=>((P0_ k_∨P1_ k_)∨w.heap.size≤k_)) (.slice A0 l0.length c0) l0 from Kd.V_mono hs0 (fun k_ hk=>.inl (.inl hk)))
 have HO1:=Aside0.mk (show Kd.V k54 54 w w.heap.size (fun k_=>((P0_ k_∨P1_ k_)∨w.heap.size≤k_)) (.slice A1 l1.length c1) l1 from Kd.V_mono hs1 (fun k_ hk=>.inl (.inr hk)))
 have HB:=Aside0.mk (Below.refl w.heap.size w)
 have H:((impl_merged_impl_Item__impl_cmpItem_impl_together_1.f k l0 l1).bind fun t258=>(some t258))=some r:=h
 clear h
 replace H:=Option.bind_eq_some_iff.mp H
 obtain ⟨t258,A30,H⟩:=H
 (try dsimp only at H)
 have A3:=Aside0.mk A30
 clear A30
 obtain rfl:=Option.some.inj H
 go_enter Try.func54,Try.ntmps54
 go_wp2_with (first|(go_at_call 108;(with_reducible refine (impl_merged_impl_Item__impl_cmpItem_impl_together_1.calls k (fun k_=>((P0_ k_∨P1_ k_)∨w.heap.size≤k_)) _ _ l0 (fun k_=>((P0_ k_∨P1_ k_)∨w.heap.size≤k_)) _ _ l1   t258 _ ?side1 ?side2 A3.out).mono ?_);(case side1=>exact HO0.out);(case side2=>exact HO1.out);rintro e w4 ⟨v259,rfl,ho0,hb⟩;have n0_:=Aside0.mk (Kd.V_elder' (zV HO0.out) (Kd.N_base ho0) hb);have n1_:=Aside0.mk (Kd.V_elder' (zV HO1.out) (Kd.N_base ho0) hb);have n2_:=Aside0.mk (Kd.N_lower (Kd.N_mono (ok':=fun k_=>((P0_ k_∨P1_ k_)∨w.heap.size≤k_)) ho0 (fun k_ hk_=>Or.elim hk_ (fun hs_=>Or.elim hs_ (fun hs_=>hs_) (fun hs_=>hs_)) (fun hn_=>(.inr (Nat.le_trans (below_size zhb) hn_))))) (below_size zhb));have n3_:=Aside0.mk (below_step zhb hb);clear HO0;clear HO1;clear HB;have HO0:=n0_;have HO1:=n1_;have HO260:=n2_;have HB:=n3_;clear n0_ n1_ n2_ n3_;(try clear hb);(try clear hb2);(try clear hk);(try clear hi);(try clear ho0)))
 go_ret
 exact ⟨_,by first|rfl|(simp [errW_none,errW_some] <;> rfl)|(simp [*,errW_none,errW_some] <;> rfl),by (with_reducible repeat (first|apply Kd.N_alloc|apply Kd.N_drewN|apply Kd.N_drew));exact HO260.out,zhb⟩

/-! ### impl_ZAdd: function 14 (by hand) -/
def impl_ZAdd.f (k:Nat) (l0:List (S54)) (l1:List (S54)):Option (List (S54) × Bool):=(impl_ZOk.f k l0).bind fun t1=>(if t1=true then ((impl_ZOk.f k l1).bind fun t2=>(if t2=true then ((impl_together.f k l0 l1).bind fun t3=>(impl_told.f k t3)) else (some ([],false)))) else (some ([],false)))
theorem impl_ZAdd.mono : ∀ a0 a1 k,LeO (impl_ZAdd.f k a0 a1) (impl_ZAdd.f (k + 1) a0 a1):=by
 intro a0 a1 k
 unfold impl_ZAdd.f
 repeat' first
   | (with_reducible exact impl_ZOk.mono _ _)
   | (with_reducible exact impl_together.mono _ _ _)
   | (with_reducible exact impl_told.mono _ _)
   | (with_reducible exact LeO.refl _)
   | (with_reducible refine LeO.ite ?_ ?_)
   | (with_reducible refine LeO.bind ?_ (fun _=>?_))
set_option maxHeartbeats 8000000 in
set_option maxRecDepth 100000 in
theorem impl_ZAdd.calls (k:Nat) (A0:Option Addr) (c0:Nat) (l0:List (S54)) (A1:Option Addr) (c1:Nat) (l1:List (S54)) (r1:List (S54)) (r2:Bool) (w:World) (hr0:Kd.C k54 w A0 l0.length l0) (hc0:l0.length≤c0) (hr1:Kd.C k54 w A1 l1.length l1) (hc1:l1.length≤c1) (h:impl_ZAdd.f k l0 l1=some (r1,r2)) :
  Calls Try.prog 14 #[.slice A0 l0.length c0,.slice A1 l1.length c1] w fun e w'=>∃ v0_:Value,e=.returned (.tuple #[v0_,.bool r2])∧Kd.S k54 54 w' w.heap.size (fun _=>True) v0_ r1∧Below w.heap.size w w':=by
 unfold impl_ZAdd.f at h
 obtain ⟨t1,h1,h⟩:=Option.bind_eq_some_iff.mp h
 have A1:=Aside0.mk h1
 have HR0:=Aside0.mk hr0
 have HC0:=Aside0.mk hc0
 have HR1:=Aside0.mk hr1
 have HC1:=Aside0.mk hc1
 clear hr0 hc0 hr1 hc1 h1
 cases t1 with
 | false =>
  rw [if_neg (by decide)] at h
  injection h with h
  injection h with e1 e2
  subst e1 e2
  go_enter Try.func14,Try.ntmps14
  go_wp2_with fail
  refine (impl_ZOk.calls k _ _ l0 false _ HR0.out HC0.out A1.out).mono ?_
  rintro e w1 ⟨rfl,hb⟩
  have HB1:=Aside0.mk hb
  clear hb
  go_wp2
  go_ret2
  exact ⟨_,rfl,Kd.S_nil _ _ _ _ _,HB1.out⟩
 | true =>
 rw [if_pos rfl] at h
 obtain ⟨t2,h2,h⟩:=Option.bind_eq_some_iff.mp h
 have A2:=Aside0.mk h2
 clear h2
 cases t2 with
 | false =>
  rw [if_neg (by decide)] at h
  injection h with h
  injection h with e1 e2
  subst e1 e2
  go_enter Try.func14,Try.ntmps14
  go_wp2_with fail
  refine (impl_ZOk.calls k _ _ l0 true _ HR0.out HC0.out A1.out).mono ?_
  rintro e w1 ⟨rfl,hb⟩
  have HB1:=Aside0.mk hb
  clear hb
  go_wp2_with fail
  refine (impl_ZOk.calls k _ _ l1 false _ (Kd.C_below HR1.out HB1.out) HC1.out A2.out).mono ?_
  rintro e w2 ⟨rfl,hb⟩
  have HB2:=Aside0.mk (below_step HB1.out hb)
  clear hb
  go_wp2
  go_ret2
  exact ⟨_,rfl,Kd.S_nil _ _ _ _ _,HB2.out⟩
 | true =>
 rw [if_pos rfl] at h
 obtain ⟨t3,h3,h⟩:=Option.bind_eq_some_iff.mp h
 have A3:=Aside0.mk h3
 have A4:=Aside0.mk h
 clear h3 h
 go_enter Try.func14,Try.ntmps14
 go_wp2_with fail
 refine (impl_ZOk.calls k _ _ l0 true _ HR0.out HC0.out A1.out).mono ?_
 rintro e w1 ⟨rfl,hb⟩
 have HB1:=Aside0.mk hb
 clear hb
 go_wp2_with fail
 refine (impl_ZOk.calls k _ _ l1 true _ (Kd.C_below HR1.out HB1.out) HC1.out A2.out).mono ?_
 rintro e w2 ⟨rfl,hb⟩
 have HB2:=Aside0.mk (below_step HB1.out hb)
 clear hb
 go_wp2_with fail
 refine (impl_together.calls k (fun k_=>k_ < w2.heap.size) _ _ l0 (fun k_=>k_ < w2.heap.size) _ _ l1 t3 _ (Kd.V_mk HC0.out (Kd.C_F k54_heap (Kd.C_below HR0.out HB2.out))) (Kd.V_mk HC1.out (Kd.C_F k54_heap (Kd.C_below HR1.out HB2.out))) A3.out).mono ?_
 rintro e w3 ⟨v3,rfl,ho,hb⟩
 obtain ⟨a3,c3,rfl⟩:=Kd.N_slice ho
 have HB3:=Aside0.mk (below_step HB2.out hb)
 have HO3:=Aside0.mk ho
 clear ho hb
 go_wp2_with fail
 refine (impl_told.calls k _ _ t3 r1 r2 _ (Kd.N_reads' HO3.out).2.2 (Kd.N_reads' HO3.out).2.1 A4.out).mono ?_
 rintro e w4 ⟨v4,rfl,ho,hb⟩
 have HB4:=Aside0.mk (below_step HB3.out hb)
 have HO4:=Aside0.mk (Kd.S_lower ho HB3.out.size)
 clear ho hb
 go_wp2
 go_ret2
 exact ⟨_,rfl,HO4.out,HB4.out⟩

-- NOT PRINTED: function 68 (slices_EqualFunc_impl_Item_impl_Item_impl_Item_impl_Item)

/-! ### slices_Equal_int_int: function 115 -/
def slices_Equal_int_int.l0:Nat→List Int→List Int→Int→Int→Option (Bool)
 | 0,_,_,_,_=>none
 | k + 1,x0,x1,x12,x13=>if x13 < x12 then (if 0≤x13 then (if x13 < (x0.length:Int) then (if x13 < (x1.length:Int) then (if (rd x0 x13)=(rd x1 x13) then (slices_Equal_int_int.l0 k x0 x1 x12 (wrap64 (x13 + 1))) else (some false)) else (none)) else (none)) else (none)) else (some true)
def slices_Equal_int_int.f (k:Nat) (l0:List Int) (l1:List Int):Option (Bool):=if (l0.length:Int)=(l1.length:Int) then (slices_Equal_int_int.l0 k l0 l1 (l0.length:Int) 0) else (some false)
theorem slices_Equal_int_int.mono_l : ∀ k,(∀ y0 y1 y2 y3,LeO (slices_Equal_int_int.l0 k y0 y1 y2 y3) (slices_Equal_int_int.l0 (k + 1) y0 y1 y2 y3))
 | 0=>fun _ _ _ _ r h=>by simp [slices_Equal_int_int.l0] at h
 | k + 1=>by
  have ih0:=slices_Equal_int_int.mono_l k
  ·intro y0 y1 y2 y3
   unfold slices_Equal_int_int.l0
   repeat' first
   | (with_reducible exact ih0 _ _ _ _)
   | (with_reducible exact LeO.refl _)
   | (with_reducible exact LeO.none _)
   | (with_reducible refine LeO.ite ?_ ?_)
   | (with_reducible refine LeO.bind ?_ (fun _=>?_))
   | exact LeO.none _
   | refine LeO.ite ?_ ?_
   | refine LeO.bind ?_ (fun _=>?_)
theorem slices_Equal_int_int.mono : ∀ a0 a1 k,LeO (slices_Equal_int_int.f k a0 a1) (slices_Equal_int_int.f (k + 1) a0 a1):=by
 intro a0 a1 k
 have ih0:=slices_Equal_int_int.mono_l k
 unfold slices_Equal_int_int.f
 repeat' first
   | (with_reducible exact ih0 _ _ _ _)
   | (with_reducible exact LeO.refl _)
   | (with_reducible exact LeO.none _)
   | (with_reducible refine LeO.ite ?_ ?_)
   | (with_reducible refine LeO.bind ?_ (fun _=>?_))
   | exact LeO.none _
   | refine LeO.ite ?_ ?_
   | refine LeO.bind ?_ (fun _=>?_)
set_option maxHeartbeats 8000000 in
set_option maxRecDepth 100000 in
theorem slices_Equal_int_int.calls (k:Nat) (A0:Option Addr) (c0:Nat) (l0:List Int) (A1:Option Addr) (c1:Nat) (l1:List Int) (r:Bool) (w:World) (hr0:Kd.C (Kd.int .i64) w A0 l0.length l0) (hc0:l0.length≤c0) (hr1:Kd.C (Kd.int .i64) w A1 l1.length l1) (hc1:l1.length≤c1) (h:slices_Equal_int_int.f k l0 l1=some r) :
  Calls Try.prog 115 #[.slice A0 l0.length c0,.slice A1 l1.length c1] w fun e w'=>e=.returned (.bool r)∧Drawn0 w w':=by
 have HR0:=Aside0.mk hr0
 have HC0:=Aside0.mk hc0
 clear hr0 hc0
 have HR1:=Aside0.mk hr1
 have HC1:=Aside0.mk hc1
 clear hr1 hc1
 have H:(if (l0.length:Int)=(l1.length:Int) then (slices_Equal_int_int.l0 k l0 l1 (l0.length:Int) 0) else (some false))=some r:=h
 clear h
 by_cases c3:(l0.length:Int)=(l1.length:Int)
 ·rw [if_pos c3] at H
  have c3b0:((l0.length:Int) == (l1.length:Int))=true:=beq_iff_eq.mpr c3
  have c3b1:((l0.length:Int) != (l1.length:Int))=false:=bne_eq_false_iff_eq.mpr c3
  have c3b2:(l0.length == l1.length)=true:=by first|simpa using c3|(simp at c3 ⊢;omega)
  clear c3
  have H':=Aside0.mk H
  clear H
  go_enter Try.func115,Try.ntmps115
  go_wp2
  repeat (go_quiet (fail);try go_wp2)
  go_loopg [13] k (fun kq v13 w'=>∃ (x13_1:Int),v13=.int .i64 x13_1∧Aside0 (slices_Equal_int_int.l0 kq l0 l1 (l0.length:Int) x13_1=some r)∧Aside0 (kq≤k)∧Drawn0 w w')
  case atStart=>exact ⟨(0),(by first|rfl|(simp;done)|(simp [*];done)),H',⟨Nat.le_refl _⟩,zdw⟩
  case round =>
   clear H'
   try clear c1
   try clear p2
   try clear c3
   try clear c3b0
   try clear c3b1
   try clear c3b2
   obtain ⟨x13_1,rfl,HA,HK1,⟨m1,rfl⟩⟩:=hrel
   cases gk with
   | zero=>exact absurd HA.out (by simp [slices_Equal_int_int.l0])
   | succ k1 =>
    have H:=HA.out
    clear HA
    simp only [slices_Equal_int_int.l0] at H
    by_cases c4:x13_1 < (l0.length:Int)
    ·rw [if_pos c4] at H
     have c4b0:decide (x13_1 < (l0.length:Int))=true:=decide_eq_true c4
     clear c4
     by_cases c5:0≤x13_1
     ·rw [if_pos c5] at H
      have c5b0:decide (0≤x13_1)=true:=decide_eq_true c5
      clear c5
      by_cases c6:x13_1 < (l0.length:Int)
      ·rw [if_pos c6] at H
       have c6b0:decide (x13_1 < (l0.length:Int))=true:=decide_eq_true c6
       clear c6
       by_cases c7:x13_1 < (l1.length:Int)
       ·rw [if_pos c7] at H
        have c7b0:decide (x13_1 < (l1.length:Int))=true:=decide_eq_true c7
        clear c7
        by_cases c8:(rd l0 x13_1)=(rd l1 x13_1)
        ·rw [if_pos c8] at H
         have c8b0:((rd l0 x13_1) == (rd l1 x13_1))=true:=beq_iff_eq.mpr c8
         have c8b1:((rd l0 x13_1) != (rd l1 x13_1))=false:=bne_eq_false_iff_eq.mpr c8
         clear c8
         have H':=Aside0.mk H
         clear H
         have p261:0≤(x13_1:Int):=zod
         have q261:x13_1 < (l0.length:Int):=zod
         obtain ⟨ad261,e261,hx261_0⟩:=Kd.at_int HR0.out x13_1 p261 q261
         cases e261
         replace p261:=eq_true p261
         replace q261:=eq_true q261
         have p262:0≤(x13_1:Int):=zod
         have q262:x13_1 < (l1.length:Int):=zod
         obtain ⟨ad262,e262,hx262_0⟩:=Kd.at_int HR1.out x13_1 p262 q262
         cases e262
         replace p262:=eq_true p262
         replace q262:=eq_true q262
         go_wp2
         repeat (go_quiet (fail);try go_wp2)
         go_roundg k1
         case measure=>have:=HK1.out;omega
         case rel=>exact ⟨(wrap64 (x13_1 + 1)),(by first|rfl|(simp;done)|(simp [*];done)),H',⟨by have:=HK1.out;omega⟩,zdw⟩
        ·rw [if_neg c8] at H
         have c8b0:((rd l0 x13_1) == (rd l1 x13_1))=false:=beq_eq_false_iff_ne.mpr c8
         have c8b1:((rd l0 x13_1) != (rd l1 x13_1))=true:=bne_iff_ne.mpr c8
         obtain rfl:=Option.some.inj H
         have p261:0≤(x13_1:Int):=zod
         have q261:x13_1 < (l0.length:Int):=zod
         obtain ⟨ad261,e261,hx261_0⟩:=Kd.at_int HR0.out x13_1 p261 q261
         cases e261
         replace p261:=eq_true p261
         replace q261:=eq_true q261
         have p262:0≤(x13_1:Int):=zod
         have q262:x13_1 < (l1.length:Int):=zod
         obtain ⟨ad262,e262,hx262_0⟩:=Kd.at_int HR1.out x13_1 p262 q262
         cases e262
         replace p262:=eq_true p262
         replace q262:=eq_true q262
         go_wp2
         repeat (go_quiet (fail);try go_wp2)
         go_ret
         exact ⟨by first|rfl|(simp;done)|(simp [*];done),zdw⟩
       ·rw [if_neg c7] at H
        exact absurd H (by simp)
      ·rw [if_neg c6] at H
       exact absurd H (by simp)
     ·rw [if_neg c5] at H
      exact absurd H (by simp)
    ·rw [if_neg c4] at H
     have c4b0:decide (x13_1 < (l0.length:Int))=false:=decide_eq_false c4
     clear c4
     obtain rfl:=Option.some.inj H
     go_wp2
     repeat (go_quiet (fail);try go_wp2)
     go_ret
     exact ⟨by first|rfl|(simp;done)|(simp [*];done),zdw⟩
 ·rw [if_neg c3] at H
  have c3b0:((l0.length:Int) == (l1.length:Int))=false:=beq_eq_false_iff_ne.mpr c3
  have c3b1:((l0.length:Int) != (l1.length:Int))=true:=bne_iff_ne.mpr c3
  have c3b2:(l0.length == l1.length)=false:=by first|simpa using c3|(simp at c3 ⊢;omega)
  obtain rfl:=Option.some.inj H
  go_enter Try.func115,Try.ntmps115
  go_wp2
  repeat (go_quiet (fail);try go_wp2)
  go_ret
  exact ⟨by first|rfl|(simp;done)|(simp [*];done),zdw⟩

/-! ### impl_RowSame: function 70 -/
def impl_RowSame.f (k:Nat) (l0:List Int) (l1:List Int):Option (Bool):=(slices_Equal_int_int.f k l0 l1).bind fun t263=>(some t263)
theorem impl_RowSame.mono : ∀ a0 a1 k,LeO (impl_RowSame.f k a0 a1) (impl_RowSame.f (k + 1) a0 a1):=by
 intro a0 a1 k
 unfold impl_RowSame.f
 repeat' first
   | (with_reducible exact slices_Equal_int_int.mono _ _ _)
   | (with_reducible exact LeO.refl _)
   | (with_reducible exact LeO.none _)
   | (with_reducible refine LeO.ite ?_ ?_)
   | (with_reducible refine LeO.bind ?_ (fun _=>?_))
   | exact LeO.none _
   | refine LeO.ite ?_ ?_
   | refine LeO.bind ?_ (fun _=>?_)
set_option maxHeartbeats 8000000 in
set_option maxRecDepth 100000 in
theorem impl_RowSame.calls (k:Nat) (A0:Option Addr) (c0:Nat) (l0:List Int) (A1:Option Addr) (c1:Nat) (l1:List Int) (r:Bool) (w:World) (hr0:Kd.C (Kd.int .i64) w A0 l0.length l0) (hc0:l0.length≤c0) (hr1:Kd.C (Kd.int .i64) w A1 l1.length l1) (hc1:l1.length≤c1) (h:impl_RowSame.f k l0 l1=some r) :
  Calls Try.prog 70 #[.slice A0 l0.length c0,.slice A1 l1.length c1] w fun e w'=>e=.returned (.bool r)∧Drawn0 w w':=by
 have HR0:=Aside0.mk hr0
 have HC0:=Aside0.mk hc0
 clear hr0 hc0
 have HR1:=Aside0.mk hr1
 have HC1:=Aside0.mk hc1
 clear hr1 hc1
 have H:((slices_Equal_int_int.f k l0 l1).bind fun t263=>(some t263))=some r:=h
 clear h
 replace H:=Option.bind_eq_some_iff.mp H
 obtain ⟨t263,A30,H⟩:=H
 (try dsimp only at H)
 have A3:=Aside0.mk A30
 clear A30
 obtain rfl:=Option.some.inj H
 go_enter Try.func70,Try.ntmps70
 go_wp2_with (first|((with_reducible refine gate_callee (f:=115) rfl ?_);refine goesL_ (some 7) rfl rfl Try.func115 (by kernel_rfl) rfl #[.slice A0 l0.length c0,.slice A1 l1.length c1] rfl zar ?_;(with_reducible refine (slices_Equal_int_int.calls k _ _ l0 _ _ l1 t263 _ ?side1 ?side2 ?side3 ?side4 A3.out).mono ?_);(case side1=>exact zC HR0.out);(case side2=>exact HC0.out);(case side3=>exact zC HR1.out);(case side4=>exact HC1.out);rintro e w' ⟨rfl,⟨nd,rfl⟩⟩;refine ⟨_,rfl,?_⟩))
 go_ret
 exact ⟨by first|rfl|(simp;done)|(simp [*];done),zdw⟩

/-! ### impl_ZSame_1: function 69 -/
def impl_ZSame_1.f (k:Nat) (l0_0:List Int) (a0_1:Int) (l1_0:List Int) (a1_1:Int):Option (Bool):=if a0_1=a1_1 then ((impl_RowSame.f k l0_0 l1_0).bind fun t266=>(some t266)) else (some false)
theorem impl_ZSame_1.mono : ∀ a0 a1 a2 a3 k,LeO (impl_ZSame_1.f k a0 a1 a2 a3) (impl_ZSame_1.f (k + 1) a0 a1 a2 a3):=by
 intro a0 a1 a2 a3 k
 unfold impl_ZSame_1.f
 repeat' first
   | (with_reducible exact impl_RowSame.mono _ _ _)
   | (with_reducible exact LeO.refl _)
   | (with_reducible exact LeO.none _)
   | (with_reducible refine LeO.ite ?_ ?_)
   | (with_reducible refine LeO.bind ?_ (fun _=>?_))
   | exact LeO.none _
   | refine LeO.ite ?_ ?_
   | refine LeO.bind ?_ (fun _=>?_)
set_option maxHeartbeats 8000000 in
set_option maxRecDepth 100000 in
theorem impl_ZSame_1.calls (k:Nat) (A0_0:Option Addr) (c0_0:Nat) (l0_0:List Int) (a0_1:Int) (A1_0:Option Addr) (c1_0:Nat) (l1_0:List Int) (a1_1:Int) (r:Bool) (w:World) (hr0_0:Kd.C (Kd.int .i64) w A0_0 l0_0.length l0_0) (hc0_0:l0_0.length≤c0_0) (hr1_0:Kd.C (Kd.int .i64) w A1_0 l1_0.length l1_0) (hc1_0:l1_0.length≤c1_0) (h:impl_ZSame_1.f k l0_0 a0_1 l1_0 a1_1=some r) :
  Calls Try.prog 69 #[.agg #[.slice A0_0 l0_0.length c0_0,.int .i64 a0_1],.agg #[.slice A1_0 l1_0.length c1_0,.int .i64 a1_1]] w fun e w'=>e=.returned (.bool r)∧Below w.heap.size w w':=by
 have hu54:=Try.underlying54
 have HR0_0:=Aside0.mk hr0_0
 have HC0_0:=Aside0.mk hc0_0
 clear hr0_0 hc0_0
 have HR1_0:=Aside0.mk hr1_0
 have HC1_0:=Aside0.mk hc1_0
 clear hr1_0 hc1_0
 have HB:=Aside0.mk (Below.refl w.heap.size w)
 have H:(if a0_1=a1_1 then ((impl_RowSame.f k l0_0 l1_0).bind fun t266=>(some t266)) else (some false))=some r:=h
 clear h
 by_cases c3:a0_1=a1_1
 ·rw [if_pos c3] at H
  have c3b0:(a0_1 == a1_1)=true:=beq_iff_eq.mpr c3
  have c3b1:(a0_1 != a1_1)=false:=bne_eq_false_iff_eq.mpr c3
  clear c3
  replace H:=Option.bind_eq_some_iff.mp H
  obtain ⟨t266,A40,H⟩:=H
  (try dsimp only at H)
  have A4:=Aside0.mk A40
  clear A40
  obtain rfl:=Option.some.inj H
  go_enter Try.func69,Try.ntmps69
  go_wp2_with (first|((with_reducible refine gate_dst (N:=2) rfl ?_);refine box_event ?hg (N:=2) ?hd (cs:=#[.slice A0_0 l0_0.length c0_0,.int .i64 a0_1]) (t:=54) ?hr ?_;(case hd=>rfl);(case hg=>rfl);(case hr=>first|(go_simp;done)|(go_simp;rfl));intro gb264 hg w5 hbox hb;have n0_:=Aside0.mk (below_step zhb hb);have n1_:=Aside0.mk (hbox);have n2_:=Aside0.mk ((by rw [hg];exact (below_size zhb):w.heap.size≤gb264));have n3_:=Aside0.mk ((by rw [hg];exact (below_size zhb):w.heap.size≤gb264));clear HB;have HB:=n0_;have BK264:=n1_;have GW264:=n2_;have GE264:=n3_;clear n0_ n1_ n2_ n3_;clear hb hbox hg)|((with_reducible refine gate_dst (N:=3) rfl ?_);refine box_event ?hg (N:=3) ?hd (cs:=#[.slice A1_0 l1_0.length c1_0,.int .i64 a1_1]) (t:=54) ?hr ?_;(case hd=>rfl);(case hg=>rfl);(case hr=>first|(go_simp;done)|(go_simp;rfl));intro gb265 hg w6 hbox hb;have n0_:=Aside0.mk (blk_below (g:=gb264) (o:=.cells #[.slice A0_0 l0_0.length c0_0,.int .i64 a0_1] 54 (0,0)) (by (with_reducible repeat (first|refine blk_drewN ?_ _|refine blk_drew ?_|refine blk_alloc ?_ _));exact BK264.out) hb);have n1_:=Aside0.mk (below_step (by repeat (first|(with_reducible first|exact HB.out|apply below_alloc|apply pw_below_drewN|apply below_drew1|refine below_set ?_ GE264.out)|exact HB.out)) hb);have n2_:=Aside0.mk (hbox);have n3_:=Aside0.mk ((by rw [hg];exact (below_size (by repeat (first|(with_reducible first|exact HB.out|apply below_alloc|apply pw_below_drewN|apply below_drew1|refine below_set ?_ GE264.out)|exact HB.out))):w.heap.size≤gb265));have n4_:=Aside0.mk ((by rw [hg];exact (below_size (by repeat (first|(with_reducible first|exact HB.out|apply below_alloc|apply pw_below_drewN|apply below_drew1|refine below_set ?_ GE264.out)|exact HB.out))):w.heap.size≤gb265));have n5_:=Aside0.mk ((by rw [hg];exact Nat.ne_of_lt (blk_lt (g:=gb264) (o:=.cells #[.slice A0_0 l0_0.length c0_0,.int .i64 a0_1] 54 (0,0)) (by (with_reducible repeat (first|refine blk_drewN ?_ _|refine blk_drew ?_|refine blk_alloc ?_ _));exact BK264.out)):gb264≠gb265));have n6_:=Aside0.mk ((by rw [hg];exact Nat.ne_of_gt (blk_lt (g:=gb264) (o:=.cells #[.slice A0_0 l0_0.length c0_0,.int .i64 a0_1] 54 (0,0)) (by (with_reducible repeat (first|refine blk_drewN ?_ _|refine blk_drew ?_|refine blk_alloc ?_ _));exact BK264.out)):gb265≠gb264));clear BK264;clear HB;have BK264:=n0_;have HB:=n1_;have BK265:=n2_;have GW265:=n3_;have GE265:=n4_;have NB264_265:=n5_;have NB265_264:=n6_;clear n0_ n1_ n2_ n3_ n4_ n5_ n6_;clear hb hbox hg;have hnb7:=NB264_265.out;have hnc7:=NB265_264.out;have hcz8_0:w6.cell? ⟨gb264,0,none⟩=some (.slice A0_0 l0_0.length c0_0):=(blk_cell BK264.out 0).trans rfl;have hcz8_1:w6.cell? ⟨gb264,1,none⟩=some (.int .i64 a0_1):=(blk_cell BK264.out 1).trans rfl;have hfz8_0:=blk_frozen BK264.out 0;have hfz8_1:=blk_frozen BK264.out 1;have hcz9_0:w6.cell? ⟨gb265,0,none⟩=some (.slice A1_0 l1_0.length c1_0):=(blk_cell BK265.out 0).trans rfl;have hcz9_1:w6.cell? ⟨gb265,1,none⟩=some (.int .i64 a1_1):=(blk_cell BK265.out 1).trans rfl;have hfz9_0:=blk_frozen BK265.out 0;have hfz9_1:=blk_frozen BK265.out 1)|(go_at_call 70;(with_reducible refine (impl_RowSame.calls k _ _ l0_0 _ _ l1_0 t266 _ ?side1 ?side2 ?side3 ?side4 A4.out).mono ?_);(case side1=>exact zC (Kd.C_below HR0_0.out HB.out));(case side2=>exact HC0_0.out);(case side3=>exact zC (Kd.C_below HR1_0.out HB.out));(case side4=>exact HC1_0.out);rintro e w' ⟨rfl,⟨nd,rfl⟩⟩))
  go_ret
  exact ⟨by first|rfl|(simp [errW_none,errW_some] <;> rfl)|(simp [*,errW_none,errW_some] <;> rfl),by repeat (first|(with_reducible first|exact HB.out|apply below_alloc|apply pw_below_drewN|apply below_drew1|refine below_set ?_ GE264.out|refine below_set ?_ GE265.out)|exact HB.out)⟩
 ·rw [if_neg c3] at H
  have c3b0:(a0_1 == a1_1)=false:=beq_eq_false_iff_ne.mpr c3
  have c3b1:(a0_1 != a1_1)=true:=bne_iff_ne.mpr c3
  obtain rfl:=Option.some.inj H
  go_enter Try.func69,Try.ntmps69
  go_wp2_with (first|((with_reducible refine gate_dst (N:=2) rfl ?_);refine box_event ?hg (N:=2) ?hd (cs:=#[.slice A0_0 l0_0.length c0_0,.int .i64 a0_1]) (t:=54) ?hr ?_;(case hd=>rfl);(case hg=>rfl);(case hr=>first|(go_simp;done)|(go_simp;rfl));intro gb264 hg w10 hbox hb;have n0_:=Aside0.mk (below_step zhb hb);have n1_:=Aside0.mk (hbox);have n2_:=Aside0.mk ((by rw [hg];exact (below_size zhb):w.heap.size≤gb264));have n3_:=Aside0.mk ((by rw [hg];exact (below_size zhb):w.heap.size≤gb264));clear HB;have HB:=n0_;have BK264:=n1_;have GW264:=n2_;have GE264:=n3_;clear n0_ n1_ n2_ n3_;clear hb hbox hg)|((with_reducible refine gate_dst (N:=3) rfl ?_);refine box_event ?hg (N:=3) ?hd (cs:=#[.slice A1_0 l1_0.length c1_0,.int .i64 a1_1]) (t:=54) ?hr ?_;(case hd=>rfl);(case hg=>rfl);(case hr=>first|(go_simp;done)|(go_simp;rfl));intro gb265 hg w11 hbox hb;have n0_:=Aside0.mk (blk_below (g:=gb264) (o:=.cells #[.slice A0_0 l0_0.length c0_0,.int .i64 a0_1] 54 (0,0)) (by (with_reducible repeat (first|refine blk_drewN ?_ _|refine blk_drew ?_|refine blk_alloc ?_ _));exact BK264.out) hb);have n1_:=Aside0.mk (below_step (by repeat (first|(with_reducible first|exact HB.out|apply below_alloc|apply pw_below_drewN|apply below_drew1|refine below_set ?_ GE264.out)|exact HB.out)) hb);have n2_:=Aside0.mk (hbox);have n3_:=Aside0.mk ((by rw [hg];exact (below_size (by repeat (first|(with_reducible first|exact HB.out|apply below_alloc|apply pw_below_drewN|apply below_drew1|refine below_set ?_ GE264.out)|exact HB.out))):w.heap.size≤gb265));have n4_:=Aside0.mk ((by rw [hg];exact (below_size (by repeat (first|(with_reducible first|exact HB.out|apply below_alloc|apply pw_below_drewN|apply below_drew1|refine below_set ?_ GE264.out)|exact HB.out))):w.heap.size≤gb265));have n5_:=Aside0.mk ((by rw [hg];exact Nat.ne_of_lt (blk_lt (g:=gb264) (o:=.cells #[.slice A0_0 l0_0.length c0_0,.int .i64 a0_1] 54 (0,0)) (by (with_reducible repeat (first|refine blk_drewN ?_ _|refine blk_drew ?_|refine blk_alloc ?_ _));exact BK264.out)):gb264≠gb265));have n6_:=Aside0.mk ((by rw [hg];exact Nat.ne_of_gt (blk_lt (g:=gb264) (o:=.cells #[.slice A0_0 l0_0.length c0_0,.int .i64 a0_1] 54 (0,0)) (by (with_reducible repeat (first|refine blk_drewN ?_ _|refine blk_drew ?_|refine blk_alloc ?_ _));exact BK264.out)):gb265≠gb264));clear BK264;clear HB;have BK264:=n0_;have HB:=n1_;have BK265:=n2_;have GW265:=n3_;have GE265:=n4_;have NB264_265:=n5_;have NB265_264:=n6_;clear n0_ n1_ n2_ n3_ n4_ n5_ n6_;clear hb hbox hg;have hnb12:=NB264_265.out;have hnc12:=NB265_264.out;have hcz13_0:w11.cell? ⟨gb264,0,none⟩=some (.slice A0_0 l0_0.length c0_0):=(blk_cell BK264.out 0).trans rfl;have hcz13_1:w11.cell? ⟨gb264,1,none⟩=some (.int .i64 a0_1):=(blk_cell BK264.out 1).trans rfl;have hfz13_0:=blk_frozen BK264.out 0;have hfz13_1:=blk_frozen BK264.out 1;have hcz14_0:w11.cell? ⟨gb265,0,none⟩=some (.slice A1_0 l1_0.length c1_0):=(blk_cell BK265.out 0).trans rfl;have hcz14_1:w11.cell? ⟨gb265,1,none⟩=some (.int .i64 a1_1):=(blk_cell BK265.out 1).trans rfl;have hfz14_0:=blk_frozen BK265.out 0;have hfz14_1:=blk_frozen BK265.out 1))
  go_ret
  exact ⟨by first|rfl|(simp [errW_none,errW_some] <;> rfl)|(simp [*,errW_none,errW_some] <;> rfl),by repeat (first|(with_reducible first|exact HB.out|apply below_alloc|apply pw_below_drewN|apply below_drew1|refine below_set ?_ GE264.out|refine below_set ?_ GE265.out)|exact HB.out)⟩

/-! ### slices_EqualFunc_impl_Item_impl_Item_impl_Item_impl_Item__impl_ZSame_1: function 68 -/
def slices_EqualFunc_impl_Item_impl_Item_impl_Item_impl_Item__impl_ZSame_1.l0:Nat→List (S54)→List (S54)→Int→Int→Option (Bool)
 | 0,_,_,_,_=>none
 | k + 1,x1,x15,x16,x17=>if x17 < x16 then (if 0≤x17 then (if x17 < (x15.length:Int) then (if x17 < (x1.length:Int) then ((impl_ZSame_1.f k ((rd_T54 x15 x17).f0) ((rd_T54 x15 x17).f1) ((rd_T54 x1 x17).f0) ((rd_T54 x1 x17).f1)).bind fun t271=>(if t271=true then (slices_EqualFunc_impl_Item_impl_Item_impl_Item_impl_Item__impl_ZSame_1.l0 k x1 x15 x16 (wrap64 (x17 + 1))) else (some false))) else (none)) else (none)) else (none)) else (some true)
def slices_EqualFunc_impl_Item_impl_Item_impl_Item_impl_Item__impl_ZSame_1.f (k:Nat) (l0:List (S54)) (l1:List (S54)) :Option (Bool):=if (l0.length:Int)=(l1.length:Int) then (slices_EqualFunc_impl_Item_impl_Item_impl_Item_impl_Item__impl_ZSame_1.l0 k l1 l0 (l0.length:Int) 0) else (some false)
theorem slices_EqualFunc_impl_Item_impl_Item_impl_Item_impl_Item__impl_ZSame_1.mono_l : ∀ k,(∀ y0 y1 y2 y3,LeO (slices_EqualFunc_impl_Item_impl_Item_impl_Item_impl_Item__impl_ZSame_1.l0 k y0 y1 y2 y3) (slices_EqualFunc_impl_Item_impl_Item_impl_Item_impl_Item__impl_ZSame_1.l0 (k + 1) y0 y1 y2 y3))
 | 0=>fun _ _ _ _ r h=>by simp [slices_EqualFunc_impl_Item_impl_Item_impl_Item_impl_Item__impl_ZSame_1.l0] at h
 | k + 1=>by
  have ih0:=slices_EqualFunc_impl_Item_impl_Item_impl_Item_impl_Item__impl_ZSame_1.mono_l k
  ·intro y0 y1 y2 y3
   unfold slices_EqualFunc_impl_Item_impl_Item_impl_Item_impl_Item__impl_ZSame_1.l0
   repeat' first
   | (with_reducible exact ih0 _ _ _ _)
   | (with_reducible exact impl_ZSame_1.mono _ _ _ _ _)
   | (with_reducible exact LeO.refl _)
   | (with_reducible exact LeO.none _)
   | (with_reducible refine LeO.ite ?_ ?_)
   | (with_reducible refine LeO.bind ?_ (fun _=>?_))
   | exact LeO.none _
   | refine LeO.ite ?_ ?_
   | refine LeO.bind ?_ (fun _=>?_)
theorem slices_EqualFunc_impl_Item_impl_Item_impl_Item_impl_Item__impl_ZSame_1.mono : ∀ a0 a1 k,LeO (slices_EqualFunc_impl_Item_impl_Item_impl_Item_impl_Item__impl_ZSame_1.f k a0 a1) (slices_EqualFunc_impl_Item_impl_Item_impl_Item_impl_Item__impl_ZSame_1.f (k + 1) a0 a1):=by
 intro a0 a1 k
 have ih0:=slices_EqualFunc_impl_Item_impl_Item_impl_Item_impl_Item__impl_ZSame_1.mono_l k
 unfold slices_EqualFunc_impl_Item_impl_Item_impl_Item_impl_Item__impl_ZSame_1.f
 repeat' first
   | (with_reducible exact ih0 _ _ _ _)
   | (with_reducible exact impl_ZSame_1.mono _ _ _ _ _)
   | (with_reducible exact LeO.refl _)
   | (with_reducible exact LeO.none _)
   | (with_reducible refine LeO.ite ?_ ?_)
   | (with_reducible refine LeO.bind ?_ (fun _=>?_))
   | exact LeO.none _
   | refine LeO.ite ?_ ?_
   | refine LeO.bind ?_ (fun _=>?_)
set_option maxHeartbeats 8000000 in
set_option maxRecDepth 100000 in
theorem slices_EqualFunc_impl_Item_impl_Item_impl_Item_impl_Item__impl_ZSame_1.calls (k:Nat) (A0:Option Addr) (c0:Nat) (l0:List (S54)) (A1:Option Addr) (c1:Nat) (l1:List (S54))  (r:Bool) (w:World) (hr0:Kd.C k54 w A0 l0.length l0) (hc0:l0.length≤c0) (hr1:Kd.C k54 w A1 l1.length l1) (hc1:l1.length≤c1) (h:slices_EqualFunc_impl_Item_impl_Item_impl_Item_impl_Item__impl_ZSame_1.f k l0 l1=some r) :
  Calls Try.prog 68 #[.slice A0 l0.length c0,.slice A1 l1.length c1,.func (.func 69) #[] #[]] w fun e w'=>e=.returned (.bool r)∧Below w.heap.size w w':=by
 have hu54:=Try.underlying54
 have HR0:=Aside0.mk hr0
 have HC0:=Aside0.mk hc0
 clear hr0 hc0
 have HR1:=Aside0.mk hr1
 have HC1:=Aside0.mk hc1
 clear hr1 hc1
 have HB:=Aside0.mk (Below.refl w.heap.size w)
 have H:(if (l0.length:Int)=(l1.length:Int) then (slices_EqualFunc_impl_Item_impl_Item_impl_Item_impl_Item__impl_ZSame_1.l0 k l1 l0 (l0.length:Int) 0) else (some false))=some r:=h
 clear h
 by_cases c4:(l0.length:Int)=(l1.length:Int)
 ·rw [if_pos c4] at H
  have c4b0:((l0.length:Int) == (l1.length:Int))=true:=beq_iff_eq.mpr c4
  have c4b1:((l0.length:Int) != (l1.length:Int))=false:=bne_eq_false_iff_eq.mpr c4
  have c4b2:(l0.length == l1.length)=true:=by first|simpa using c4|(simp at c4 ⊢;omega)
  clear c4
  have H':=Aside0.mk H
  clear H
  go_enter Try.func68,Try.ntmps68
  go_wp2
  go_loopg [17] k (fun kq v17 w'=>∃ (x17_1:Int),v17=.int .i64 x17_1∧Aside0 (slices_EqualFunc_impl_Item_impl_Item_impl_Item_impl_Item__impl_ZSame_1.l0 kq l1 l0 (l0.length:Int) x17_1=some r)∧Aside0 (kq≤k)∧Aside0 (Below w.heap.size w w'))
  case atStart=>exact ⟨(0),(by first|rfl|(simp;done)|(simp [*];done)),H',⟨Nat.le_refl _⟩,⟨zhb⟩⟩
  case round =>
   clear H'
   try clear c1
   try clear p2
   try clear c4
   try clear c4b0
   try clear c4b1
   try clear c4b2
   obtain ⟨x17_1,rfl,HA,HK1,HB⟩:=hrel
   cases gk with
   | zero=>exact absurd HA.out (by simp [slices_EqualFunc_impl_Item_impl_Item_impl_Item_impl_Item__impl_ZSame_1.l0])
   | succ k1 =>
    have H:=HA.out
    clear HA
    simp only [slices_EqualFunc_impl_Item_impl_Item_impl_Item_impl_Item__impl_ZSame_1.l0] at H
    by_cases c5:x17_1 < (l0.length:Int)
    ·rw [if_pos c5] at H
     have c5b0:decide (x17_1 < (l0.length:Int))=true:=decide_eq_true c5
     clear c5
     by_cases c6:0≤x17_1
     ·rw [if_pos c6] at H
      have c6b0:decide (0≤x17_1)=true:=decide_eq_true c6
      clear c6
      by_cases c7:x17_1 < (l0.length:Int)
      ·rw [if_pos c7] at H
       have c7b0:decide (x17_1 < (l0.length:Int))=true:=decide_eq_true c7
       clear c7
       by_cases c8:x17_1 < (l1.length:Int)
       ·rw [if_pos c8] at H
        have c8b0:decide (x17_1 < (l1.length:Int))=true:=decide_eq_true c8
        clear c8
        replace H:=Option.bind_eq_some_iff.mp H
        obtain ⟨t271,A90,H⟩:=H
        (try dsimp only at H)
        have A9:=Aside0.mk A90
        clear A90
        by_cases c10:t271=true
        ·subst c10
         have H1:(slices_EqualFunc_impl_Item_impl_Item_impl_Item_impl_Item__impl_ZSame_1.l0 k1 l1 l0 (l0.length:Int) (wrap64 (x17_1 + 1)))=some r:=by rw [if_pos rfl] at H;exact H
         clear H
         have H:=H1
         clear H1
         have H':=Aside0.mk H
         clear H
         have p267:0≤(x17_1:Int):=zod
         have q267:x17_1 < (l0.length:Int):=zod
         obtain ⟨ad267,A267_0,c267_0,e267,hx267_0,hx267_1,hl267_0,hi267_0⟩:=at_T54 HR0.out x17_1 p267 q267
         cases e267
         replace hx267_0:=(HB.out.cell (World.block_lt_of_cell? w _ hx267_0)).trans hx267_0
         replace hx267_1:=(HB.out.cell (World.block_lt_of_cell? w _ hx267_1)).trans hx267_1
         have HR267_0:=Aside0.mk hi267_0
         have HC267_0:=Aside0.mk hl267_0
         clear hi267_0 hl267_0
         replace p267:=eq_true p267
         replace q267:=eq_true q267
         go_wp2_with (first|((with_reducible refine gate_dst (N:=8) rfl ?_);refine box_event ?hg (N:=8) ?hd (cs:=#[.slice none 0 0,.int .i64 0]) (t:=54) ?hr ?_;(case hd=>rfl);(case hg=>rfl);(case hr=>first|(go_simp;done)|(go_simp;rfl));intro gb268 hg w11 hbox hb;have n0_:=Aside0.mk (below_step zhb hb);have n1_:=Aside0.mk (hbox);have n2_:=Aside0.mk ((by rw [hg];exact (below_size zhb):w.heap.size≤gb268));have n3_:=Aside0.mk ((by rw [hg];exact (below_size zhb):w.heap.size≤gb268));clear HB;have HB:=n0_;have BK268:=n1_;have GW268:=n2_;have GE268:=n3_;clear n0_ n1_ n2_ n3_;clear hb hbox hg;have hcz12_0:w11.cell? ⟨gb268,0,none⟩=some (.slice none 0 0):=(blk_cell BK268.out 0).trans rfl;have hcz12_1:w11.cell? ⟨gb268,1,none⟩=some (.int .i64 0):=(blk_cell BK268.out 1).trans rfl;have hfz12_0:=blk_frozen BK268.out 0;have hfz12_1:=blk_frozen BK268.out 1;have p269:0≤(x17_1:Int):=zod;have q269:x17_1 < (l1.length:Int):=zod;obtain ⟨ad269,A269_0,c269_0,e269,hx269_0,hx269_1,hl269_0,hi269_0⟩:=at_T54 HR1.out x17_1 p269 q269;cases e269;have hn269_0:ad269.block≠gb268:=Nat.ne_of_lt (Nat.lt_of_lt_of_le (by have:=World.block_lt_of_cell? _ _ hx269_0;first|rwa [add_block] at this|exact this) GW268.out);have hn269_1:ad269.block≠gb268:=Nat.ne_of_lt (Nat.lt_of_lt_of_le (by have:=World.block_lt_of_cell? _ _ hx269_0;first|rwa [add_block] at this|exact this) GW268.out);replace hx269_0:=(HB.out.cell (World.block_lt_of_cell? w _ hx269_0)).trans hx269_0;replace hx269_1:=(HB.out.cell (World.block_lt_of_cell? w _ hx269_1)).trans hx269_1;have HR269_0:=Aside0.mk hi269_0;have HC269_0:=Aside0.mk hl269_0;clear hi269_0 hl269_0;replace hx269_0:=(cell_far (p:=⟨gb268,0,none⟩) (by first|(rw [add_block];exact hn269_0)|(show (Addr.add _ _).block≠_;rw [add_block];exact hn269_0)|exact hn269_0) (.slice A267_0 ((rd_T54 l0 x17_1).f0).length c267_0)).trans hx269_0;replace hx269_1:=(cell_far (p:=⟨gb268,0,none⟩) (by first|(rw [add_block];exact hn269_0)|(show (Addr.add _ _).block≠_;rw [add_block];exact hn269_0)|exact hn269_0) (.slice A267_0 ((rd_T54 l0 x17_1).f0).length c267_0)).trans hx269_1;replace hx269_0:=(cell_far (p:=⟨gb268,1,none⟩) (by first|(rw [add_block];exact hn269_1)|(show (Addr.add _ _).block≠_;rw [add_block];exact hn269_1)|exact hn269_1) (.int .i64 ((rd_T54 l0 x17_1).f1))).trans hx269_0;replace hx269_1:=(cell_far (p:=⟨gb268,1,none⟩) (by first|(rw [add_block];exact hn269_1)|(show (Addr.add _ _).block≠_;rw [add_block];exact hn269_1)|exact hn269_1) (.int .i64 ((rd_T54 l0 x17_1).f1))).trans hx269_1;clear hn269_0;clear hn269_1;replace p269:=eq_true p269;replace q269:=eq_true q269)|((with_reducible refine gate_dst (N:=9) rfl ?_);refine box_event ?hg (N:=9) ?hd (cs:=#[.slice none 0 0,.int .i64 0]) (t:=54) ?hr ?_;(case hd=>rfl);(case hg=>rfl);(case hr=>first|(go_simp;done)|(go_simp;rfl));intro gb270 hg w13 hbox hb;have n0_:=Aside0.mk (blk_below (g:=gb268) (o:=.cells #[.slice A267_0 ((rd_T54 l0 x17_1).f0).length c267_0,.int .i64 ((rd_T54 l0 x17_1).f1)] 54 (0,0)) (by (with_reducible repeat (first|refine blk_drewN ?_ _|refine blk_drew ?_|refine blk_alloc ?_ _));refine blk_put (cs:=#[.slice A267_0 ((rd_T54 l0 x17_1).f0).length c267_0,.int .i64 0]) ?_ 1 _ rfl;(with_reducible repeat (first|refine blk_drewN ?_ _|refine blk_drew ?_|refine blk_alloc ?_ _));refine blk_put (cs:=#[.slice none 0 0,.int .i64 0]) ?_ 0 _ rfl;(with_reducible repeat (first|refine blk_drewN ?_ _|refine blk_drew ?_|refine blk_alloc ?_ _));exact BK268.out) hb);have n1_:=Aside0.mk (below_step (by repeat (first|(with_reducible first|exact HB.out|apply below_alloc|apply pw_below_drewN|apply below_drew1|refine below_set ?_ GE268.out)|exact HB.out)) hb);have n2_:=Aside0.mk (hbox);have n3_:=Aside0.mk ((by rw [hg];exact (below_size (by repeat (first|(with_reducible first|exact HB.out|apply below_alloc|apply pw_below_drewN|apply below_drew1|refine below_set ?_ GE268.out)|exact HB.out))):w.heap.size≤gb270));have n4_:=Aside0.mk ((by rw [hg];exact (below_size (by repeat (first|(with_reducible first|exact HB.out|apply below_alloc|apply pw_below_drewN|apply below_drew1|refine below_set ?_ GE268.out)|exact HB.out))):w.heap.size≤gb270));have n5_:=Aside0.mk ((by rw [hg];exact Nat.ne_of_lt (blk_lt (g:=gb268) (o:=.cells #[.slice A267_0 ((rd_T54 l0 x17_1).f0).length c267_0,.int .i64 ((rd_T54 l0 x17_1).f1)] 54 (0,0)) (by (with_reducible repeat (first|refine blk_drewN ?_ _|refine blk_drew ?_|refine blk_alloc ?_ _));refine blk_put (cs:=#[.slice A267_0 ((rd_T54 l0 x17_1).f0).length c267_0,.int .i64 0]) ?_ 1 _ rfl;(with_reducible repeat (first|refine blk_drewN ?_ _|refine blk_drew ?_|refine blk_alloc ?_ _));refine blk_put (cs:=#[.slice none 0 0,.int .i64 0]) ?_ 0 _ rfl;(with_reducible repeat (first|refine blk_drewN ?_ _|refine blk_drew ?_|refine blk_alloc ?_ _));exact BK268.out)):gb268≠gb270));have n6_:=Aside0.mk ((by rw [hg];exact Nat.ne_of_gt (blk_lt (g:=gb268) (o:=.cells #[.slice A267_0 ((rd_T54 l0 x17_1).f0).length c267_0,.int .i64 ((rd_T54 l0 x17_1).f1)] 54 (0,0)) (by (with_reducible repeat (first|refine blk_drewN ?_ _|refine blk_drew ?_|refine blk_alloc ?_ _));refine blk_put (cs:=#[.slice A267_0 ((rd_T54 l0 x17_1).f0).length c267_0,.int .i64 0]) ?_ 1 _ rfl;(with_reducible repeat (first|refine blk_drewN ?_ _|refine blk_drew ?_|refine blk_alloc ?_ _));refine blk_put (cs:=#[.slice none 0 0,.int .i64 0]) ?_ 0 _ rfl;(with_reducible repeat (first|refine blk_drewN ?_ _|refine blk_drew ?_|refine blk_alloc ?_ _));exact BK268.out)):gb270≠gb268));clear BK268;clear HB;have BK268:=n0_;have HB:=n1_;have BK270:=n2_;have GW270:=n3_;have GE270:=n4_;have NB268_270:=n5_;have NB270_268:=n6_;clear n0_ n1_ n2_ n3_ n4_ n5_ n6_;clear hb hbox hg;have hnb14:=NB270_268.out;have hnc14:=NB268_270.out;have hcz15_0:w13.cell? ⟨gb270,0,none⟩=some (.slice none 0 0):=(blk_cell BK270.out 0).trans rfl;have hcz15_1:w13.cell? ⟨gb270,1,none⟩=some (.int .i64 0):=(blk_cell BK270.out 1).trans rfl;have hfz15_0:=blk_frozen BK270.out 0;have hfz15_1:=blk_frozen BK270.out 1;have hcz16_0:w13.cell? ⟨gb268,0,none⟩=some (.slice A267_0 ((rd_T54 l0 x17_1).f0).length c267_0):=(blk_cell BK268.out 0).trans rfl;have hcz16_1:w13.cell? ⟨gb268,1,none⟩=some (.int .i64 ((rd_T54 l0 x17_1).f1)):=(blk_cell BK268.out 1).trans rfl;have hfz16_0:=blk_frozen BK268.out 0;have hfz16_1:=blk_frozen BK268.out 1)|(go_at_call 69;(with_reducible refine (impl_ZSame_1.calls k1 _ _ ((rd_T54 l0 x17_1).f0) ((rd_T54 l0 x17_1).f1) _ _ ((rd_T54 l1 x17_1).f0) ((rd_T54 l1 x17_1).f1) true _ ?side1 ?side2 ?side3 ?side4 A9.out).mono ?_);(case side1=>exact Kd.C_below HR267_0.out (by repeat (first|(with_reducible first|exact HB.out|apply below_alloc|apply pw_below_drewN|apply below_drew1|refine below_set ?_ GE268.out|refine below_set ?_ GE270.out)|exact HB.out)));(case side2=>exact HC267_0.out);(case side3=>exact Kd.C_below HR269_0.out (by repeat (first|(with_reducible first|exact HB.out|apply below_alloc|apply pw_below_drewN|apply below_drew1|refine below_set ?_ GE268.out|refine below_set ?_ GE270.out)|exact HB.out)));(case side4=>exact HC269_0.out);rintro e w17 ⟨rfl,hb⟩;have n0_:=Aside0.mk (blk_below (g:=gb268) (o:=.cells #[.slice A267_0 ((rd_T54 l0 x17_1).f0).length c267_0,.int .i64 ((rd_T54 l0 x17_1).f1)] 54 (0,0)) (by (with_reducible repeat (first|refine blk_drewN ?_ _|refine blk_drew ?_|refine blk_alloc ?_ _));refine blk_far ?_ NB268_270.out _;(with_reducible repeat (first|refine blk_drewN ?_ _|refine blk_drew ?_|refine blk_alloc ?_ _));refine blk_far ?_ NB268_270.out _;(with_reducible repeat (first|refine blk_drewN ?_ _|refine blk_drew ?_|refine blk_alloc ?_ _));exact BK268.out) hb);have n1_:=Aside0.mk (blk_below (g:=gb270) (o:=.cells #[.slice A269_0 ((rd_T54 l1 x17_1).f0).length c269_0,.int .i64 ((rd_T54 l1 x17_1).f1)] 54 (0,0)) (by (with_reducible repeat (first|refine blk_drewN ?_ _|refine blk_drew ?_|refine blk_alloc ?_ _));refine blk_put (cs:=#[.slice A269_0 ((rd_T54 l1 x17_1).f0).length c269_0,.int .i64 0]) ?_ 1 _ rfl;(with_reducible repeat (first|refine blk_drewN ?_ _|refine blk_drew ?_|refine blk_alloc ?_ _));refine blk_put (cs:=#[.slice none 0 0,.int .i64 0]) ?_ 0 _ rfl;(with_reducible repeat (first|refine blk_drewN ?_ _|refine blk_drew ?_|refine blk_alloc ?_ _));exact BK270.out) hb);have n2_:=Aside0.mk (below_step (by repeat (first|(with_reducible first|exact HB.out|apply below_alloc|apply pw_below_drewN|apply below_drew1|refine below_set ?_ GE268.out|refine below_set ?_ GE270.out)|exact HB.out)) hb);clear BK268;clear BK270;clear HB;have BK268:=n0_;have BK270:=n1_;have HB:=n2_;clear n0_ n1_ n2_;(try clear hb);(try clear hb2);(try clear hk);(try clear hi)))
         go_roundg k1
         case measure=>have:=HK1.out;omega
         case rel=>exact ⟨(wrap64 (x17_1 + 1)),(by first|rfl|(simp;done)|(simp [*];done)),H',⟨by have:=HK1.out;omega⟩,⟨by repeat (first|(with_reducible first|exact HB.out|apply below_alloc|apply pw_below_drewN|apply below_drew1|refine below_set ?_ GE268.out|refine below_set ?_ GE270.out)|exact HB.out)⟩⟩
        ·replace c10:=Bool.eq_false_iff.mpr c10
         subst c10
         have H1:(some false)=some r:=by rw [if_neg (show ¬ (false=true) by decide)] at H;exact H
         clear H
         have H:=H1
         clear H1
         obtain rfl:=Option.some.inj H
         have p267:0≤(x17_1:Int):=zod
         have q267:x17_1 < (l0.length:Int):=zod
         obtain ⟨ad267,A267_0,c267_0,e267,hx267_0,hx267_1,hl267_0,hi267_0⟩:=at_T54 HR0.out x17_1 p267 q267
         cases e267
         replace hx267_0:=(HB.out.cell (World.block_lt_of_cell? w _ hx267_0)).trans hx267_0
         replace hx267_1:=(HB.out.cell (World.block_lt_of_cell? w _ hx267_1)).trans hx267_1
         have HR267_0:=Aside0.mk hi267_0
         have HC267_0:=Aside0.mk hl267_0
         clear hi267_0 hl267_0
         replace p267:=eq_true p267
         replace q267:=eq_true q267
         go_wp2_with (first|((with_reducible refine gate_dst (N:=8) rfl ?_);refine box_event ?hg (N:=8) ?hd (cs:=#[.slice none 0 0,.int .i64 0]) (t:=54) ?hr ?_;(case hd=>rfl);(case hg=>rfl);(case hr=>first|(go_simp;done)|(go_simp;rfl));intro gb268 hg w18 hbox hb;have n0_:=Aside0.mk (below_step zhb hb);have n1_:=Aside0.mk (hbox);have n2_:=Aside0.mk ((by rw [hg];exact (below_size zhb):w.heap.size≤gb268));have n3_:=Aside0.mk ((by rw [hg];exact (below_size zhb):w.heap.size≤gb268));clear HB;have HB:=n0_;have BK268:=n1_;have GW268:=n2_;have GE268:=n3_;clear n0_ n1_ n2_ n3_;clear hb hbox hg;have hcz19_0:w18.cell? ⟨gb268,0,none⟩=some (.slice none 0 0):=(blk_cell BK268.out 0).trans rfl;have hcz19_1:w18.cell? ⟨gb268,1,none⟩=some (.int .i64 0):=(blk_cell BK268.out 1).trans rfl;have hfz19_0:=blk_frozen BK268.out 0;have hfz19_1:=blk_frozen BK268.out 1;have p269:0≤(x17_1:Int):=zod;have q269:x17_1 < (l1.length:Int):=zod;obtain ⟨ad269,A269_0,c269_0,e269,hx269_0,hx269_1,hl269_0,hi269_0⟩:=at_T54 HR1.out x17_1 p269 q269;cases e269;have hn269_0:ad269.block≠gb268:=Nat.ne_of_lt (Nat.lt_of_lt_of_le (by have:=World.block_lt_of_cell? _ _ hx269_0;first|rwa [add_block] at this|exact this) GW268.out);have hn269_1:ad269.block≠gb268:=Nat.ne_of_lt (Nat.lt_of_lt_of_le (by have:=World.block_lt_of_cell? _ _ hx269_0;first|rwa [add_block] at this|exact this) GW268.out);replace hx269_0:=(HB.out.cell (World.block_lt_of_cell? w _ hx269_0)).trans hx269_0;replace hx269_1:=(HB.out.cell (World.block_lt_of_cell? w _ hx269_1)).trans hx269_1;have HR269_0:=Aside0.mk hi269_0;have HC269_0:=Aside0.mk hl269_0;clear hi269_0 hl269_0;replace hx269_0:=(cell_far (p:=⟨gb268,0,none⟩) (by first|(rw [add_block];exact hn269_0)|(show (Addr.add _ _).block≠_;rw [add_block];exact hn269_0)|exact hn269_0) (.slice A267_0 ((rd_T54 l0 x17_1).f0).length c267_0)).trans hx269_0;replace hx269_1:=(cell_far (p:=⟨gb268,0,none⟩) (by first|(rw [add_block];exact hn269_0)|(show (Addr.add _ _).block≠_;rw [add_block];exact hn269_0)|exact hn269_0) (.slice A267_0 ((rd_T54 l0 x17_1).f0).length c267_0)).trans hx269_1;replace hx269_0:=(cell_far (p:=⟨gb268,1,none⟩) (by first|(rw [add_block];exact hn269_1)|(show (Addr.add _ _).block≠_;rw [add_block];exact hn269_1)|exact hn269_1) (.int .i64 ((rd_T54 l0 x17_1).f1))).trans hx269_0;replace hx269_1:=(cell_far (p:=⟨gb268,1,none⟩) (by first|(rw [add_block];exact hn269_1)|(show (Addr.add _ _).block≠_;rw [add_block];exact hn269_1)|exact hn269_1) (.int .i64 ((rd_T54 l0 x17_1).f1))).trans hx269_1;clear hn269_0;clear hn269_1;replace p269:=eq_true p269;replace q269:=eq_true q269)|((with_reducible refine gate_dst (N:=9) rfl ?_);refine box_event ?hg (N:=9) ?hd (cs:=#[.slice none 0 0,.int .i64 0]) (t:=54) ?hr ?_;(case hd=>rfl);(case hg=>rfl);(case hr=>first|(go_simp;done)|(go_simp;rfl));intro gb270 hg w20 hbox hb;have n0_:=Aside0.mk (blk_below (g:=gb268) (o:=.cells #[.slice A267_0 ((rd_T54 l0 x17_1).f0).length c267_0,.int .i64 ((rd_T54 l0 x17_1).f1)] 54 (0,0)) (by (with_reducible repeat (first|refine blk_drewN ?_ _|refine blk_drew ?_|refine blk_alloc ?_ _));refine blk_put (cs:=#[.slice A267_0 ((rd_T54 l0 x17_1).f0).length c267_0,.int .i64 0]) ?_ 1 _ rfl;(with_reducible repeat (first|refine blk_drewN ?_ _|refine blk_drew ?_|refine blk_alloc ?_ _));refine blk_put (cs:=#[.slice none 0 0,.int .i64 0]) ?_ 0 _ rfl;(with_reducible repeat (first|refine blk_drewN ?_ _|refine blk_drew ?_|refine blk_alloc ?_ _));exact BK268.out) hb);have n1_:=Aside0.mk (below_step (by repeat (first|(with_reducible first|exact HB.out|apply below_alloc|apply pw_below_drewN|apply below_drew1|refine below_set ?_ GE268.out)|exact HB.out)) hb);have n2_:=Aside0.mk (hbox);have n3_:=Aside0.mk ((by rw [hg];exact (below_size (by repeat (first|(with_reducible first|exact HB.out|apply below_alloc|apply pw_below_drewN|apply below_drew1|refine below_set ?_ GE268.out)|exact HB.out))):w.heap.size≤gb270));have n4_:=Aside0.mk ((by rw [hg];exact (below_size (by repeat (first|(with_reducible first|exact HB.out|apply below_alloc|apply pw_below_drewN|apply below_drew1|refine below_set ?_ GE268.out)|exact HB.out))):w.heap.size≤gb270));have n5_:=Aside0.mk ((by rw [hg];exact Nat.ne_of_lt (blk_lt (g:=gb268) (o:=.cells #[.slice A267_0 ((rd_T54 l0 x17_1).f0).length c267_0,.int .i64 ((rd_T54 l0 x17_1).f1)] 54 (0,0)) (by (with_reducible repeat (first|refine blk_drewN ?_ _|refine blk_drew ?_|refine blk_alloc ?_ _));refine blk_put (cs:=#[.slice A267_0 ((rd_T54 l0 x17_1).f0).length c267_0,.int .i64 0]) ?_ 1 _ rfl;(with_reducible repeat (first|refine blk_drewN ?_ _|refine blk_drew ?_|refine blk_alloc ?_ _));refine blk_put (cs:=#[.slice none 0 0,.int .i64 0]) ?_ 0 _ rfl;(with_reducible repeat (first|refine blk_drewN ?_ _|refine blk_drew ?_|refine blk_alloc ?_ _));exact BK268.out)):gb268≠gb270));have n6_:=Aside0.mk ((by rw [hg];exact Nat.ne_of_gt (blk_lt (g:=gb268) (o:=.cells #[.slice A267_0 ((rd_T54 l0 x17_1).f0).length c267_0,.int .i64 ((rd_T54 l0 x17_1).f1)] 54 (0,0)) (by (with_reducible repeat (first|refine blk_drewN ?_ _|refine blk_drew ?_|refine blk_alloc ?_ _));refine blk_put (cs:=#[.slice A267_0 ((rd_T54 l0 x17_1).f0).length c267_0,.int .i64 0]) ?_ 1 _ rfl;(with_reducible repeat (first|refine blk_drewN ?_ _|refine blk_drew ?_|refine blk_alloc ?_ _));refine blk_put (cs:=#[.slice none 0 0,.int .i64 0]) ?_ 0 _ rfl;(with_reducible repeat (first|refine blk_drewN ?_ _|refine blk_drew ?_|refine blk_alloc ?_ _));exact BK268.out)):gb270≠gb268));clear BK268;clear HB;have BK268:=n0_;have HB:=n1_;have BK270:=n2_;have GW270:=n3_;have GE270:=n4_;have NB268_270:=n5_;have NB270_268:=n6_;clear n0_ n1_ n2_ n3_ n4_ n5_ n6_;clear hb hbox hg;have hnb21:=NB270_268.out;have hnc21:=NB268_270.out;have hcz22_0:w20.cell? ⟨gb270,0,none⟩=some (.slice none 0 0):=(blk_cell BK270.out 0).trans rfl;have hcz22_1:w20.cell? ⟨gb270,1,none⟩=some (.int .i64 0):=(blk_cell BK270.out 1).trans rfl;have hfz22_0:=blk_frozen BK270.out 0;have hfz22_1:=blk_frozen BK270.out 1;have hcz23_0:w20.cell? ⟨gb268,0,none⟩=some (.slice A267_0 ((rd_T54 l0 x17_1).f0).length c267_0):=(blk_cell BK268.out 0).trans rfl;have hcz23_1:w20.cell? ⟨gb268,1,none⟩=some (.int .i64 ((rd_T54 l0 x17_1).f1)):=(blk_cell BK268.out 1).trans rfl;have hfz23_0:=blk_frozen BK268.out 0;have hfz23_1:=blk_frozen BK268.out 1)|(go_at_call 69;(with_reducible refine (impl_ZSame_1.calls k1 _ _ ((rd_T54 l0 x17_1).f0) ((rd_T54 l0 x17_1).f1) _ _ ((rd_T54 l1 x17_1).f0) ((rd_T54 l1 x17_1).f1) false _ ?side1 ?side2 ?side3 ?side4 A9.out).mono ?_);(case side1=>exact Kd.C_below HR267_0.out (by repeat (first|(with_reducible first|exact HB.out|apply below_alloc|apply pw_below_drewN|apply below_drew1|refine below_set ?_ GE268.out|refine below_set ?_ GE270.out)|exact HB.out)));(case side2=>exact HC267_0.out);(case side3=>exact Kd.C_below HR269_0.out (by repeat (first|(with_reducible first|exact HB.out|apply below_alloc|apply pw_below_drewN|apply below_drew1|refine below_set ?_ GE268.out|refine below_set ?_ GE270.out)|exact HB.out)));(case side4=>exact HC269_0.out);rintro e w24 ⟨rfl,hb⟩;have n0_:=Aside0.mk (blk_below (g:=gb268) (o:=.cells #[.slice A267_0 ((rd_T54 l0 x17_1).f0).length c267_0,.int .i64 ((rd_T54 l0 x17_1).f1)] 54 (0,0)) (by (with_reducible repeat (first|refine blk_drewN ?_ _|refine blk_drew ?_|refine blk_alloc ?_ _));refine blk_far ?_ NB268_270.out _;(with_reducible repeat (first|refine blk_drewN ?_ _|refine blk_drew ?_|refine blk_alloc ?_ _));refine blk_far ?_ NB268_270.out _;(with_reducible repeat (first|refine blk_drewN ?_ _|refine blk_drew ?_|refine blk_alloc ?_ _));exact BK268.out) hb);have n1_:=Aside0.mk (blk_below (g:=gb270) (o:=.cells #[.slice A269_0 ((rd_T54 l1 x17_1).f0).length c269_0,.int .i64 ((rd_T54 l1 x17_1).f1)] 54 (0,0)) (by (with_reducible repeat (first|refine blk_drewN ?_ _|refine blk_drew ?_|refine blk_alloc ?_ _));refine blk_put (cs:=#[.slice A269_0 ((rd_T54 l1 x17_1).f0).length c269_0,.int .i64 0]) ?_ 1 _ rfl;(with_reducible repeat (first|refine blk_drewN ?_ _|refine blk_drew ?_|refine blk_alloc ?_ _));refine blk_put (cs:=#[.slice none 0 0,.int .i64 0]) ?_ 0 _ rfl;(with_reducible repeat (first|refine blk_drewN ?_ _|refine blk_drew ?_|refine blk_alloc ?_ _));exact BK270.out) hb);have n2_:=Aside0.mk (below_step (by repeat (first|(with_reducible first|exact HB.out|apply below_alloc|apply pw_below_drewN|apply below_drew1|refine below_set ?_ GE268.out|refine below_set ?_ GE270.out)|exact HB.out)) hb);clear BK268;clear BK270;clear HB;have BK268:=n0_;have BK270:=n1_;have HB:=n2_;clear n0_ n1_ n2_;(try clear hb);(try clear hb2);(try clear hk);(try clear hi)))
         go_ret
         exact ⟨by first|rfl|(simp [errW_none,errW_some] <;> rfl)|(simp [*,errW_none,errW_some] <;> rfl),by repeat (first|(with_reducible first|exact HB.out|apply below_alloc|apply pw_below_drewN|apply below_drew1|refine below_set ?_ GE268.out|refine below_set ?_ GE270.out)|exact HB.out)⟩
       ·rw [if_neg c8] at H
        exact absurd H (by simp)
      ·rw [if_neg c7] at H
       exact absurd H (by simp)
     ·rw [if_neg c6] at H
      exact absurd H (by simp)
    ·rw [if_neg c5] at H
     have c5b0:decide (x17_1 < (l0.length:Int))=false:=decide_eq_false c5
     clear c5
     obtain rfl:=Option.some.inj H
     go_wp2
     go_ret
     exact ⟨by first|rfl|(simp [errW_none,errW_some] <;> rfl)|(simp [*,errW_none,errW_some] <;> rfl),zhb⟩
 ·rw [if_neg c4] at H
  have c4b0:((l0.length:Int) == (l1.length:Int))=false:=beq_eq_false_iff_ne.mpr c4
  have c4b1:((l0.length:Int) != (l1.length:Int))=true:=bne_iff_ne.mpr c4
  have c4b2:(l0.length == l1.length)=false:=by first|simpa using c4|(simp at c4 ⊢;omega)
  obtain rfl:=Option.some.inj H
  go_enter Try.func68,Try.ntmps68
  go_wp2
  go_ret
  exact ⟨by first|rfl|(simp [errW_none,errW_some] <;> rfl)|(simp [*,errW_none,errW_some] <;> rfl),zhb⟩

/-! ### impl_ZSame: function 29 -/
def impl_ZSame.f (k:Nat) (l0:List (S54)) (l1:List (S54)):Option (Bool):=(slices_EqualFunc_impl_Item_impl_Item_impl_Item_impl_Item__impl_ZSame_1.f k l0 l1).bind fun t272=>(some t272)
theorem impl_ZSame.mono : ∀ a0 a1 k,LeO (impl_ZSame.f k a0 a1) (impl_ZSame.f (k + 1) a0 a1):=by
 intro a0 a1 k
 unfold impl_ZSame.f
 repeat' first
   | (with_reducible exact slices_EqualFunc_impl_Item_impl_Item_impl_Item_impl_Item__impl_ZSame_1.mono _ _ _)
   | (with_reducible exact LeO.refl _)
   | (with_reducible exact LeO.none _)
   | (with_reducible refine LeO.ite ?_ ?_)
   | (with_reducible refine LeO.bind ?_ (fun _=>?_))
   | exact LeO.none _
   | refine LeO.ite ?_ ?_
   | refine LeO.bind ?_ (fun _=>?_)
set_option maxHeartbeats 8000000 in
set_option maxRecDepth 100000 in
theorem impl_ZSame.calls (k:Nat) (A0:Option Addr) (c0:Nat) (l0:List (S54)) (A1:Option Addr) (c1:Nat) (l1:List (S54)) (r:Bool) (w:World) (hr0:Kd.C k54 w A0 l0.length l0) (hc0:l0.length≤c0) (hr1:Kd.C k54 w A1 l1.length l1) (hc1:l1.length≤c1) (h:impl_ZSame.f k l0 l1=some r) :
  Calls Try.prog 29 #[.slice A0 l0.length c0,.slice A1 l1.length c1] w fun e w'=>e=.returned (.bool r)∧Below w.heap.size w w':=by
 have HR0:=Aside0.mk hr0
 have HC0:=Aside0.mk hc0
 clear hr0 hc0
 have HR1:=Aside0.mk hr1
 have HC1:=Aside0.mk hc1
 clear hr1 hc1
 have HB:=Aside0.mk (Below.refl w.heap.size w)
 have H:((slices_EqualFunc_impl_Item_impl_Item_impl_Item_impl_Item__impl_ZSame_1.f k l0 l1).bind fun t272=>(some t272))=some r:=h
 clear h
 replace H:=Option.bind_eq_some_iff.mp H
 obtain ⟨t272,A30,H⟩:=H
 (try dsimp only at H)
 have A3:=Aside0.mk A30
 clear A30
 obtain rfl:=Option.some.inj H
 go_enter Try.func29,Try.ntmps29
 go_wp2_with (first|(go_at_call 68;(with_reducible refine (slices_EqualFunc_impl_Item_impl_Item_impl_Item_impl_Item__impl_ZSame_1.calls k _ _ l0 _ _ l1  t272 _ ?side1 ?side2 ?side3 ?side4 A3.out).mono ?_);(case side1=>exact zC HR0.out);(case side2=>exact HC0.out);(case side3=>exact zC HR1.out);(case side4=>exact HC1.out);rintro e w4 ⟨rfl,hb⟩;have n0_:=Aside0.mk (below_step zhb hb);clear HB;have HB:=n0_;clear n0_;(try clear hb);(try clear hb2);(try clear hk);(try clear hi)))
 go_ret
 exact ⟨by first|rfl|(simp [errW_none,errW_some] <;> rfl)|(simp [*,errW_none,errW_some] <;> rfl),zhb⟩

-- NOT PRINTED: function 71 (slices_BinarySearchFunc_impl_Item_impl_Item_int)

/-! ### impl_ZGet_1: function 72 -/
def impl_ZGet_1.f (k:Nat) (l0_0:List Int) (a0_1:Int) (l1:List Int):Option (Int):=(slices_Compare_int_int.f k l0_0 l1).bind fun t274=>(some t274)
theorem impl_ZGet_1.mono : ∀ a0 a1 a2 k,LeO (impl_ZGet_1.f k a0 a1 a2) (impl_ZGet_1.f (k + 1) a0 a1 a2):=by
 intro a0 a1 a2 k
 unfold impl_ZGet_1.f
 repeat' first
   | (with_reducible exact slices_Compare_int_int.mono _ _ _)
   | (with_reducible exact LeO.refl _)
   | (with_reducible exact LeO.none _)
   | (with_reducible refine LeO.ite ?_ ?_)
   | (with_reducible refine LeO.bind ?_ (fun _=>?_))
   | exact LeO.none _
   | refine LeO.ite ?_ ?_
   | refine LeO.bind ?_ (fun _=>?_)
set_option maxHeartbeats 8000000 in
set_option maxRecDepth 100000 in
theorem impl_ZGet_1.calls (k:Nat) (A0_0:Option Addr) (c0_0:Nat) (l0_0:List Int) (a0_1:Int) (A1:Option Addr) (c1:Nat) (l1:List Int) (r:Int) (w:World) (hr0_0:Kd.C (Kd.int .i64) w A0_0 l0_0.length l0_0) (hc0_0:l0_0.length≤c0_0) (hr1:Kd.C (Kd.int .i64) w A1 l1.length l1) (hc1:l1.length≤c1) (h:impl_ZGet_1.f k l0_0 a0_1 l1=some r) :
  Calls Try.prog 72 #[.agg #[.slice A0_0 l0_0.length c0_0,.int .i64 a0_1],.slice A1 l1.length c1] w fun e w'=>e=.returned (.int .i64 r)∧Below w.heap.size w w':=by
 have hu54:=Try.underlying54
 have HR0_0:=Aside0.mk hr0_0
 have HC0_0:=Aside0.mk hc0_0
 clear hr0_0 hc0_0
 have HR1:=Aside0.mk hr1
 have HC1:=Aside0.mk hc1
 clear hr1 hc1
 have HB:=Aside0.mk (Below.refl w.heap.size w)
 have H:((slices_Compare_int_int.f k l0_0 l1).bind fun t274=>(some t274))=some r:=h
 clear h
 replace H:=Option.bind_eq_some_iff.mp H
 obtain ⟨t274,A30,H⟩:=H
 (try dsimp only at H)
 have A3:=Aside0.mk A30
 clear A30
 obtain rfl:=Option.some.inj H
 go_enter Try.func72,Try.ntmps72
 go_wp2_with (first|((with_reducible refine gate_dst (N:=2) rfl ?_);refine box_event ?hg (N:=2) ?hd (cs:=#[.slice A0_0 l0_0.length c0_0,.int .i64 a0_1]) (t:=54) ?hr ?_;(case hd=>rfl);(case hg=>rfl);(case hr=>first|(go_simp;done)|(go_simp;rfl));intro gb273 hg w4 hbox hb;have n0_:=Aside0.mk (below_step zhb hb);have n1_:=Aside0.mk (hbox);have n2_:=Aside0.mk ((by rw [hg];exact (below_size zhb):w.heap.size≤gb273));have n3_:=Aside0.mk ((by rw [hg];exact (below_size zhb):w.heap.size≤gb273));clear HB;have HB:=n0_;have BK273:=n1_;have GW273:=n2_;have GE273:=n3_;clear n0_ n1_ n2_ n3_;clear hb hbox hg;have hcz5_0:w4.cell? ⟨gb273,0,none⟩=some (.slice A0_0 l0_0.length c0_0):=(blk_cell BK273.out 0).trans rfl;have hcz5_1:w4.cell? ⟨gb273,1,none⟩=some (.int .i64 a0_1):=(blk_cell BK273.out 1).trans rfl;have hfz5_0:=blk_frozen BK273.out 0;have hfz5_1:=blk_frozen BK273.out 1)|((with_reducible refine gate_callee (f:=73) rfl ?_);refine goesL_ (some 8) rfl rfl Try.func73 (by kernel_rfl) rfl #[.slice A0_0 l0_0.length c0_0,.slice A1 l1.length c1] rfl zar ?_;(with_reducible refine (slices_Compare_int_int.calls k _ _ l0_0 _ _ l1 t274 _ ?side1 ?side2 ?side3 ?side4 A3.out).mono ?_);(case side1=>exact zC (Kd.C_below HR0_0.out HB.out));(case side2=>exact HC0_0.out);(case side3=>exact zC (Kd.C_below HR1.out HB.out));(case side4=>exact HC1.out);rintro e w' ⟨rfl,⟨nd,rfl⟩⟩;refine ⟨_,rfl,?_⟩))
 go_ret
 exact ⟨by first|rfl|(simp [errW_none,errW_some] <;> rfl)|(simp [*,errW_none,errW_some] <;> rfl),by repeat (first|(with_reducible first|exact HB.out|apply below_alloc|apply pw_below_drewN|apply below_drew1|refine below_set ?_ GE273.out)|exact HB.out)⟩

/-! ### slices_BinarySearchFunc_impl_Item_impl_Item_int__impl_ZGet_1: function 71 -/
def slices_BinarySearchFunc_impl_Item_impl_Item_int__impl_ZGet_1.l0:Nat→List (S54)→List Int→Int→Int→Int→Option (Int × Bool)
 | 0,_,_,_,_,_=>none
 | k + 1,x0,x1,x8,x9,x10=>if x9 < x10 then (if 0≤(wrap64 ((IntKind.u64.wrap (wrap64 (x9 + x10))) / 2)) then (if (wrap64 ((IntKind.u64.wrap (wrap64 (x9 + x10))) / 2)) < (x0.length:Int) then ((impl_ZGet_1.f k ((rd_T54 x0 (wrap64 ((IntKind.u64.wrap (wrap64 (x9 + x10))) / 2))).f0) ((rd_T54 x0 (wrap64 ((IntKind.u64.wrap (wrap64 (x9 + x10))) / 2))).f1) x1).bind fun t277=>(if t277 < 0 then (slices_BinarySearchFunc_impl_Item_impl_Item_int__impl_ZGet_1.l0 k x0 x1 x8 (wrap64 ((wrap64 ((IntKind.u64.wrap (wrap64 (x9 + x10))) / 2)) + 1)) x10) else (slices_BinarySearchFunc_impl_Item_impl_Item_int__impl_ZGet_1.l0 k x0 x1 x8 x9 (wrap64 ((IntKind.u64.wrap (wrap64 (x9 + x10))) / 2))))) else (none)) else (none)) else (if x9 < x8 then (if 0≤x9 then (if x9 < (x0.length:Int) then ((impl_ZGet_1.f k ((rd_T54 x0 x9).f0) ((rd_T54 x0 x9).f1) x1).bind fun t279=>(some (x9,(t279 == 0)))) else (none)) else (none)) else (some (x9,false)))
def slices_BinarySearchFunc_impl_Item_impl_Item_int__impl_ZGet_1.f (k:Nat) (l0:List (S54)) (l1:List Int) :Option (Int × Bool):=slices_BinarySearchFunc_impl_Item_impl_Item_int__impl_ZGet_1.l0 k l0 l1 (l0.length:Int) 0 (l0.length:Int)
theorem slices_BinarySearchFunc_impl_Item_impl_Item_int__impl_ZGet_1.mono_l : ∀ k,(∀ y0 y1 y2 y3 y4,LeO (slices_BinarySearchFunc_impl_Item_impl_Item_int__impl_ZGet_1.l0 k y0 y1 y2 y3 y4) (slices_BinarySearchFunc_impl_Item_impl_Item_int__impl_ZGet_1.l0 (k + 1) y0 y1 y2 y3 y4))
 | 0=>fun _ _ _ _ _ r h=>by simp [slices_BinarySearchFunc_impl_Item_impl_Item_int__impl_ZGet_1.l0] at h
 | k + 1=>by
  have ih0:=slices_BinarySearchFunc_impl_Item_impl_Item_int__impl_ZGet_1.mono_l k
  ·intro y0 y1 y2 y3 y4
   unfold slices_BinarySearchFunc_impl_Item_impl_Item_int__impl_ZGet_1.l0
   repeat' first
   | (with_reducible exact ih0 _ _ _ _ _)
   | (with_reducible exact impl_ZGet_1.mono _ _ _ _)
   | (with_reducible exact LeO.refl _)
   | (with_reducible exact LeO.none _)
   | (with_reducible refine LeO.ite ?_ ?_)
   | (with_reducible refine LeO.bind ?_ (fun _=>?_))
   | exact LeO.none _
   | refine LeO.ite ?_ ?_
   | refine LeO.bind ?_ (fun _=>?_)
theorem slices_BinarySearchFunc_impl_Item_impl_Item_int__impl_ZGet_1.mono : ∀ a0 a1 k,LeO (slices_BinarySearchFunc_impl_Item_impl_Item_int__impl_ZGet_1.f k a0 a1) (slices_BinarySearchFunc_impl_Item_impl_Item_int__impl_ZGet_1.f (k + 1) a0 a1):=by
 intro a0 a1 k
 have ih0:=slices_BinarySearchFunc_impl_Item_impl_Item_int__impl_ZGet_1.mono_l k
 unfold slices_BinarySearchFunc_impl_Item_impl_Item_int__impl_ZGet_1.f
 repeat' first
   | (with_reducible exact ih0 _ _ _ _ _)
   | (with_reducible exact impl_ZGet_1.mono _ _ _ _)
   | (with_reducible exact LeO.refl _)
   | (with_reducible exact LeO.none _)
   | (with_reducible refine LeO.ite ?_ ?_)
   | (with_reducible refine LeO.bind ?_ (fun _=>?_))
   | exact LeO.none _
   | refine LeO.ite ?_ ?_
   | refine LeO.bind ?_ (fun _=>?_)
set_option maxHeartbeats 8000000 in
set_option maxRecDepth 100000 in
theorem slices_BinarySearchFunc_impl_Item_impl_Item_int__impl_ZGet_1.calls (k:Nat) (A0:Option Addr) (c0:Nat) (l0:List (S54)) (A1:Option Addr) (c1:Nat) (l1:List Int)  (r1:Int) (r2:Bool) (w:World) (hr0:Kd.C k54 w A0 l0.length l0) (hc0:l0.length≤c0) (hr1:Kd.C (Kd.int .i64) w A1 l1.length l1) (hc1:l1.length≤c1) (h:slices_BinarySearchFunc_impl_Item_impl_Item_int__impl_ZGet_1.f k l0 l1=some (r1,r2)) :
  Calls Try.prog 71 #[.slice A0 l0.length c0,.slice A1 l1.length c1,.func (.func 72) #[] #[]] w fun e w'=>e=.returned (.tuple #[.int .i64 r1,.bool r2])∧Below w.heap.size w w':=by
 have hu54:=Try.underlying54
 have HR0:=Aside0.mk hr0
 have HC0:=Aside0.mk hc0
 clear hr0 hc0
 have HR1:=Aside0.mk hr1
 have HC1:=Aside0.mk hc1
 clear hr1 hc1
 have HB:=Aside0.mk (Below.refl w.heap.size w)
 have H:(slices_BinarySearchFunc_impl_Item_impl_Item_int__impl_ZGet_1.l0 k l0 l1 (l0.length:Int) 0 (l0.length:Int))=some (r1,r2):=h
 clear h
 have H':=Aside0.mk H
 clear H
 go_enter Try.func71,Try.ntmps71
 go_wp2
 go_loopg [9,10] k (fun kq v9 v10 w'=>∃ (x9_1:Int) (x10_1:Int),v9=.int .i64 x9_1∧v10=.int .i64 x10_1∧Aside0 (slices_BinarySearchFunc_impl_Item_impl_Item_int__impl_ZGet_1.l0 kq l0 l1 (l0.length:Int) x9_1 x10_1=some (r1,r2))∧Aside0 (kq≤k)∧Aside0 (Below w.heap.size w w'))
 case atStart=>exact ⟨(0),((l0.length:Int)),(by first|rfl|(simp;done)|(simp [*];done)),(by first|rfl|(simp;done)|(simp [*];done)),H',⟨Nat.le_refl _⟩,⟨zhb⟩⟩
 case round =>
  clear H'
  try clear c1
  try clear p2
  obtain ⟨x9_1,x10_1,rfl,rfl,HA,HK1,HB⟩:=hrel
  cases gk with
  | zero=>exact absurd HA.out (by simp [slices_BinarySearchFunc_impl_Item_impl_Item_int__impl_ZGet_1.l0])
  | succ k1 =>
   have H:=HA.out
   clear HA
   simp only [slices_BinarySearchFunc_impl_Item_impl_Item_int__impl_ZGet_1.l0] at H
   by_cases c4:x9_1 < x10_1
   ·rw [if_pos c4] at H
    have c4b0:decide (x9_1 < x10_1)=true:=decide_eq_true c4
    clear c4
    obtain ⟨ji5,hji5⟩ : ∃ j_:Int,(wrap64 ((IntKind.u64.wrap (wrap64 (x9_1 + x10_1))) / 2))=j_:=⟨_,rfl⟩
    replace H:(if 0≤(ji5) then (if (ji5) < (l0.length:Int) then ((impl_ZGet_1.f k1 ((rd_T54 l0 (ji5)).f0) ((rd_T54 l0 (ji5)).f1) l1).bind fun t277=>(if t277 < 0 then (slices_BinarySearchFunc_impl_Item_impl_Item_int__impl_ZGet_1.l0 k1 l0 l1 (l0.length:Int) (wrap64 ((ji5) + 1)) x10_1) else (slices_BinarySearchFunc_impl_Item_impl_Item_int__impl_ZGet_1.l0 k1 l0 l1 (l0.length:Int) x9_1 ji5))) else (none)) else (none))=some (r1,r2):=by first|(rw [hji5] at H;exact H)|(simp only [hji5] at H ⊢;exact H)
    have hji5w:(IntKind.i64.wrap ((IntKind.u64.wrap (wrap64 (x9_1 + x10_1))) / 2))=ji5:=(i64_w _).trans hji5
    by_cases c6:0≤(ji5)
    ·rw [if_pos c6] at H
     have c6b0:decide (0≤(ji5))=true:=decide_eq_true c6
     clear c6
     by_cases c7:(ji5) < (l0.length:Int)
     ·rw [if_pos c7] at H
      have c7b0:decide ((ji5) < (l0.length:Int))=true:=decide_eq_true c7
      clear c7
      replace H:=Option.bind_eq_some_iff.mp H
      obtain ⟨t277,A80,H⟩:=H
      (try dsimp only at H)
      have A8:=Aside0.mk A80
      clear A80
      by_cases c9:t277 < 0
      ·rw [if_pos c9] at H
       have c9b0:decide (t277 < 0)=true:=decide_eq_true c9
       clear c9
       have H':=Aside0.mk H
       clear H
       have p276:0≤((ji5):Int):=zod
       have q276:(ji5) < (l0.length:Int):=zod
       obtain ⟨ad276,A276_0,c276_0,e276,hx276_0,hx276_1,hl276_0,hi276_0⟩:=at_T54 HR0.out (ji5) p276 q276
       cases e276
       replace hx276_0:=(HB.out.cell (World.block_lt_of_cell? w _ hx276_0)).trans hx276_0
       replace hx276_1:=(HB.out.cell (World.block_lt_of_cell? w _ hx276_1)).trans hx276_1
       have HR276_0:=Aside0.mk hi276_0
       have HC276_0:=Aside0.mk hl276_0
       clear hi276_0 hl276_0
       replace p276:=eq_true p276
       replace q276:=eq_true q276
       go_wp2_with (first|(go_at_call 72;(with_reducible refine (impl_ZGet_1.calls k1 _ _ ((rd_T54 l0 (ji5)).f0) ((rd_T54 l0 (ji5)).f1) _ _ l1 t277 _ ?side1 ?side2 ?side3 ?side4 A8.out).mono ?_);(case side1=>exact zC (Kd.C_below HR276_0.out HB.out));(case side2=>exact HC276_0.out);(case side3=>exact zC (Kd.C_below HR1.out HB.out));(case side4=>exact HC1.out);rintro e w10 ⟨rfl,hb⟩;have n0_:=Aside0.mk (below_step zhb hb);clear HB;have HB:=n0_;clear n0_;(try clear hb);(try clear hb2);(try clear hk);(try clear hi)))
       go_roundg k1
       case measure=>have:=HK1.out;omega
       case rel=>exact ⟨(wrap64 ((ji5) + 1)),(x10_1),(by first|rfl|(simp;done)|(simp only [← hji5] <;> (first|rfl|simp))|(simp [*];done)),(by first|rfl|(simp;done)|(simp [*];done)),H',⟨by have:=HK1.out;omega⟩,⟨zhb⟩⟩
      ·rw [if_neg c9] at H
       have c9b0:decide (t277 < 0)=false:=decide_eq_false c9
       clear c9
       have H':=Aside0.mk H
       clear H
       have p276:0≤((ji5):Int):=zod
       have q276:(ji5) < (l0.length:Int):=zod
       obtain ⟨ad276,A276_0,c276_0,e276,hx276_0,hx276_1,hl276_0,hi276_0⟩:=at_T54 HR0.out (ji5) p276 q276
       cases e276
       replace hx276_0:=(HB.out.cell (World.block_lt_of_cell? w _ hx276_0)).trans hx276_0
       replace hx276_1:=(HB.out.cell (World.block_lt_of_cell? w _ hx276_1)).trans hx276_1
       have HR276_0:=Aside0.mk hi276_0
       have HC276_0:=Aside0.mk hl276_0
       clear hi276_0 hl276_0
       replace p276:=eq_true p276
       replace q276:=eq_true q276
       go_wp2_with (first|(go_at_call 72;(with_reducible refine (impl_ZGet_1.calls k1 _ _ ((rd_T54 l0 (ji5)).f0) ((rd_T54 l0 (ji5)).f1) _ _ l1 t277 _ ?side1 ?side2 ?side3 ?side4 A8.out).mono ?_);(case side1=>exact zC (Kd.C_below HR276_0.out HB.out));(case side2=>exact HC276_0.out);(case side3=>exact zC (Kd.C_below HR1.out HB.out));(case side4=>exact HC1.out);rintro e w11 ⟨rfl,hb⟩;have n0_:=Aside0.mk (below_step zhb hb);clear HB;have HB:=n0_;clear n0_;(try clear hb);(try clear hb2);(try clear hk);(try clear hi)))
       go_roundg k1
       case measure=>have:=HK1.out;omega
       case rel=>exact ⟨(x9_1),(ji5),(by first|rfl|(simp;done)|(simp [*];done)),(by first|rfl|(simp;done)|(simp only [← hji5] <;> (first|rfl|simp))|(simp [*];done)),H',⟨by have:=HK1.out;omega⟩,⟨zhb⟩⟩
     ·rw [if_neg c7] at H
      exact absurd H (by simp)
    ·rw [if_neg c6] at H
     exact absurd H (by simp)
   ·rw [if_neg c4] at H
    have c4b0:decide (x9_1 < x10_1)=false:=decide_eq_false c4
    clear c4
    by_cases c12:x9_1 < (l0.length:Int)
    ·rw [if_pos c12] at H
     have c12b0:decide (x9_1 < (l0.length:Int))=true:=decide_eq_true c12
     clear c12
     by_cases c13:0≤x9_1
     ·rw [if_pos c13] at H
      have c13b0:decide (0≤x9_1)=true:=decide_eq_true c13
      clear c13
      by_cases c14:x9_1 < (l0.length:Int)
      ·rw [if_pos c14] at H
       have c14b0:decide (x9_1 < (l0.length:Int))=true:=decide_eq_true c14
       clear c14
       replace H:=Option.bind_eq_some_iff.mp H
       obtain ⟨t279,A150,H⟩:=H
       (try dsimp only at H)
       have A15:=Aside0.mk A150
       clear A150
       simp only [Option.some.injEq,Prod.mk.injEq] at H
       obtain ⟨rfl,rfl⟩:=H
       have p278:0≤(x9_1:Int):=zod
       have q278:x9_1 < (l0.length:Int):=zod
       obtain ⟨ad278,A278_0,c278_0,e278,hx278_0,hx278_1,hl278_0,hi278_0⟩:=at_T54 HR0.out x9_1 p278 q278
       cases e278
       replace hx278_0:=(HB.out.cell (World.block_lt_of_cell? w _ hx278_0)).trans hx278_0
       replace hx278_1:=(HB.out.cell (World.block_lt_of_cell? w _ hx278_1)).trans hx278_1
       have HR278_0:=Aside0.mk hi278_0
       have HC278_0:=Aside0.mk hl278_0
       clear hi278_0 hl278_0
       replace p278:=eq_true p278
       replace q278:=eq_true q278
       go_wp2_with (first|(go_at_call 72;(with_reducible refine (impl_ZGet_1.calls k1 _ _ ((rd_T54 l0 x9_1).f0) ((rd_T54 l0 x9_1).f1) _ _ l1 t279 _ ?side1 ?side2 ?side3 ?side4 A15.out).mono ?_);(case side1=>exact zC (Kd.C_below HR278_0.out HB.out));(case side2=>exact HC278_0.out);(case side3=>exact zC (Kd.C_below HR1.out HB.out));(case side4=>exact HC1.out);rintro e w16 ⟨rfl,hb⟩;have n0_:=Aside0.mk (below_step zhb hb);clear HB;have HB:=n0_;clear n0_;(try clear hb);(try clear hb2);(try clear hk);(try clear hi)))
       go_ret2
       exact ⟨by first|rfl|(simp [errW_none,errW_some] <;> rfl)|(simp [*,errW_none,errW_some] <;> rfl),zhb⟩
      ·rw [if_neg c14] at H
       exact absurd H (by simp)
     ·rw [if_neg c13] at H
      exact absurd H (by simp)
    ·rw [if_neg c12] at H
     have c12b0:decide (x9_1 < (l0.length:Int))=false:=decide_eq_false c12
     clear c12
     simp only [Option.some.injEq,Prod.mk.injEq] at H
     obtain ⟨rfl,rfl⟩:=H
     go_wp2
     go_ret2
     exact ⟨by first|rfl|(simp [errW_none,errW_some] <;> rfl)|(simp [*,errW_none,errW_some] <;> rfl),zhb⟩

/-! ### impl_ZGet: function 30 -/
def impl_ZGet.f (k:Nat) (l0:List (S54)) (l1:List Int):Option (Int):=(impl_ZOk.f k l0).bind fun t280=>(if t280=true then ((slices_BinarySearchFunc_impl_Item_impl_Item_int__impl_ZGet_1.f k l0 l1).bind fun bt281=>(if bt281.2=true then (if 0≤bt281.1 then (if bt281.1 < (l0.length:Int) then (some ((rd_T54 l0 bt281.1).f1)) else (none)) else (none)) else (some 0))) else (some 0))
theorem impl_ZGet.mono : ∀ a0 a1 k,LeO (impl_ZGet.f k a0 a1) (impl_ZGet.f (k + 1) a0 a1):=by
 intro a0 a1 k
 unfold impl_ZGet.f
 repeat' first
   | (with_reducible exact impl_ZOk.mono _ _)
   | (with_reducible exact slices_BinarySearchFunc_impl_Item_impl_Item_int__impl_ZGet_1.mono _ _ _)
   | (with_reducible exact LeO.refl _)
   | (with_reducible exact LeO.none _)
   | (with_reducible refine LeO.ite ?_ ?_)
   | (with_reducible refine LeO.bind ?_ (fun _=>?_))
   | exact LeO.none _
   | refine LeO.ite ?_ ?_
   | refine LeO.bind ?_ (fun _=>?_)
set_option maxHeartbeats 8000000 in
set_option maxRecDepth 100000 in
theorem impl_ZGet.calls (k:Nat) (A0:Option Addr) (c0:Nat) (l0:List (S54)) (A1:Option Addr) (c1:Nat) (l1:List Int) (r:Int) (w:World) (hr0:Kd.C k54 w A0 l0.length l0) (hc0:l0.length≤c0) (hr1:Kd.C (Kd.int .i64) w A1 l1.length l1) (hc1:l1.length≤c1) (h:impl_ZGet.f k l0 l1=some r) :
  Calls Try.prog 30 #[.slice A0 l0.length c0,.slice A1 l1.length c1] w fun e w'=>e=.returned (.int .i64 r)∧Below w.heap.size w w':=by
 have HR0:=Aside0.mk hr0
 have HC0:=Aside0.mk hc0
 clear hr0 hc0
 have HR1:=Aside0.mk hr1
 have HC1:=Aside0.mk hc1
 clear hr1 hc1
 have HB:=Aside0.mk (Below.refl w.heap.size w)
 have H:((impl_ZOk.f k l0).bind fun t280=>(if t280=true then ((slices_BinarySearchFunc_impl_Item_impl_Item_int__impl_ZGet_1.f k l0 l1).bind fun bt281=>(if bt281.2=true then (if 0≤bt281.1 then (if bt281.1 < (l0.length:Int) then (some ((rd_T54 l0 bt281.1).f1)) else (none)) else (none)) else (some 0))) else (some 0)))=some r:=h
 clear h
 replace H:=Option.bind_eq_some_iff.mp H
 obtain ⟨t280,A30,H⟩:=H
 (try dsimp only at H)
 have A3:=Aside0.mk A30
 clear A30
 by_cases c4:t280=true
 ·subst c4
  have H1:((slices_BinarySearchFunc_impl_Item_impl_Item_int__impl_ZGet_1.f k l0 l1).bind fun bt281=>(if bt281.2=true then (if 0≤bt281.1 then (if bt281.1 < (l0.length:Int) then (some ((rd_T54 l0 bt281.1).f1)) else (none)) else (none)) else (some 0)))=some r:=by rw [if_pos rfl] at H;exact H
  clear H
  have H:=H1
  clear H1
  replace H:=Option.bind_eq_some_iff.mp H
  obtain ⟨⟨t281,t282⟩,A50,H⟩:=H
  (try dsimp only at H)
  have A5:=Aside0.mk A50
  clear A50
  by_cases c6:t282=true
  ·subst c6
   have H1:(if 0≤t281 then (if t281 < (l0.length:Int) then (some ((rd_T54 l0 t281).f1)) else (none)) else (none))=some r:=by rw [if_pos rfl] at H;exact H
   clear H
   have H:=H1
   clear H1
   by_cases c7:0≤t281
   ·rw [if_pos c7] at H
    have c7b0:decide (0≤t281)=true:=decide_eq_true c7
    clear c7
    by_cases c8:t281 < (l0.length:Int)
    ·rw [if_pos c8] at H
     have c8b0:decide (t281 < (l0.length:Int))=true:=decide_eq_true c8
     clear c8
     obtain rfl:=Option.some.inj H
     go_enter Try.func30,Try.ntmps30
     go_wp2_with (first|((with_reducible refine gate_callee (f:=34) rfl ?_);refine goesL_ (some 8) rfl rfl Try.func34 (by kernel_rfl) rfl #[.slice A0 l0.length c0] rfl zar ?_;(with_reducible refine (impl_ZOk.calls k _ _ l0 true _ ?side1 ?side2 A3.out).mono ?_);(case side1=>exact zC HR0.out);(case side2=>exact HC0.out);rintro e w9 ⟨rfl,hb⟩;refine ⟨_,rfl,?_⟩;have n0_:=Aside0.mk (below_step zhb hb);clear HB;have HB:=n0_;clear n0_;(try clear hb);(try clear hb2);(try clear hk);(try clear hi))|(go_at_call 71;(with_reducible refine (slices_BinarySearchFunc_impl_Item_impl_Item_int__impl_ZGet_1.calls k _ _ l0 _ _ l1  t281 true _ ?side1 ?side2 ?side3 ?side4 A5.out).mono ?_);(case side1=>exact zC (Kd.C_below HR0.out HB.out));(case side2=>exact HC0.out);(case side3=>exact zC (Kd.C_below HR1.out HB.out));(case side4=>exact HC1.out);rintro e w10 ⟨rfl,hb⟩;have n0_:=Aside0.mk (below_step zhb hb);clear HB;have HB:=n0_;clear n0_;(try clear hb);(try clear hb2);(try clear hk);(try clear hi);have p283:0≤(t281:Int):=zod;have q283:t281 < (l0.length:Int):=zod;obtain ⟨ad283,A283_0,c283_0,e283,hx283_0,hx283_1,hl283_0,hi283_0⟩:=at_T54 HR0.out t281 p283 q283;cases e283;replace hx283_0:=(HB.out.cell (World.block_lt_of_cell? w _ hx283_0)).trans hx283_0;replace hx283_1:=(HB.out.cell (World.block_lt_of_cell? w _ hx283_1)).trans hx283_1;have HR283_0:=Aside0.mk hi283_0;have HC283_0:=Aside0.mk hl283_0;clear hi283_0 hl283_0;replace p283:=eq_true p283;replace q283:=eq_true q283))
     go_ret
     exact ⟨by first|rfl|(simp [errW_none,errW_some] <;> rfl)|(simp [*,errW_none,errW_some] <;> rfl),zhb⟩
    ·rw [if_neg c8] at H
     exact absurd H (by simp)
   ·rw [if_neg c7] at H
    exact absurd H (by simp)
  ·replace c6:=Bool.eq_false_iff.mpr c6
   subst c6
   have H1:(some 0)=some r:=by rw [if_neg (show ¬ (false=true) by decide)] at H;exact H
   clear H
   have H:=H1
   clear H1
   obtain rfl:=Option.some.inj H
   go_enter Try.func30,Try.ntmps30
   go_wp2_with (first|((with_reducible refine gate_callee (f:=34) rfl ?_);refine goesL_ (some 8) rfl rfl Try.func34 (by kernel_rfl) rfl #[.slice A0 l0.length c0] rfl zar ?_;(with_reducible refine (impl_ZOk.calls k _ _ l0 true _ ?side1 ?side2 A3.out).mono ?_);(case side1=>exact zC HR0.out);(case side2=>exact HC0.out);rintro e w11 ⟨rfl,hb⟩;refine ⟨_,rfl,?_⟩;have n0_:=Aside0.mk (below_step zhb hb);clear HB;have HB:=n0_;clear n0_;(try clear hb);(try clear hb2);(try clear hk);(try clear hi))|(go_at_call 71;(with_reducible refine (slices_BinarySearchFunc_impl_Item_impl_Item_int__impl_ZGet_1.calls k _ _ l0 _ _ l1  t281 false _ ?side1 ?side2 ?side3 ?side4 A5.out).mono ?_);(case side1=>exact zC (Kd.C_below HR0.out HB.out));(case side2=>exact HC0.out);(case side3=>exact zC (Kd.C_below HR1.out HB.out));(case side4=>exact HC1.out);rintro e w12 ⟨rfl,hb⟩;have n0_:=Aside0.mk (below_step zhb hb);clear HB;have HB:=n0_;clear n0_;(try clear hb);(try clear hb2);(try clear hk);(try clear hi)))
   go_ret
   exact ⟨by first|rfl|(simp [errW_none,errW_some] <;> rfl)|(simp [*,errW_none,errW_some] <;> rfl),zhb⟩
 ·replace c4:=Bool.eq_false_iff.mpr c4
  subst c4
  have H1:(some 0)=some r:=by rw [if_neg (show ¬ (false=true) by decide)] at H;exact H
  clear H
  have H:=H1
  clear H1
  obtain rfl:=Option.some.inj H
  go_enter Try.func30,Try.ntmps30
  go_wp2_with (first|((with_reducible refine gate_callee (f:=34) rfl ?_);refine goesL_ (some 8) rfl rfl Try.func34 (by kernel_rfl) rfl #[.slice A0 l0.length c0] rfl zar ?_;(with_reducible refine (impl_ZOk.calls k _ _ l0 false _ ?side1 ?side2 A3.out).mono ?_);(case side1=>exact zC HR0.out);(case side2=>exact HC0.out);rintro e w13 ⟨rfl,hb⟩;refine ⟨_,rfl,?_⟩;have n0_:=Aside0.mk (below_step zhb hb);clear HB;have HB:=n0_;clear n0_;(try clear hb);(try clear hb2);(try clear hk);(try clear hi)))
  go_ret
  exact ⟨by first|rfl|(simp [errW_none,errW_some] <;> rfl)|(simp [*,errW_none,errW_some] <;> rfl),zhb⟩

end Go.Proofs.Ytaifnkapbffmaaa.PFnZ
