-- Written by wip/tools/pp.py, a program of this session over the kit's printer: not the kit's own print
import Derived.Test.YtgcplipimcbhlaaDoorPFnZOrderx0
import Derived.Test.YtgcplipimcbhlaaDoorPFnZOrderx1
import Derived.Test.YtgcplipimcbhlaaDoorPFnZOrderx4
import Derived.Test.YtgcplipimcbhlaaDoorPFnZOrderx5
import Derived.Test.YtgcplipimcbhlaaDoorPFnZOrderx7
import Derived.Test.YtgcplipimcbhlaaDoorPFnZOrderx9
import Derived.Test.YtgcplipimcbhlaaDoorPFnZOrderx10
import Derived.Test.YtgcplipimcbhlaaDoorPFnZOrderx11
namespace Go.Proofs.YtgcplipimcbhlaaDoor.PFnZOrder
open Go.RowKit Go.Proofs.YtgcplipimcbhlaaDoorW.PrintWords Go.Proofs.YtgcplipimcbhlaaDoorW.PrintLast Go.Proofs.YtgcplipimcbhlaaDoorW.PrintMore
attribute [local go_sem] max2_int min2_int max_two min_two max_three min_three max_four min_four   -- for this text's walks alone
set_option linter.unusedVariables false
set_option linter.unusedSimpArgs false

/-! ### impl_together: function 56 -/
def impl_together.f (k:Nat) (l0:List (S53)) (l1:List (S53)):Option ((List (S53))):=(impl_merged_impl_Item__impl_cmpItem_impl_together_1.f k l0 l1).bind fun t345=>(some t345)
theorem impl_together.mono : ∀ a0 a1 k,LeO (impl_together.f k a0 a1) (impl_together.f (k + 1) a0 a1):=by
 intro a0 a1 k
 unfold impl_together.f
 repeat' first
   | (with_reducible exact impl_merged_impl_Item__impl_cmpItem_impl_together_1.mono _ _ _)
   | (with_reducible exact LeO.refl _)
   | (with_reducible exact LeO.none _)
   | (with_reducible refine LeO.ite ?_ ?_)
   | (with_reducible refine LeO.bind ?_ (fun _=>?_))
   | exact LeO.none _
   | refine LeO.ite ?_ ?_
   | refine LeO.bind ?_ (fun _=>?_)
set_option maxHeartbeats 8000000 in
set_option maxRecDepth 100000 in
theorem impl_together.calls (k:Nat) (P0_:Nat→Prop) (A0:Option Addr) (c0:Nat) (l0:List (S53)) (P1_:Nat→Prop) (A1:Option Addr) (c1:Nat) (l1:List (S53)) (r:List (S53)) (w:World) (hs0:Kd.V k53 53 w w.heap.size (fun k_=>P0_ k_) (.slice A0 l0.length c0) l0) (hs1:Kd.V k53 53 w w.heap.size (fun k_=>P1_ k_) (.slice A1 l1.length c1) l1) (h:impl_together.f k l0 l1=some r) :
  Calls Tryd.prog 56 #[.slice A0 l0.length c0,.slice A1 l1.length c1] w fun e w'=>∃ v0_:Value,e=.returned (v0_)∧Kd.N k53 53 w' w.heap.size (fun k_=>((P0_ k_∨P1_ k_)∨w.heap.size≤k_)) v0_ r∧Below w.heap.size w w':=by
 have HO0:=Aside0.mk (show Kd.V k53 53 w w.heap.size (fun k_=>((P0_ k_∨P1_ k_)∨w.heap.size≤k_)) (.slice A0 l0.length c0) l0 from Kd.V_mono hs0 (fun k_ hk=>.inl (.inl hk)))
 have HO1:=Aside0.mk (show Kd.V k53 53 w w.heap.size (fun k_=>((P0_ k_∨P1_ k_)∨w.heap.size≤k_)) (.slice A1 l1.length c1) l1 from Kd.V_mono hs1 (fun k_ hk=>.inl (.inr hk)))
 have HB:=Aside0.mk (Below.refl w.heap.size w)
 have H:((impl_merged_impl_Item__impl_cmpItem_impl_together_1.f k l0 l1).bind fun t345=>(some t345))=some r:=h
 clear h
 replace H:=Option.bind_eq_some_iff.mp H
 obtain ⟨t345,A30,H⟩:=H
 (try dsimp only at H)
 have A3:=Aside0.mk A30
 clear A30
 obtain rfl:=Option.some.inj H
 go_enter Tryd.func56,Tryd.ntmps56
 go_wp2_with (first|(go_at_call 83;(with_reducible refine (impl_merged_impl_Item__impl_cmpItem_impl_together_1.calls k (fun k_=>((P0_ k_∨P1_ k_)∨w.heap.size≤k_)) _ _ l0 (fun k_=>((P0_ k_∨P1_ k_)∨w.heap.size≤k_)) _ _ l1   t345 _ ?side1 ?side2 A3.out).mono ?_);(case side1=>exact HO0.out);(case side2=>exact HO1.out);rintro e w4 ⟨v346,rfl,ho0,hb⟩;have n0_:=Aside0.mk (Kd.V_elder' (zV HO0.out) (Kd.N_base ho0) hb);have n1_:=Aside0.mk (Kd.V_elder' (zV HO1.out) (Kd.N_base ho0) hb);have n2_:=Aside0.mk (Kd.N_lower (Kd.N_mono (ok':=fun k_=>((P0_ k_∨P1_ k_)∨w.heap.size≤k_)) ho0 (fun k_ hk_=>Or.elim hk_ (fun hs_=>Or.elim hs_ (fun hs_=>hs_) (fun hs_=>hs_)) (fun hn_=>(.inr (Nat.le_trans (below_size zhb) hn_))))) (below_size zhb));have n3_:=Aside0.mk (below_step zhb hb);clear HO0;clear HO1;clear HB;have HO0:=n0_;have HO1:=n1_;have HO347:=n2_;have HB:=n3_;clear n0_ n1_ n2_ n3_;(try clear hb);(try clear hb2);(try clear hk);(try clear hi);(try clear ho0)))
 go_ret
 exact ⟨_,by first|rfl|(rw [HR_.out];first|done|rfl)|(simp [errW_none,errW_some] <;> rfl)|(simp [*,errW_none,errW_some] <;> rfl),by (with_reducible repeat (first|apply Kd.N_alloc|apply Kd.N_drewN|apply Kd.N_drew));exact HO347.out,zhb⟩

/-! ### impl_ZAdd: function 26 (by hand) -/
def impl_ZAdd.f (k:Nat) (l0:List (S53)) (l1:List (S53)):Option (List (S53) × Bool):=(impl_ZOk.f k l0).bind fun t1=>(if t1=true then ((impl_ZOk.f k l1).bind fun t2=>(if t2=true then ((impl_together.f k l0 l1).bind fun t3=>(impl_told.f k t3)) else (some ([],false)))) else (some ([],false)))
theorem impl_ZAdd.mono : ∀ a0 a1 k,LeO (impl_ZAdd.f k a0 a1) (impl_ZAdd.f (k + 1) a0 a1):=by
 intro a0 a1 k
 unfold impl_ZAdd.f
 repeat' first
   | (with_reducible exact impl_ZOk.mono _ _)
   | (with_reducible exact impl_together.mono _ _ _)
   | (with_reducible exact impl_told.mono _ _)
   | (with_reducible exact LeO.refl _)
   | (with_reducible refine LeO.ite ?_ ?_)
   | (with_reducible refine LeO.bind ?_ (fun _=>?_))
set_option maxHeartbeats 8000000 in
set_option maxRecDepth 100000 in
theorem impl_ZAdd.calls (k:Nat) (A0:Option Addr) (c0:Nat) (l0:List (S53)) (A1:Option Addr) (c1:Nat) (l1:List (S53)) (r1:List (S53)) (r2:Bool) (w:World) (hr0:Kd.C k53 w A0 l0.length l0) (hc0:l0.length≤c0) (hr1:Kd.C k53 w A1 l1.length l1) (hc1:l1.length≤c1) (h:impl_ZAdd.f k l0 l1=some (r1,r2)) :
  Calls Tryd.prog 26 #[.slice A0 l0.length c0,.slice A1 l1.length c1] w fun e w'=>∃ v0_:Value,e=.returned (.tuple #[v0_,.bool r2])∧Kd.S k53 53 w' w.heap.size (fun _=>True) v0_ r1∧Below w.heap.size w w':=by
 unfold impl_ZAdd.f at h
 obtain ⟨t1,h1,h⟩:=Option.bind_eq_some_iff.mp h
 have A1:=Aside0.mk h1
 have HR0:=Aside0.mk hr0
 have HC0:=Aside0.mk hc0
 have HR1:=Aside0.mk hr1
 have HC1:=Aside0.mk hc1
 clear hr0 hc0 hr1 hc1 h1
 cases t1 with
 | false =>
  rw [if_neg (by decide)] at h
  injection h with h
  injection h with e1 e2
  subst e1 e2
  go_enter Tryd.func26,Tryd.ntmps26
  go_wp2_with fail
  refine (impl_ZOk.calls k _ _ l0 false _ HR0.out HC0.out A1.out).mono ?_
  rintro e w1 ⟨rfl,hb⟩
  have HB1:=Aside0.mk hb
  clear hb
  go_wp2
  go_ret2
  exact ⟨_,rfl,Kd.S_nil _ _ _ _ _,HB1.out⟩
 | true =>
 rw [if_pos rfl] at h
 obtain ⟨t2,h2,h⟩:=Option.bind_eq_some_iff.mp h
 have A2:=Aside0.mk h2
 clear h2
 cases t2 with
 | false =>
  rw [if_neg (by decide)] at h
  injection h with h
  injection h with e1 e2
  subst e1 e2
  go_enter Tryd.func26,Tryd.ntmps26
  go_wp2_with fail
  refine (impl_ZOk.calls k _ _ l0 true _ HR0.out HC0.out A1.out).mono ?_
  rintro e w1 ⟨rfl,hb⟩
  have HB1:=Aside0.mk hb
  clear hb
  go_wp2_with fail
  refine (impl_ZOk.calls k _ _ l1 false _ (Kd.C_below HR1.out HB1.out) HC1.out A2.out).mono ?_
  rintro e w2 ⟨rfl,hb⟩
  have HB2:=Aside0.mk (below_step HB1.out hb)
  clear hb
  go_wp2
  go_ret2
  exact ⟨_,rfl,Kd.S_nil _ _ _ _ _,HB2.out⟩
 | true =>
 rw [if_pos rfl] at h
 obtain ⟨t3,h3,h⟩:=Option.bind_eq_some_iff.mp h
 have A3:=Aside0.mk h3
 have A4:=Aside0.mk h
 clear h3 h
 go_enter Tryd.func26,Tryd.ntmps26
 go_wp2_with fail
 refine (impl_ZOk.calls k _ _ l0 true _ HR0.out HC0.out A1.out).mono ?_
 rintro e w1 ⟨rfl,hb⟩
 have HB1:=Aside0.mk hb
 clear hb
 go_wp2_with fail
 refine (impl_ZOk.calls k _ _ l1 true _ (Kd.C_below HR1.out HB1.out) HC1.out A2.out).mono ?_
 rintro e w2 ⟨rfl,hb⟩
 have HB2:=Aside0.mk (below_step HB1.out hb)
 clear hb
 go_wp2_with fail
 refine (impl_together.calls k (fun k_=>k_ < w2.heap.size) _ _ l0 (fun k_=>k_ < w2.heap.size) _ _ l1 t3 _ (Kd.V_mk HC0.out (Kd.C_F k53_heap (Kd.C_below HR0.out HB2.out))) (Kd.V_mk HC1.out (Kd.C_F k53_heap (Kd.C_below HR1.out HB2.out))) A3.out).mono ?_
 rintro e w3 ⟨v3,rfl,ho,hb⟩
 obtain ⟨a3,c3,rfl⟩:=Kd.N_slice ho
 have HB3:=Aside0.mk (below_step HB2.out hb)
 have HO3:=Aside0.mk ho
 clear ho hb
 go_wp2_with fail
 refine (impl_told.calls k _ _ t3 r1 r2 _ (Kd.N_reads' HO3.out).2.2 (Kd.N_reads' HO3.out).2.1 A4.out).mono ?_
 rintro e w4 ⟨v4,rfl,ho,hb⟩
 have HB4:=Aside0.mk (below_step HB3.out hb)
 have HO4:=Aside0.mk (Kd.S_lower ho HB3.out.size)
 clear ho hb
 go_wp2
 go_ret2
 exact ⟨_,rfl,HO4.out,HB4.out⟩

/-! ### laws_FnZOrder: function 6 -/
def laws_FnZOrder.l0:Nat→List (S53)→List (S53)→List (S53)→List (S53)→Int→Option (Bool)
 | 0,_,_,_,_,_=>none
 | k + 1,x3,x4,x5,x6,x7=>if x7 < (x3.length:Int) then (if 0≤x7 then (if x7≤(wrap64 (x7 + 1)) then (if (wrap64 (x7 + 1))≤(x3.length:Int) then ((impl_ZAdd.f k x5 ((x3.take ((wrap64 (x7 + 1)):Int).toNat).drop (x7:Int).toNat)).bind fun bt371=>(if 0≤(wrap64 ((wrap64 ((x3.length:Int) - 1)) - x7)) then (if (wrap64 ((wrap64 ((x3.length:Int) - 1)) - x7))≤(wrap64 ((x3.length:Int) - x7)) then (if (wrap64 ((x3.length:Int) - x7))≤(x3.length:Int) then ((impl_ZAdd.f k ((x3.take ((wrap64 ((x3.length:Int) - x7)):Int).toNat).drop ((wrap64 ((wrap64 ((x3.length:Int) - 1)) - x7)):Int).toNat) x6).bind fun bt380=>(if bt371.2=true then (if bt380.2=true then (laws_FnZOrder.l0 k x3 x4 bt371.1 bt380.1 (wrap64 (x7 + 1))) else (some false)) else (some false))) else (none)) else (none)) else (none))) else (none)) else (none)) else (none)) else ((impl_ZSame.f k x5 x3).bind fun t384=>(if t384=true then ((impl_ZSame.f k x6 x3).bind fun t385=>(if t385=true then ((impl_ZSame.f k x3 x4).bind fun t386=>((impl_ZText.f k x3).bind fun t387=>((impl_ZText.f k x4).bind fun t388=>(some (t386 == (t387.toList == t388.toList)))))) else (some false))) else (some false)))
def laws_FnZOrder.f (k:Nat) (l0:List Int):Option (Bool):=if (l0.length:Int) > 1048576 then (some true) else ((spec_DrawZSame.f k l0).bind fun bt348=>((impl_ZSame.f k bt348.1 bt348.2).bind fun t354=>((spec_ZSame.f k bt348.1 bt348.2).bind fun t355=>(if (t354 != t355)=true then ((impl_ZSame.f k bt348.1 bt348.2).bind fun t356=>((spec_ZSame.f k bt348.1 bt348.2).bind fun t357=>(some (t356 == t357)))) else ((spec_ZOk.f k bt348.1).bind fun t358=>(if t358=true then ((spec_ZOk.f k bt348.2).bind fun t359=>(if t359=true then (laws_FnZOrder.l0 k bt348.1 bt348.2 (([]:List (S53))) (([]:List (S53))) 0) else ((impl_ZSame.f k bt348.1 bt348.2).bind fun t389=>((spec_ZSame.f k bt348.1 bt348.2).bind fun t390=>(some (t389 == t390)))))) else ((impl_ZSame.f k bt348.1 bt348.2).bind fun t391=>((spec_ZSame.f k bt348.1 bt348.2).bind fun t392=>(some (t391 == t392))))))))))
theorem laws_FnZOrder.mono_l : ∀ k,(∀ y0 y1 y2 y3 y4,LeO (laws_FnZOrder.l0 k y0 y1 y2 y3 y4) (laws_FnZOrder.l0 (k + 1) y0 y1 y2 y3 y4))
 | 0=>fun _ _ _ _ _ r h=>by simp [laws_FnZOrder.l0] at h
 | k + 1=>by
  have ih0:=laws_FnZOrder.mono_l k
  ·intro y0 y1 y2 y3 y4
   unfold laws_FnZOrder.l0
   repeat' first
   | (with_reducible exact ih0 _ _ _ _ _)
   | (with_reducible exact impl_ZAdd.mono _ _ _)
   | (with_reducible exact impl_ZSame.mono _ _ _)
   | (with_reducible exact impl_ZText.mono _ _)
   | (with_reducible exact spec_DrawZSame.mono _ _)
   | (with_reducible exact spec_ZOk.mono _ _)
   | (with_reducible exact spec_ZSame.mono _ _ _)
   | (with_reducible exact LeO.refl _)
   | (with_reducible exact LeO.none _)
   | (with_reducible refine LeO.ite ?_ ?_)
   | (with_reducible refine LeO.bind ?_ (fun _=>?_))
   | exact LeO.none _
   | refine LeO.ite ?_ ?_
   | refine LeO.bind ?_ (fun _=>?_)
theorem laws_FnZOrder.mono : ∀ a0 k,LeO (laws_FnZOrder.f k a0) (laws_FnZOrder.f (k + 1) a0):=by
 intro a0 k
 have ih0:=laws_FnZOrder.mono_l k
 unfold laws_FnZOrder.f
 repeat' first
   | (with_reducible exact ih0 _ _ _ _ _)
   | (with_reducible exact impl_ZAdd.mono _ _ _)
   | (with_reducible exact impl_ZSame.mono _ _ _)
   | (with_reducible exact impl_ZText.mono _ _)
   | (with_reducible exact spec_DrawZSame.mono _ _)
   | (with_reducible exact spec_ZOk.mono _ _)
   | (with_reducible exact spec_ZSame.mono _ _ _)
   | (with_reducible exact LeO.refl _)
   | (with_reducible exact LeO.none _)
   | (with_reducible refine LeO.ite ?_ ?_)
   | (with_reducible refine LeO.bind ?_ (fun _=>?_))
   | exact LeO.none _
   | refine LeO.ite ?_ ?_
   | refine LeO.bind ?_ (fun _=>?_)
set_option maxHeartbeats 8000000 in
set_option maxRecDepth 100000 in
theorem laws_FnZOrder.calls (k : Nat) (A0 : Option Addr) (c0 : Nat) (l0 : List Int) (r : Bool) (w : World) (hr0 : Kd.C (Kd.int .u8) w A0 l0.length l0) (hc0 : l0.length ≤ c0) (h : laws_FnZOrder.f k l0 = some r) (hr_ : r = true) (hT : Lib.TabIs Tryd.prog w "internal/strconv.uint64pow10" .u64 Lib.pow10Tab := by first | exact TxtW.tab (TxtW.on HT0.out zhb) | exact tab_on HT0.out zhb) :
  Calls Tryd.prog 6 #[.slice A0 l0.length c0] w fun e w'=>e=.returned (.bool r)∧Below w.heap.size w w':=by
 have HT0:=Aside0.mk hT
 clear hT
 have HR_:=Aside0.mk hr_
 clear hr_
 have HR0:=Aside0.mk hr0
 have HC0:=Aside0.mk hc0
 clear hr0 hc0
 have HB:=Aside0.mk (Below.refl w.heap.size w)
 have H:(if (l0.length:Int) > 1048576 then (some true) else ((spec_DrawZSame.f k l0).bind fun bt348=>((impl_ZSame.f k bt348.1 bt348.2).bind fun t354=>((spec_ZSame.f k bt348.1 bt348.2).bind fun t355=>(if (t354 != t355)=true then ((impl_ZSame.f k bt348.1 bt348.2).bind fun t356=>((spec_ZSame.f k bt348.1 bt348.2).bind fun t357=>(some (t356 == t357)))) else ((spec_ZOk.f k bt348.1).bind fun t358=>(if t358=true then ((spec_ZOk.f k bt348.2).bind fun t359=>(if t359=true then (laws_FnZOrder.l0 k bt348.1 bt348.2 (([]:List (S53))) (([]:List (S53))) 0) else ((impl_ZSame.f k bt348.1 bt348.2).bind fun t389=>((spec_ZSame.f k bt348.1 bt348.2).bind fun t390=>(some (t389 == t390)))))) else ((impl_ZSame.f k bt348.1 bt348.2).bind fun t391=>((spec_ZSame.f k bt348.1 bt348.2).bind fun t392=>(some (t391 == t392)))))))))))=some r:=h
 clear h
 by_cases c2:(l0.length:Int) > 1048576
 ·rw [if_pos c2] at H
  have c2b0:decide (1048576 < (l0.length:Int))=true:=decide_eq_true c2
  have c2b1:decide (1048576 < l0.length)=true:=decide_eq_true (by omega)
  clear c2
  obtain rfl:=Option.some.inj H
  go_enter Tryd.func6,Tryd.ntmps6
  go_wp2
  go_ret
  exact ⟨by first|rfl|(rw [HR_.out];first|done|rfl)|(simp [errW_none,errW_some] <;> rfl)|(simp [*,errW_none,errW_some] <;> rfl),zhb⟩
 ·rw [if_neg c2] at H
  have c2b0:decide (1048576 < (l0.length:Int))=false:=decide_eq_false c2
  have c2b1:decide (1048576 < l0.length)=false:=decide_eq_false (by omega)
  clear c2
  replace H:=Option.bind_eq_some_iff.mp H
  obtain ⟨⟨t348,t351⟩,A30,H⟩:=H
  (try dsimp only at H)
  have A3:=Aside0.mk A30
  clear A30
  replace H:=Option.bind_eq_some_iff.mp H
  obtain ⟨t354,A40,H⟩:=H
  (try dsimp only at H)
  have A4:=Aside0.mk A40
  clear A40
  replace H:=Option.bind_eq_some_iff.mp H
  obtain ⟨t355,A50,H⟩:=H
  (try dsimp only at H)
  have A5:=Aside0.mk A50
  clear A50
  by_cases c6:(t354 != t355)=true
  ·rw [if_pos c6] at H
   have c6b0:(t354 != t355)=true:=c6
   (try (have c6b1:decide (t354=t355)=false:=by simpa using c6))
   (try (have c6b2:(t354 == t355)=false:=by simpa using c6))
   (try (have c6b3 : ¬ (t354=t355):=by simpa using c6))
   clear c6
   replace H:=Option.bind_eq_some_iff.mp H
   obtain ⟨t356,A70,H⟩:=H
   (try dsimp only at H)
   have A7:=Aside0.mk A70
   clear A70
   replace H:=Option.bind_eq_some_iff.mp H
   obtain ⟨t357,A80,H⟩:=H
   (try dsimp only at H)
   have A8:=Aside0.mk A80
   clear A80
   obtain rfl:=Option.some.inj H
   go_enter Tryd.func6,Tryd.ntmps6
   go_wp2_with (first|((with_reducible refine gate_callee (f:=22) rfl ?_);refine goesL_ (some 17) rfl rfl Tryd.func22 (by kernel_rfl) rfl #[.slice A0 l0.length c0] rfl zar ?_;(with_reducible refine (spec_DrawZSame.calls k _ _ l0 t348 t351 _ ?side1 ?side2 A3.out).mono ?_);(case side1=>exact zC HR0.out);(case side2=>exact HC0.out);rintro e w9 ⟨v349,v352,rfl,ho0,ho1,hb⟩;refine ⟨_,rfl,?_⟩;have n0_:=Aside0.mk (Kd.N_lower (Kd.N_mono (ok':=fun k_=>some k_≠(v352:Value).ownBlock) ho0 (fun k_ hk_=>hk_.2)) (below_size zhb));have n1_:=Aside0.mk (Kd.N_lower (Kd.N_mono (ok':=fun k_=>some k_≠(v349:Value).ownBlock) ho1 (fun k_ hk_=>hk_.2)) (below_size zhb));have n2_:=Aside0.mk (below_step zhb hb);clear HB;have HO350:=n0_;have HO353:=n1_;have HB:=n2_;clear n0_ n1_ n2_;(try clear hb);(try clear hb2);(try clear hk);(try clear hi);(try clear ho0);(try clear ho1);obtain ⟨Ao10,co10,eo10⟩:=Kd.N_slice HO350.out;subst eo10;obtain ⟨Ao11,co11,eo11⟩:=Kd.N_slice HO353.out;subst eo11)|((with_reducible refine gate_callee (f:=23) rfl ?_);refine goesL_ (some 22) rfl rfl Tryd.func23 (by kernel_rfl) rfl #[.slice Ao10 t348.length co10,.slice Ao11 t351.length co11] rfl zar ?_;(with_reducible refine (impl_ZSame.calls k _ _ t348 _ _ t351 t354 _ ?side1 ?side2 ?side3 ?side4 A4.out).mono ?_);(case side1=>exact zC (Kd.N_reads' HO350.out).2.2);(case side2=>exact (Kd.N_reads' HO350.out).2.1);(case side3=>exact zC (Kd.N_reads' HO353.out).2.2);(case side4=>exact (Kd.N_reads' HO353.out).2.1);rintro e w12 ⟨rfl,hb⟩;refine ⟨_,rfl,?_⟩;have n0_:=Aside0.mk (Kd.N_below (zN HO350.out) hb);have n1_:=Aside0.mk (Kd.N_below (zN HO353.out) hb);have n2_:=Aside0.mk (below_step zhb hb);clear HO350;clear HO353;clear HB;have HO350:=n0_;have HO353:=n1_;have HB:=n2_;clear n0_ n1_ n2_;(try clear hb);(try clear hb2);(try clear hk);(try clear hi))|((with_reducible refine gate_callee (f:=24) rfl ?_);refine goesL_ (some 25) rfl rfl Tryd.func24 (by kernel_rfl) rfl #[.slice Ao10 t348.length co10,.slice Ao11 t351.length co11] rfl zar ?_;(with_reducible refine (spec_ZSame.calls k _ _ t348 _ _ t351 t355 _ ?side1 ?side2 ?side3 ?side4 A5.out).mono ?_);(case side1=>exact zC (Kd.N_reads' HO350.out).2.2);(case side2=>exact (Kd.N_reads' HO350.out).2.1);(case side3=>exact zC (Kd.N_reads' HO353.out).2.2);(case side4=>exact (Kd.N_reads' HO353.out).2.1);rintro e w' ⟨rfl,⟨nd,rfl⟩⟩;refine ⟨_,rfl,?_⟩)|((with_reducible refine gate_callee (f:=23) rfl ?_);refine goesL_ (some 39) rfl rfl Tryd.func23 (by kernel_rfl) rfl #[.slice Ao10 t348.length co10,.slice Ao11 t351.length co11] rfl zar ?_;(with_reducible refine (impl_ZSame.calls k _ _ t348 _ _ t351 t356 _ ?side1 ?side2 ?side3 ?side4 A7.out).mono ?_);(case side1=>exact zC (Kd.N_reads' HO350.out).2.2);(case side2=>exact (Kd.N_reads' HO350.out).2.1);(case side3=>exact zC (Kd.N_reads' HO353.out).2.2);(case side4=>exact (Kd.N_reads' HO353.out).2.1);rintro e w13 ⟨rfl,hb⟩;refine ⟨_,rfl,?_⟩;have n0_:=Aside0.mk (Kd.N_below (zN HO350.out) hb);have n1_:=Aside0.mk (Kd.N_below (zN HO353.out) hb);have n2_:=Aside0.mk (below_step zhb hb);clear HO350;clear HO353;clear HB;have HO350:=n0_;have HO353:=n1_;have HB:=n2_;clear n0_ n1_ n2_;(try clear hb);(try clear hb2);(try clear hk);(try clear hi))|((with_reducible refine gate_callee (f:=24) rfl ?_);refine goesL_ (some 42) rfl rfl Tryd.func24 (by kernel_rfl) rfl #[.slice Ao10 t348.length co10,.slice Ao11 t351.length co11] rfl zar ?_;(with_reducible refine (spec_ZSame.calls k _ _ t348 _ _ t351 t357 _ ?side1 ?side2 ?side3 ?side4 A8.out).mono ?_);(case side1=>exact zC (Kd.N_reads' HO350.out).2.2);(case side2=>exact (Kd.N_reads' HO350.out).2.1);(case side3=>exact zC (Kd.N_reads' HO353.out).2.2);(case side4=>exact (Kd.N_reads' HO353.out).2.1);rintro e w' ⟨rfl,⟨nd,rfl⟩⟩;refine ⟨_,rfl,?_⟩))
   go_ret
   exact ⟨by first|rfl|(rw [HR_.out];first|done|rfl)|(simp [errW_none,errW_some] <;> rfl)|(exact absurd ((Option.some.inj (A4.out.symm.trans A7.out)).trans HR_.out) (by decide))|(exact absurd ((Option.some.inj (A5.out.symm.trans A8.out)).trans HR_.out) (by decide))|(simp [*,errW_none,errW_some] <;> rfl),zhb⟩
  ·rw [if_neg c6] at H
   have c6b0:(t354 != t355)=false:=by simpa using c6
   (try (have c6b1:decide (t354=t355)=true:=by simpa using c6))
   (try (have c6b2:(t354 == t355)=true:=by simpa using c6))
   clear c6
   replace H:=Option.bind_eq_some_iff.mp H
   obtain ⟨t358,A140,H⟩:=H
   (try dsimp only at H)
   have A14:=Aside0.mk A140
   clear A140
   by_cases c15:t358=true
   ·subst c15
    have H1:((spec_ZOk.f k t351).bind fun t359=>(if t359=true then (laws_FnZOrder.l0 k t348 t351 (([]:List (S53))) (([]:List (S53))) 0) else ((impl_ZSame.f k t348 t351).bind fun t389=>((spec_ZSame.f k t348 t351).bind fun t390=>(some (t389 == t390))))))=some r:=by rw [if_pos rfl] at H;exact H
    clear H
    have H:=H1
    clear H1
    replace H:=Option.bind_eq_some_iff.mp H
    obtain ⟨t359,A160,H⟩:=H
    (try dsimp only at H)
    have A16:=Aside0.mk A160
    clear A160
    by_cases c17:t359=true
    ·subst c17
     have H1:(laws_FnZOrder.l0 k t348 t351 (([]:List (S53))) (([]:List (S53))) 0)=some r:=by rw [if_pos rfl] at H;exact H
     clear H
     have H:=H1
     clear H1
     obtain ⟨y360,hy360⟩ : ∃ y_:List (S53),y_=(([]:List (S53))):=⟨_,rfl⟩
     replace H:(laws_FnZOrder.l0 k t348 t351 y360 (([]:List (S53))) 0)=some r:=by first|(rw [hy360];with_reducible exact H)|(have H2_:=(Option.bind_some _ _).symm.trans H;rw [hy360];with_reducible exact H2_)|(have H2_:=(Option.bind_some _ _).symm.trans H;with_reducible exact H2_)|with_reducible exact H|(rw [hy360];exact H)|exact H
     have Ny360:=Aside0.mk hy360
     clear hy360
     obtain ⟨y363,hy363⟩ : ∃ y_:List (S53),y_=(([]:List (S53))):=⟨_,rfl⟩
     replace H:(laws_FnZOrder.l0 k t348 t351 y360 y363 0)=some r:=by first|(rw [hy363];with_reducible exact H)|(have H2_:=(Option.bind_some _ _).symm.trans H;rw [hy363];with_reducible exact H2_)|(have H2_:=(Option.bind_some _ _).symm.trans H;with_reducible exact H2_)|with_reducible exact H|(rw [hy363];exact H)|exact H
     have Ny363:=Aside0.mk hy363
     clear hy363
     have H':=Aside0.mk H
     clear H
     (try (have e_:=Option.some.inj (A14.out.symm.trans A16.out);subst e_))
     go_enter Tryd.func6,Tryd.ntmps6
     go_wp2_with (first|((with_reducible refine gate_callee (f:=22) rfl ?_);refine goesL_ (some 17) rfl rfl Tryd.func22 (by kernel_rfl) rfl #[.slice A0 l0.length c0] rfl zar ?_;(with_reducible refine (spec_DrawZSame.calls k _ _ l0 t348 t351 _ ?side1 ?side2 A3.out).mono ?_);(case side1=>exact zC HR0.out);(case side2=>exact HC0.out);rintro e w18 ⟨v349,v352,rfl,ho0,ho1,hb⟩;refine ⟨_,rfl,?_⟩;have n0_:=Aside0.mk (Kd.N_lower (Kd.N_mono (ok':=fun k_=>some k_≠(v352:Value).ownBlock) ho0 (fun k_ hk_=>hk_.2)) (below_size zhb));have n1_:=Aside0.mk (Kd.N_lower (Kd.N_mono (ok':=fun k_=>some k_≠(v349:Value).ownBlock) ho1 (fun k_ hk_=>hk_.2)) (below_size zhb));have n2_:=Aside0.mk (below_step zhb hb);clear HB;have HO350:=n0_;have HO353:=n1_;have HB:=n2_;clear n0_ n1_ n2_;(try clear hb);(try clear hb2);(try clear hk);(try clear hi);(try clear ho0);(try clear ho1);obtain ⟨Ao19,co19,eo19⟩:=Kd.N_slice HO350.out;subst eo19;obtain ⟨Ao20,co20,eo20⟩:=Kd.N_slice HO353.out;subst eo20)|((with_reducible refine gate_callee (f:=23) rfl ?_);refine goesL_ (some 22) rfl rfl Tryd.func23 (by kernel_rfl) rfl #[.slice Ao19 t348.length co19,.slice Ao20 t351.length co20] rfl zar ?_;(with_reducible refine (impl_ZSame.calls k _ _ t348 _ _ t351 t354 _ ?side1 ?side2 ?side3 ?side4 A4.out).mono ?_);(case side1=>exact zC (Kd.N_reads' HO350.out).2.2);(case side2=>exact (Kd.N_reads' HO350.out).2.1);(case side3=>exact zC (Kd.N_reads' HO353.out).2.2);(case side4=>exact (Kd.N_reads' HO353.out).2.1);rintro e w21 ⟨rfl,hb⟩;refine ⟨_,rfl,?_⟩;have n0_:=Aside0.mk (Kd.N_below (zN HO350.out) hb);have n1_:=Aside0.mk (Kd.N_below (zN HO353.out) hb);have n2_:=Aside0.mk (below_step zhb hb);clear HO350;clear HO353;clear HB;have HO350:=n0_;have HO353:=n1_;have HB:=n2_;clear n0_ n1_ n2_;(try clear hb);(try clear hb2);(try clear hk);(try clear hi))|((with_reducible refine gate_callee (f:=24) rfl ?_);refine goesL_ (some 25) rfl rfl Tryd.func24 (by kernel_rfl) rfl #[.slice Ao19 t348.length co19,.slice Ao20 t351.length co20] rfl zar ?_;(with_reducible refine (spec_ZSame.calls k _ _ t348 _ _ t351 t355 _ ?side1 ?side2 ?side3 ?side4 A5.out).mono ?_);(case side1=>exact zC (Kd.N_reads' HO350.out).2.2);(case side2=>exact (Kd.N_reads' HO350.out).2.1);(case side3=>exact zC (Kd.N_reads' HO353.out).2.2);(case side4=>exact (Kd.N_reads' HO353.out).2.1);rintro e w' ⟨rfl,⟨nd,rfl⟩⟩;refine ⟨_,rfl,?_⟩)|(go_at_call 25;(with_reducible refine (spec_ZOk.calls k _ _ t348 true _ ?side1 ?side2 A14.out).mono ?_);(case side1=>exact zC (Kd.N_reads' HO350.out).2.2);(case side2=>exact (Kd.N_reads' HO350.out).2.1);rintro e w22 ⟨rfl,hb⟩;have n0_:=Aside0.mk (Kd.N_below (zN HO350.out) hb);have n1_:=Aside0.mk (Kd.N_below (zN HO353.out) hb);have n2_:=Aside0.mk (below_step zhb hb);clear HO350;clear HO353;clear HB;have HO350:=n0_;have HO353:=n1_;have HB:=n2_;clear n0_ n1_ n2_;(try clear hb);(try clear hb2);(try clear hk);(try clear hi))|(go_at_call 25;(with_reducible refine (spec_ZOk.calls k _ _ t351 true _ ?side1 ?side2 A16.out).mono ?_);(case side1=>exact zC (Kd.N_reads' HO353.out).2.2);(case side2=>exact (Kd.N_reads' HO353.out).2.1);rintro e w23 ⟨rfl,hb⟩;have n0_:=Aside0.mk (Kd.N_below (zN HO350.out) hb);have n1_:=Aside0.mk (Kd.N_below (zN HO353.out) hb);have n2_:=Aside0.mk (below_step zhb hb);clear HO350;clear HO353;clear HB;have HO350:=n0_;have HO353:=n1_;have HB:=n2_;clear n0_ n1_ n2_;(try clear hb);(try clear hb2);(try clear hk);(try clear hi))|((with_reducible refine gate_dst (N:=44) rfl ?_);refine Kd.N_lit k53 _ 53 ?hg (N':=44) ?hd (xs:=([]:List (S53))) (inner:=[]) (ok:=(fun k_=>some k_≠(.slice Ao19 t348.length co19:Value).ownBlock∧some k_≠(.slice Ao20 t351.length co20:Value).ownBlock)) (okp:=(fun k_=>some k_≠(.slice Ao19 t348.length co19:Value).ownBlock∧some k_≠(.slice Ao20 t351.length co20:Value).ownBlock)) ?hr ?hp (fun _ hk=>hk) ((show ∀ k_,w23.heap.size≤k_→(fun k_=>some k_≠(.slice Ao19 t348.length co19:Value).ownBlock∧some k_≠(.slice Ao20 t351.length co20:Value).ownBlock) k_ from fun k_ hk=>⟨Kd.fresh' (Kd.N_lt (zN HO350.out)) k_ hk,Kd.fresh' (Kd.N_lt (zN HO353.out)) k_ hk⟩) _ (Nat.le_refl _)) (Below.refl _ _) (Nat.le_refl _) (by simp) ?_;(case hd=>rfl);(case hg=>rfl);(case hr=>first|(go_simp;done)|(go_simp;rfl));(case hp=>exact (Reps.none _ _));intro v361 w24 ho25 hb hg_ hnew_;clear hg_ hnew_;(first|rw [← Ny360.out] at ho25|(simp only [Int.reduceToNat] at ho25;rw [← Ny360.out] at ho25));have n0_:=Aside0.mk (Kd.N_elder' (zN HO350.out) (Kd.N_base ho25) hb);have n1_:=Aside0.mk (Kd.N_elder' (zN HO353.out) (Kd.N_base ho25) hb);have n2_:=Aside0.mk (Kd.N_lower ho25 (below_size zhb));have n3_:=Aside0.mk (below_step zhb hb);clear HO350;clear HO353;clear HB;have HO350:=n0_;have HO353:=n1_;have HO362:=n2_;have HB:=n3_;clear n0_ n1_ n2_ n3_;clear hb ho25)|((with_reducible refine gate_dst (N:=45) rfl ?_);refine Kd.N_lit k53 _ 53 ?hg (N':=45) ?hd (xs:=([]:List (S53))) (inner:=[]) (ok:=(fun k_=>some k_≠(.slice Ao19 t348.length co19:Value).ownBlock∧some k_≠(.slice Ao20 t351.length co20:Value).ownBlock∧some k_≠(v361:Value).ownBlock)) (okp:=(fun k_=>some k_≠(.slice Ao19 t348.length co19:Value).ownBlock∧some k_≠(.slice Ao20 t351.length co20:Value).ownBlock∧some k_≠(v361:Value).ownBlock)) ?hr ?hp (fun _ hk=>hk) ((show ∀ k_,w24.heap.size≤k_→(fun k_=>some k_≠(.slice Ao19 t348.length co19:Value).ownBlock∧some k_≠(.slice Ao20 t351.length co20:Value).ownBlock∧some k_≠(v361:Value).ownBlock) k_ from fun k_ hk=>⟨Kd.fresh' (Kd.N_lt (zN HO350.out)) k_ hk,Kd.fresh' (Kd.N_lt (zN HO353.out)) k_ hk,Kd.fresh' (Kd.N_lt (zN HO362.out)) k_ hk⟩) _ (Nat.le_refl _)) (Below.refl _ _) (Nat.le_refl _) (by simp) ?_;(case hd=>rfl);(case hg=>rfl);(case hr=>first|(go_simp;done)|(go_simp;rfl));(case hp=>exact (Reps.none _ _));intro v364 w26 ho27 hb hg_ hnew_;clear hg_ hnew_;(first|rw [← Ny363.out] at ho27|(simp only [Int.reduceToNat] at ho27;rw [← Ny363.out] at ho27));have n0_:=Aside0.mk (Kd.N_elder' (zN HO350.out) (Kd.N_base ho27) hb);have n1_:=Aside0.mk (Kd.N_elder' (zN HO353.out) (Kd.N_base ho27) hb);have n2_:=Aside0.mk (Kd.N_elder' (zN HO362.out) (Kd.N_base ho27) hb);have n3_:=Aside0.mk (Kd.N_lower ho27 (below_size zhb));have n4_:=Aside0.mk (below_step zhb hb);clear HO350;clear HO353;clear HO362;clear HB;have HO350:=n0_;have HO353:=n1_;have HO362:=n2_;have HO365:=n3_;have HB:=n4_;clear n0_ n1_ n2_ n3_ n4_;clear hb ho27))
     go_loopg [5,6,7] k (fun kq v5 v6 v7 w'=>∃ (x5_1:List (S53)) (x6_1:List (S53)) (x7_1:Int),v7=.int .i64 x7_1∧Aside0 (laws_FnZOrder.l0 kq t348 t351 x5_1 x6_1 x7_1=some r)∧Aside0 (kq≤k)∧Aside0 (Kd.N k53 53 w' w.heap.size (fun k_=>some k_≠((.slice Ao20 t351.length co20):Value).ownBlock∧some k_≠(v5:Value).ownBlock∧some k_≠(v6:Value).ownBlock) (.slice Ao19 t348.length co19) t348)∧Aside0 (Kd.N k53 53 w' w.heap.size (fun k_=>some k_≠((.slice Ao19 t348.length co19):Value).ownBlock∧some k_≠(v5:Value).ownBlock∧some k_≠(v6:Value).ownBlock) (.slice Ao20 t351.length co20) t351)∧Aside0 (Kd.N k53 53 w' w.heap.size (fun k_=>some k_≠((.slice Ao19 t348.length co19):Value).ownBlock∧some k_≠((.slice Ao20 t351.length co20):Value).ownBlock∧some k_≠(v6:Value).ownBlock) v5 x5_1)∧Aside0 (Kd.N k53 53 w' w.heap.size (fun k_=>some k_≠((.slice Ao19 t348.length co19):Value).ownBlock∧some k_≠((.slice Ao20 t351.length co20):Value).ownBlock∧some k_≠(v5:Value).ownBlock) v6 x6_1)∧Aside0 (Below w.heap.size w w'))
     case atStart=>exact ⟨(y360),(y363),(0),(by first|rfl|(rw [HR_.out];first|done|rfl)|(simp;done)|(simp [*];done)),H',⟨Nat.le_refl _⟩,⟨by (with_reducible repeat (first|apply Kd.N_alloc|apply Kd.N_drewN|apply Kd.N_drew));exact Kd.N_mono HO350.out (fun _ hk=>⟨hk.1.1,⟨hk.1.2,hk.2⟩⟩)⟩,⟨by (with_reducible repeat (first|apply Kd.N_alloc|apply Kd.N_drewN|apply Kd.N_drew));exact Kd.N_mono HO353.out (fun _ hk=>⟨hk.1.1,⟨hk.1.2,hk.2⟩⟩)⟩,⟨by (with_reducible repeat (first|apply Kd.N_alloc|apply Kd.N_drewN|apply Kd.N_drew));exact Kd.N_mono HO362.out (fun _ hk=>⟨hk.1.1,⟨hk.1.2,hk.2⟩⟩)⟩,⟨by (with_reducible repeat (first|apply Kd.N_alloc|apply Kd.N_drewN|apply Kd.N_drew));exact HO365.out⟩,⟨zhb⟩⟩
     case round =>
      clear H'
      try clear c1
      try clear c2
      try clear c2b0
      try clear c2b1
      try clear p2
      try clear c6
      try clear c6b0
      try clear c6b1
      try clear c6b2
      try clear c15
      try clear c17
      try clear c22
      try clear c23
      try clear c24
      obtain ⟨x5_1,x6_1,x7_1,rfl,HA,HK1,HO_3,HO_4,HO_5,HO_6,HB⟩:=hrel
      cases gk with
      | zero=>exact absurd HA.out (by simp [laws_FnZOrder.l0])
      | succ k1 =>
       have H:=HA.out
       clear HA
       simp only [laws_FnZOrder.l0] at H
       by_cases c28:x7_1 < (t348.length:Int)
       ·rw [if_pos c28] at H
        have c28b0:decide (x7_1 < (t348.length:Int))=true:=decide_eq_true c28
        clear c28
        by_cases c29:0≤x7_1
        ·rw [if_pos c29] at H
         have c29b0:=eq_true c29
         have c29b1:decide (0≤x7_1)=true:=decide_eq_true c29
         clear c29
         by_cases c30:x7_1≤(wrap64 (x7_1 + 1))
         ·rw [if_pos c30] at H
          have c30b0:=eq_true c30
          have c30b1:decide (x7_1≤(wrap64 (x7_1 + 1)))=true:=decide_eq_true c30
          by_cases c31:(wrap64 (x7_1 + 1))≤(t348.length:Int)
          ·rw [if_pos c31] at H
           have c31b0:=eq_true c31
           have c31b1:decide ((wrap64 (x7_1 + 1))≤(t348.length:Int))=true:=decide_eq_true c31
           obtain ⟨y366,hy366⟩ : ∃ y_:List (S53),y_=((t348.take ((wrap64 (x7_1 + 1)):Int).toNat).drop (x7_1:Int).toNat):=⟨_,rfl⟩
           replace H:((impl_ZAdd.f k1 x5_1 y366).bind fun bt371=>(if 0≤(wrap64 ((wrap64 ((t348.length:Int) - 1)) - x7_1)) then (if (wrap64 ((wrap64 ((t348.length:Int) - 1)) - x7_1))≤(wrap64 ((t348.length:Int) - x7_1)) then (if (wrap64 ((t348.length:Int) - x7_1))≤(t348.length:Int) then ((impl_ZAdd.f k1 ((t348.take ((wrap64 ((t348.length:Int) - x7_1)):Int).toNat).drop ((wrap64 ((wrap64 ((t348.length:Int) - 1)) - x7_1)):Int).toNat) x6_1).bind fun bt380=>(if bt371.2=true then (if bt380.2=true then (laws_FnZOrder.l0 k1 t348 t351 bt371.1 bt380.1 (wrap64 (x7_1 + 1))) else (some false)) else (some false))) else (none)) else (none)) else (none)))=some r:=by first|(rw [hy366];with_reducible exact H)|(have H2_:=(Option.bind_some _ _).symm.trans H;rw [hy366];with_reducible exact H2_)|(have H2_:=(Option.bind_some _ _).symm.trans H;with_reducible exact H2_)|with_reducible exact H|(rw [hy366];exact H)|exact H
           have Ny366:=Aside0.mk hy366
           clear hy366
           replace H:=Option.bind_eq_some_iff.mp H
           obtain ⟨⟨t371,t372⟩,A320,H⟩:=H
           (try dsimp only at H)
           have A32:=Aside0.mk A320
           clear A320
           obtain ⟨ji33,hji33⟩ : ∃ j_:Int,(wrap64 ((wrap64 ((t348.length:Int) - 1)) - x7_1))=j_:=⟨_,rfl⟩
           replace H:(if 0≤(ji33) then (if (ji33)≤(wrap64 ((t348.length:Int) - x7_1)) then (if (wrap64 ((t348.length:Int) - x7_1))≤(t348.length:Int) then ((impl_ZAdd.f k1 ((t348.take ((wrap64 ((t348.length:Int) - x7_1)):Int).toNat).drop ((ji33):Int).toNat) x6_1).bind fun bt380=>(if t372=true then (if bt380.2=true then (laws_FnZOrder.l0 k1 t348 t351 t371 bt380.1 (wrap64 (x7_1 + 1))) else (some false)) else (some false))) else (none)) else (none)) else (none))=some r:=by first|(rw [hji33] at H;exact H)|(simp only [hji33] at H ⊢;exact H)
           (try rw [hji33] at A32)
           have hji33w:(IntKind.i64.wrap ((wrap64 ((t348.length:Int) - 1)) - x7_1))=ji33:=(i64_w _).trans hji33
           by_cases c34:0≤(ji33)
           ·rw [if_pos c34] at H
            have c34b0:=eq_true c34
            have c34b1:decide (0≤(ji33))=true:=decide_eq_true c34
            clear c34
            by_cases c35:(ji33)≤(wrap64 ((t348.length:Int) - x7_1))
            ·rw [if_pos c35] at H
             have c35b0:=eq_true c35
             have c35b1:decide ((ji33)≤(wrap64 ((t348.length:Int) - x7_1)))=true:=decide_eq_true c35
             clear c35
             by_cases c36:(wrap64 ((t348.length:Int) - x7_1))≤(t348.length:Int)
             ·rw [if_pos c36] at H
              have c36b0:=eq_true c36
              have c36b1:decide ((wrap64 ((t348.length:Int) - x7_1))≤(t348.length:Int))=true:=decide_eq_true c36
              clear c36
              obtain ⟨y375,hy375⟩ : ∃ y_:List (S53),y_=((t348.take ((wrap64 ((t348.length:Int) - x7_1)):Int).toNat).drop ((ji33):Int).toNat):=⟨_,rfl⟩
              replace H:((impl_ZAdd.f k1 y375 x6_1).bind fun bt380=>(if t372=true then (if bt380.2=true then (laws_FnZOrder.l0 k1 t348 t351 t371 bt380.1 (wrap64 (x7_1 + 1))) else (some false)) else (some false)))=some r:=by first|(rw [hy375];with_reducible exact H)|(have H2_:=(Option.bind_some _ _).symm.trans H;rw [hy375];with_reducible exact H2_)|(have H2_:=(Option.bind_some _ _).symm.trans H;with_reducible exact H2_)|with_reducible exact H|(rw [hy375];exact H)|exact H
              have Ny375:=Aside0.mk hy375
              clear hy375
              replace H:=Option.bind_eq_some_iff.mp H
              obtain ⟨⟨t380,t381⟩,A370,H⟩:=H
              (try dsimp only at H)
              have A37:=Aside0.mk A370
              clear A370
              by_cases c38:t372=true
              ·subst c38
               have H1:(if t381=true then (laws_FnZOrder.l0 k1 t348 t351 t371 t380 (wrap64 (x7_1 + 1))) else (some false))=some r:=by rw [if_pos rfl] at H;exact H
               clear H
               have H:=H1
               clear H1
               by_cases c39:t381=true
               ·subst c39
                have H1:(laws_FnZOrder.l0 k1 t348 t351 t371 t380 (wrap64 (x7_1 + 1)))=some r:=by rw [if_pos rfl] at H;exact H
                clear H
                have H:=H1
                clear H1
                have H':=Aside0.mk H
                clear H
                have q40:((wrap64 (x7_1 + 1)):Int)≤((t348.length:Int):Int):=zod
                obtain ⟨i040,hi040,_,hsz40,_⟩:=info_parts info53
                have hroom40:t348.length≤co19:=(Kd.N_reads' HO_3.out).2.1
                have hC40:Kd.F k53 _ _ Ao19 t348.length t348:=(Kd.V_at (base:=w.heap.size) (Kd.N_V HO_3.out)).2.2
                have ql40:(x7_1:Int)≤((wrap64 (x7_1 + 1)):Int):=zod
                have q040:(0:Int)≤(x7_1:Int):=zod
                have hcut40:=cut_mid (P:=Tryd.prog) 22 53 .i64 .i64 Tryd.underlying22 hi040 2 hsz40 Ao19 t348.length co19 x7_1 (wrap64 (x7_1 + 1)) q040 ql40 q40 hroom40
                have hr40:=Kd.F_mid (lo:=(x7_1:Int).toNat) (hi:=((wrap64 (x7_1 + 1)):Int).toNat) (c:=co19) hC40 (by omega) (by omega) hroom40
                obtain ⟨A40,hA40⟩ : ∃ A1,A1=(if co19=(x7_1:Int).toNat then Ao19 else (Ao19:Option Addr).map (·.add ((x7_1:Int).toNat * 2))):=⟨_,rfl⟩
                obtain ⟨c40,hc40⟩ : ∃ c1,c1=co19 - (x7_1:Int).toNat:=⟨_,rfl⟩
                have hy40:y366.length=((wrap64 (x7_1 + 1)):Int).toNat - (x7_1:Int).toNat:=(by rw [Ny366.out,List.length_drop,List.length_take] <;> omega)
                rw [show ((t348).take ((wrap64 (x7_1 + 1)):Int).toNat).drop (x7_1:Int).toNat=y366 from Ny366.out.symm] at hr40
                replace hr40:Kd.F k53 _ _ A40 y366.length y366:=(by rw [hA40];exact hr40)
                rw [← hy40,← hA40,← hc40] at hcut40
                have HO370:=Aside0.mk (show Kd.V k53 53 _ w.heap.size _ (.slice A40 y366.length c40) y366 from Kd.V_mk (by rw [hy40,hc40];exact Nat.sub_le_sub_right (Nat.le_trans (by omega) hroom40) _) hr40)
                have HC370:=Aside0.mk (show y366.length≤c40 from by rw [hy40,hc40];exact Nat.sub_le_sub_right (Nat.le_trans (by omega) hroom40) _)
                clear hr40 hC40 hroom40 hi040 hsz40 hc40
                have KY40:=Aside0.mk hy40
                have KA40:=Aside0.mk hA40
                clear hy40 hA40
                replace q40:=eq_true q40
                obtain ⟨Ao41,co41,eo41⟩:=Kd.N_slice HO_5.out
                subst eo41
                go_wp2_with (first|((with_reducible refine gate_callee (f:=26) rfl ?_);refine goesL_ (some 59) rfl rfl Tryd.func26 (by kernel_rfl) rfl #[.slice Ao41 x5_1.length co41,.slice A40 y366.length c40] rfl zar ?_;(with_reducible refine (impl_ZAdd.calls k1 _ _ x5_1 _ _ y366 t371 true _ ?side1 ?side2 ?side3 ?side4 A32.out).mono ?_);(case side1=>exact zC (Kd.N_reads' HO_5.out).2.2);(case side2=>exact (Kd.N_reads' HO_5.out).2.1);(case side3=>repeat (first|exact (Kd.V_reads' HO370.out).2.2|(with_reducible refine Kd.C_alloc ?_ _)|(with_reducible refine Kd.C_drewN ?_ _)|(with_reducible refine Kd.C_drew ?_)));(case side4=>exact (Kd.V_reads' HO370.out).2.1);rintro e w42 ⟨v373,rfl,ho0,hb⟩;refine ⟨_,rfl,?_⟩;have n0_:=Aside0.mk (Kd.N_elder' (zN HO_3.out) (Kd.S_base ho0) hb);have n1_:=Aside0.mk (Kd.N_elder' (zN HO_4.out) (Kd.S_base ho0) hb);have n2_:=Aside0.mk (Kd.N_elder' (zN HO_5.out) (Kd.S_base ho0) hb);have n3_:=Aside0.mk (Kd.N_elder' (zN HO_6.out) (Kd.S_base ho0) hb);have n4_:=Aside0.mk (Kd.V_elder' (zV HO370.out) (Kd.S_base ho0) hb);have n5_:=Aside0.mk (Kd.N_lower (Kd.N_mono (ok':=fun k_=>some k_≠(.slice Ao19 t348.length co19:Value).ownBlock∧some k_≠(.slice Ao20 t351.length co20:Value).ownBlock∧some k_≠(.slice Ao41 x5_1.length co41:Value).ownBlock∧some k_≠(u6:Value).ownBlock) (Kd.S_N (Kd.S_bound ho0)) (fun k_ hk_=>⟨(Kd.fresh' (Kd.N_lt (zN HO_3.out)) k_ hk_.2.1),(Kd.fresh' (Kd.N_lt (zN HO_4.out)) k_ hk_.2.1),(Kd.fresh' (Kd.N_lt (zN HO_5.out)) k_ hk_.2.1),(Kd.fresh' (Kd.N_lt (zN HO_6.out)) k_ hk_.2.1)⟩)) (below_size zhb));have n6_:=Aside0.mk (below_step zhb hb);clear HO_3;clear HO_4;clear HO_5;clear HO_6;clear HO370;clear HB;have HO_3:=n0_;have HO_4:=n1_;have HO_5:=n2_;have HO_6:=n3_;have HO370:=n4_;have HO374:=n5_;have HB:=n6_;clear n0_ n1_ n2_ n3_ n4_ n5_ n6_;(try clear hb);(try clear hb2);(try clear hk);(try clear hi);(try clear ho0);have q43:((wrap64 ((t348.length:Int) - x7_1)):Int)≤((t348.length:Int):Int):=zod;obtain ⟨i043,hi043,_,hsz43,_⟩:=info_parts info53;have hroom43:t348.length≤co19:=(Kd.N_reads' HO_3.out).2.1;have hC43:Kd.F k53 _ _ Ao19 t348.length t348:=(Kd.V_at (base:=w.heap.size) (Kd.N_V HO_3.out)).2.2;have ql43:((ji33):Int)≤((wrap64 ((t348.length:Int) - x7_1)):Int):=zod;have q043:(0:Int)≤((ji33):Int):=zod;have hcut43:=cut_mid (P:=Tryd.prog) 22 53 .i64 .i64 Tryd.underlying22 hi043 2 hsz43 Ao19 t348.length co19 (ji33) (wrap64 ((t348.length:Int) - x7_1)) q043 ql43 q43 hroom43;have hr43:=Kd.F_mid (lo:=((ji33):Int).toNat) (hi:=((wrap64 ((t348.length:Int) - x7_1)):Int).toNat) (c:=co19) hC43 (by omega) (by omega) hroom43;obtain ⟨A43,hA43⟩ : ∃ A1,A1=(if co19=((ji33):Int).toNat then Ao19 else (Ao19:Option Addr).map (·.add (((ji33):Int).toNat * 2))):=⟨_,rfl⟩;obtain ⟨c43,hc43⟩ : ∃ c1,c1=co19 - ((ji33):Int).toNat:=⟨_,rfl⟩;have hy43:y375.length=((wrap64 ((t348.length:Int) - x7_1)):Int).toNat - ((ji33):Int).toNat:=(by rw [Ny375.out,List.length_drop,List.length_take] <;> omega);rw [show ((t348).take ((wrap64 ((t348.length:Int) - x7_1)):Int).toNat).drop ((ji33):Int).toNat=y375 from Ny375.out.symm] at hr43;replace hr43:Kd.F k53 _ _ A43 y375.length y375:=(by rw [hA43];exact hr43);rw [← hy43,← hA43,← hc43] at hcut43;have HO379:=Aside0.mk (show Kd.V k53 53 _ w.heap.size _ (.slice A43 y375.length c43) y375 from Kd.V_mk (by rw [hy43,hc43];exact Nat.sub_le_sub_right (Nat.le_trans (by omega) hroom43) _) hr43);have HC379:=Aside0.mk (show y375.length≤c43 from by rw [hy43,hc43];exact Nat.sub_le_sub_right (Nat.le_trans (by omega) hroom43) _);clear hr43 hC43 hroom43 hi043 hsz43 hc43;have KY43:=Aside0.mk hy43;have KA43:=Aside0.mk hA43;clear hy43 hA43;replace q43:=eq_true q43;obtain ⟨Ao44,co44,eo44⟩:=Kd.N_slice HO_6.out;subst eo44)|((with_reducible refine gate_callee (f:=26) rfl ?_);refine goesL_ (some 75) rfl rfl Tryd.func26 (by kernel_rfl) rfl #[.slice A43 y375.length c43,.slice Ao44 x6_1.length co44] rfl zar ?_;(with_reducible refine (impl_ZAdd.calls k1 _ _ y375 _ _ x6_1 t380 true _ ?side1 ?side2 ?side3 ?side4 A37.out).mono ?_);(case side1=>repeat (first|exact (Kd.V_reads' HO379.out).2.2|(with_reducible refine Kd.C_alloc ?_ _)|(with_reducible refine Kd.C_drewN ?_ _)|(with_reducible refine Kd.C_drew ?_)));(case side2=>exact (Kd.V_reads' HO379.out).2.1);(case side3=>exact zC (Kd.N_reads' HO_6.out).2.2);(case side4=>exact (Kd.N_reads' HO_6.out).2.1);rintro e w45 ⟨v382,rfl,ho0,hb⟩;refine ⟨_,rfl,?_⟩;have n0_:=Aside0.mk (Kd.N_elder' (zN HO_3.out) (Kd.S_base ho0) hb);have n1_:=Aside0.mk (Kd.N_elder' (zN HO_4.out) (Kd.S_base ho0) hb);have n2_:=Aside0.mk (Kd.N_elder' (zN HO_5.out) (Kd.S_base ho0) hb);have n3_:=Aside0.mk (Kd.N_elder' (zN HO_6.out) (Kd.S_base ho0) hb);have n4_:=Aside0.mk (Kd.V_elder' (zV HO370.out) (Kd.S_base ho0) hb);have n5_:=Aside0.mk (Kd.N_elder' (zN HO374.out) (Kd.S_base ho0) hb);have n6_:=Aside0.mk (Kd.V_elder' (zV HO379.out) (Kd.S_base ho0) hb);have n7_:=Aside0.mk (Kd.N_lower (Kd.N_mono (ok':=fun k_=>some k_≠(.slice Ao19 t348.length co19:Value).ownBlock∧some k_≠(.slice Ao20 t351.length co20:Value).ownBlock∧some k_≠(.slice Ao41 x5_1.length co41:Value).ownBlock∧some k_≠(.slice Ao44 x6_1.length co44:Value).ownBlock∧some k_≠(v373:Value).ownBlock) (Kd.S_N (Kd.S_bound ho0)) (fun k_ hk_=>⟨(Kd.fresh' (Kd.N_lt (zN HO_3.out)) k_ hk_.2.1),(Kd.fresh' (Kd.N_lt (zN HO_4.out)) k_ hk_.2.1),(Kd.fresh' (Kd.N_lt (zN HO_5.out)) k_ hk_.2.1),(Kd.fresh' (Kd.N_lt (zN HO_6.out)) k_ hk_.2.1),(Kd.fresh' (Kd.N_lt (zN HO374.out)) k_ hk_.2.1)⟩)) (below_size zhb));have n8_:=Aside0.mk (below_step zhb hb);clear HO_3;clear HO_4;clear HO_5;clear HO_6;clear HO370;clear HO374;clear HO379;clear HB;have HO_3:=n0_;have HO_4:=n1_;have HO_5:=n2_;have HO_6:=n3_;have HO370:=n4_;have HO374:=n5_;have HO379:=n6_;have HO383:=n7_;have HB:=n8_;clear n0_ n1_ n2_ n3_ n4_ n5_ n6_ n7_ n8_;(try clear hb);(try clear hb2);(try clear hk);(try clear hi);(try clear ho0)))
                go_roundg k1
                case measure=>have:=HK1.out;omega
                case rel=>exact ⟨(t371),(t380),(wrap64 (x7_1 + 1)),(by first|rfl|(rw [HR_.out];first|done|rfl)|(simp;done)|(simp [*];done)),H',⟨by have:=HK1.out;omega⟩,⟨by (with_reducible repeat (first|apply Kd.N_alloc|apply Kd.N_drewN|apply Kd.N_drew));exact Kd.N_mono HO_3.out (fun _ hk=>⟨hk.1.1.1,⟨hk.1.2,hk.2⟩⟩)⟩,⟨by (with_reducible repeat (first|apply Kd.N_alloc|apply Kd.N_drewN|apply Kd.N_drew));exact Kd.N_mono HO_4.out (fun _ hk=>⟨hk.1.1.1,⟨hk.1.2,hk.2⟩⟩)⟩,⟨by (with_reducible repeat (first|apply Kd.N_alloc|apply Kd.N_drewN|apply Kd.N_drew));exact Kd.N_mono HO374.out (fun _ hk=>⟨hk.1.1,⟨hk.1.2.1,hk.2⟩⟩)⟩,⟨by (with_reducible repeat (first|apply Kd.N_alloc|apply Kd.N_drewN|apply Kd.N_drew));exact Kd.N_mono HO383.out (fun _ hk=>⟨hk.1,⟨hk.2.1,hk.2.2.2.2⟩⟩)⟩,⟨zhb⟩⟩
               ·replace c39:=Bool.eq_false_iff.mpr c39
                subst c39
                have H1:(some false)=some r:=by rw [if_neg (show ¬ (false=true) by decide)] at H;exact H
                clear H
                have H:=H1
                clear H1
                exact absurd ((Option.some.inj H).trans HR_.out) (by decide)
              ·replace c38:=Bool.eq_false_iff.mpr c38
               subst c38
               have H1:(some false)=some r:=by rw [if_neg (show ¬ (false=true) by decide)] at H;exact H
               clear H
               have H:=H1
               clear H1
               exact absurd ((Option.some.inj H).trans HR_.out) (by decide)
             ·rw [if_neg c36] at H
              exact absurd H (by simp)
            ·rw [if_neg c35] at H
             exact absurd H (by simp)
           ·rw [if_neg c34] at H
            exact absurd H (by simp)
          ·rw [if_neg c31] at H
           exact absurd H (by simp)
         ·rw [if_neg c30] at H
          exact absurd H (by simp)
        ·rw [if_neg c29] at H
         exact absurd H (by simp)
       ·rw [if_neg c28] at H
        have c28b0:decide (x7_1 < (t348.length:Int))=false:=decide_eq_false c28
        clear c28
        replace H:=Option.bind_eq_some_iff.mp H
        obtain ⟨t384,A460,H⟩:=H
        (try dsimp only at H)
        have A46:=Aside0.mk A460
        clear A460
        by_cases c47:t384=true
        ·subst c47
         have H1:((impl_ZSame.f k1 x6_1 t348).bind fun t385=>(if t385=true then ((impl_ZSame.f k1 t348 t351).bind fun t386=>((impl_ZText.f k1 t348).bind fun t387=>((impl_ZText.f k1 t351).bind fun t388=>(some (t386 == (t387.toList == t388.toList)))))) else (some false)))=some r:=by rw [if_pos rfl] at H;exact H
         clear H
         have H:=H1
         clear H1
         replace H:=Option.bind_eq_some_iff.mp H
         obtain ⟨t385,A480,H⟩:=H
         (try dsimp only at H)
         have A48:=Aside0.mk A480
         clear A480
         by_cases c49:t385=true
         ·subst c49
          have H1:((impl_ZSame.f k1 t348 t351).bind fun t386=>((impl_ZText.f k1 t348).bind fun t387=>((impl_ZText.f k1 t351).bind fun t388=>(some (t386 == (t387.toList == t388.toList))))))=some r:=by rw [if_pos rfl] at H;exact H
          clear H
          have H:=H1
          clear H1
          replace H:=Option.bind_eq_some_iff.mp H
          obtain ⟨t386,A500,H⟩:=H
          (try dsimp only at H)
          have A50:=Aside0.mk A500
          clear A500
          replace H:=Option.bind_eq_some_iff.mp H
          obtain ⟨t387,A510,H⟩:=H
          (try dsimp only at H)
          have A51:=Aside0.mk A510
          clear A510
          replace H:=Option.bind_eq_some_iff.mp H
          obtain ⟨t388,A520,H⟩:=H
          (try dsimp only at H)
          have A52:=Aside0.mk A520
          clear A520
          obtain rfl:=Option.some.inj H
          obtain ⟨Ao53,co53,eo53⟩:=Kd.N_slice HO_5.out
          subst eo53
          go_wp2_with (first|((with_reducible refine gate_callee (f:=23) rfl ?_);refine goesL_ (some 88) rfl rfl Tryd.func23 (by kernel_rfl) rfl #[.slice Ao53 x5_1.length co53,.slice Ao19 t348.length co19] rfl zar ?_;(with_reducible refine (impl_ZSame.calls k1 _ _ x5_1 _ _ t348 true _ ?side1 ?side2 ?side3 ?side4 A46.out).mono ?_);(case side1=>exact zC (Kd.N_reads' HO_5.out).2.2);(case side2=>exact (Kd.N_reads' HO_5.out).2.1);(case side3=>exact zC (Kd.N_reads' HO_3.out).2.2);(case side4=>exact (Kd.N_reads' HO_3.out).2.1);rintro e w54 ⟨rfl,hb⟩;refine ⟨_,rfl,?_⟩;have n0_:=Aside0.mk (Kd.N_below (zN HO_3.out) hb);have n1_:=Aside0.mk (Kd.N_below (zN HO_4.out) hb);have n2_:=Aside0.mk (Kd.N_below (zN HO_5.out) hb);have n3_:=Aside0.mk (Kd.N_below (zN HO_6.out) hb);have n4_:=Aside0.mk (below_step zhb hb);clear HO_3;clear HO_4;clear HO_5;clear HO_6;clear HB;have HO_3:=n0_;have HO_4:=n1_;have HO_5:=n2_;have HO_6:=n3_;have HB:=n4_;clear n0_ n1_ n2_ n3_ n4_;(try clear hb);(try clear hb2);(try clear hk);(try clear hi);obtain ⟨Ao55,co55,eo55⟩:=Kd.N_slice HO_6.out;subst eo55)|(go_at_call 23;(with_reducible refine (impl_ZSame.calls k1 _ _ x6_1 _ _ t348 true _ ?side1 ?side2 ?side3 ?side4 A48.out).mono ?_);(case side1=>exact zC (Kd.N_reads' HO_6.out).2.2);(case side2=>exact (Kd.N_reads' HO_6.out).2.1);(case side3=>exact zC (Kd.N_reads' HO_3.out).2.2);(case side4=>exact (Kd.N_reads' HO_3.out).2.1);rintro e w56 ⟨rfl,hb⟩;have n0_:=Aside0.mk (Kd.N_below (zN HO_3.out) hb);have n1_:=Aside0.mk (Kd.N_below (zN HO_4.out) hb);have n2_:=Aside0.mk (Kd.N_below (zN HO_5.out) hb);have n3_:=Aside0.mk (Kd.N_below (zN HO_6.out) hb);have n4_:=Aside0.mk (below_step zhb hb);clear HO_3;clear HO_4;clear HO_5;clear HO_6;clear HB;have HO_3:=n0_;have HO_4:=n1_;have HO_5:=n2_;have HO_6:=n3_;have HB:=n4_;clear n0_ n1_ n2_ n3_ n4_;(try clear hb);(try clear hb2);(try clear hk);(try clear hi))|(go_at_call 23;(with_reducible refine (impl_ZSame.calls k1 _ _ t348 _ _ t351 t386 _ ?side1 ?side2 ?side3 ?side4 A50.out).mono ?_);(case side1=>exact zC (Kd.N_reads' HO_3.out).2.2);(case side2=>exact (Kd.N_reads' HO_3.out).2.1);(case side3=>exact zC (Kd.N_reads' HO_4.out).2.2);(case side4=>exact (Kd.N_reads' HO_4.out).2.1);rintro e w57 ⟨rfl,hb⟩;have n0_:=Aside0.mk (Kd.N_below (zN HO_3.out) hb);have n1_:=Aside0.mk (Kd.N_below (zN HO_4.out) hb);have n2_:=Aside0.mk (Kd.N_below (zN HO_5.out) hb);have n3_:=Aside0.mk (Kd.N_below (zN HO_6.out) hb);have n4_:=Aside0.mk (below_step zhb hb);clear HO_3;clear HO_4;clear HO_5;clear HO_6;clear HB;have HO_3:=n0_;have HO_4:=n1_;have HO_5:=n2_;have HO_6:=n3_;have HB:=n4_;clear n0_ n1_ n2_ n3_ n4_;(try clear hb);(try clear hb2);(try clear hk);(try clear hi))|(go_at_call 21;(with_reducible refine (impl_ZText.calls k1 _ _ t348 t387 _ ?side1 ?side2 A51.out).mono ?_);(case side1=>exact zC (Kd.N_reads' HO_3.out).2.2);(case side2=>exact (Kd.N_reads' HO_3.out).2.1);rintro e w58 ⟨rfl,hb⟩;have n0_:=Aside0.mk (Kd.N_below (zN HO_3.out) hb);have n1_:=Aside0.mk (Kd.N_below (zN HO_4.out) hb);have n2_:=Aside0.mk (Kd.N_below (zN HO_5.out) hb);have n3_:=Aside0.mk (Kd.N_below (zN HO_6.out) hb);have n4_:=Aside0.mk (below_step zhb hb);clear HO_3;clear HO_4;clear HO_5;clear HO_6;clear HB;have HO_3:=n0_;have HO_4:=n1_;have HO_5:=n2_;have HO_6:=n3_;have HB:=n4_;clear n0_ n1_ n2_ n3_ n4_;(try clear hb);(try clear hb2);(try clear hk);(try clear hi))|(go_at_call 21;(with_reducible refine (impl_ZText.calls k1 _ _ t351 t388 _ ?side1 ?side2 A52.out).mono ?_);(case side1=>exact zC (Kd.N_reads' HO_4.out).2.2);(case side2=>exact (Kd.N_reads' HO_4.out).2.1);rintro e w59 ⟨rfl,hb⟩;have n0_:=Aside0.mk (Kd.N_below (zN HO_3.out) hb);have n1_:=Aside0.mk (Kd.N_below (zN HO_4.out) hb);have n2_:=Aside0.mk (Kd.N_below (zN HO_5.out) hb);have n3_:=Aside0.mk (Kd.N_below (zN HO_6.out) hb);have n4_:=Aside0.mk (below_step zhb hb);clear HO_3;clear HO_4;clear HO_5;clear HO_6;clear HB;have HO_3:=n0_;have HO_4:=n1_;have HO_5:=n2_;have HO_6:=n3_;have HB:=n4_;clear n0_ n1_ n2_ n3_ n4_;(try clear hb);(try clear hb2);(try clear hk);(try clear hi)))
          go_ret
          exact ⟨by first|rfl|(rw [HR_.out];first|done|rfl)|(simp [errW_none,errW_some] <;> rfl)|(simp [*,errW_none,errW_some] <;> rfl),zhb⟩
         ·replace c49:=Bool.eq_false_iff.mpr c49
          subst c49
          have H1:(some false)=some r:=by rw [if_neg (show ¬ (false=true) by decide)] at H;exact H
          clear H
          have H:=H1
          clear H1
          exact absurd ((Option.some.inj H).trans HR_.out) (by decide)
        ·replace c47:=Bool.eq_false_iff.mpr c47
         subst c47
         have H1:(some false)=some r:=by rw [if_neg (show ¬ (false=true) by decide)] at H;exact H
         clear H
         have H:=H1
         clear H1
         exact absurd ((Option.some.inj H).trans HR_.out) (by decide)
    ·replace c17:=Bool.eq_false_iff.mpr c17
     subst c17
     have H1:((impl_ZSame.f k t348 t351).bind fun t389=>((spec_ZSame.f k t348 t351).bind fun t390=>(some (t389 == t390))))=some r:=by rw [if_neg (show ¬ (false=true) by decide)] at H;exact H
     clear H
     have H:=H1
     clear H1
     replace H:=Option.bind_eq_some_iff.mp H
     obtain ⟨t389,A600,H⟩:=H
     (try dsimp only at H)
     have A60:=Aside0.mk A600
     clear A600
     replace H:=Option.bind_eq_some_iff.mp H
     obtain ⟨t390,A610,H⟩:=H
     (try dsimp only at H)
     have A61:=Aside0.mk A610
     clear A610
     obtain rfl:=Option.some.inj H
     go_enter Tryd.func6,Tryd.ntmps6
     go_wp2_with (first|((with_reducible refine gate_callee (f:=22) rfl ?_);refine goesL_ (some 17) rfl rfl Tryd.func22 (by kernel_rfl) rfl #[.slice A0 l0.length c0] rfl zar ?_;(with_reducible refine (spec_DrawZSame.calls k _ _ l0 t348 t351 _ ?side1 ?side2 A3.out).mono ?_);(case side1=>exact zC HR0.out);(case side2=>exact HC0.out);rintro e w62 ⟨v349,v352,rfl,ho0,ho1,hb⟩;refine ⟨_,rfl,?_⟩;have n0_:=Aside0.mk (Kd.N_lower (Kd.N_mono (ok':=fun k_=>some k_≠(v352:Value).ownBlock) ho0 (fun k_ hk_=>hk_.2)) (below_size zhb));have n1_:=Aside0.mk (Kd.N_lower (Kd.N_mono (ok':=fun k_=>some k_≠(v349:Value).ownBlock) ho1 (fun k_ hk_=>hk_.2)) (below_size zhb));have n2_:=Aside0.mk (below_step zhb hb);clear HB;have HO350:=n0_;have HO353:=n1_;have HB:=n2_;clear n0_ n1_ n2_;(try clear hb);(try clear hb2);(try clear hk);(try clear hi);(try clear ho0);(try clear ho1);obtain ⟨Ao63,co63,eo63⟩:=Kd.N_slice HO350.out;subst eo63;obtain ⟨Ao64,co64,eo64⟩:=Kd.N_slice HO353.out;subst eo64)|((with_reducible refine gate_callee (f:=23) rfl ?_);refine goesL_ (some 22) rfl rfl Tryd.func23 (by kernel_rfl) rfl #[.slice Ao63 t348.length co63,.slice Ao64 t351.length co64] rfl zar ?_;(with_reducible refine (impl_ZSame.calls k _ _ t348 _ _ t351 t354 _ ?side1 ?side2 ?side3 ?side4 A4.out).mono ?_);(case side1=>exact zC (Kd.N_reads' HO350.out).2.2);(case side2=>exact (Kd.N_reads' HO350.out).2.1);(case side3=>exact zC (Kd.N_reads' HO353.out).2.2);(case side4=>exact (Kd.N_reads' HO353.out).2.1);rintro e w65 ⟨rfl,hb⟩;refine ⟨_,rfl,?_⟩;have n0_:=Aside0.mk (Kd.N_below (zN HO350.out) hb);have n1_:=Aside0.mk (Kd.N_below (zN HO353.out) hb);have n2_:=Aside0.mk (below_step zhb hb);clear HO350;clear HO353;clear HB;have HO350:=n0_;have HO353:=n1_;have HB:=n2_;clear n0_ n1_ n2_;(try clear hb);(try clear hb2);(try clear hk);(try clear hi))|((with_reducible refine gate_callee (f:=24) rfl ?_);refine goesL_ (some 25) rfl rfl Tryd.func24 (by kernel_rfl) rfl #[.slice Ao63 t348.length co63,.slice Ao64 t351.length co64] rfl zar ?_;(with_reducible refine (spec_ZSame.calls k _ _ t348 _ _ t351 t355 _ ?side1 ?side2 ?side3 ?side4 A5.out).mono ?_);(case side1=>exact zC (Kd.N_reads' HO350.out).2.2);(case side2=>exact (Kd.N_reads' HO350.out).2.1);(case side3=>exact zC (Kd.N_reads' HO353.out).2.2);(case side4=>exact (Kd.N_reads' HO353.out).2.1);rintro e w' ⟨rfl,⟨nd,rfl⟩⟩;refine ⟨_,rfl,?_⟩)|(go_at_call 25;(with_reducible refine (spec_ZOk.calls k _ _ t348 true _ ?side1 ?side2 A14.out).mono ?_);(case side1=>exact zC (Kd.N_reads' HO350.out).2.2);(case side2=>exact (Kd.N_reads' HO350.out).2.1);rintro e w66 ⟨rfl,hb⟩;have n0_:=Aside0.mk (Kd.N_below (zN HO350.out) hb);have n1_:=Aside0.mk (Kd.N_below (zN HO353.out) hb);have n2_:=Aside0.mk (below_step zhb hb);clear HO350;clear HO353;clear HB;have HO350:=n0_;have HO353:=n1_;have HB:=n2_;clear n0_ n1_ n2_;(try clear hb);(try clear hb2);(try clear hk);(try clear hi))|(go_at_call 25;(with_reducible refine (spec_ZOk.calls k _ _ t351 false _ ?side1 ?side2 A16.out).mono ?_);(case side1=>exact zC (Kd.N_reads' HO353.out).2.2);(case side2=>exact (Kd.N_reads' HO353.out).2.1);rintro e w67 ⟨rfl,hb⟩;have n0_:=Aside0.mk (Kd.N_below (zN HO350.out) hb);have n1_:=Aside0.mk (Kd.N_below (zN HO353.out) hb);have n2_:=Aside0.mk (below_step zhb hb);clear HO350;clear HO353;clear HB;have HO350:=n0_;have HO353:=n1_;have HB:=n2_;clear n0_ n1_ n2_;(try clear hb);(try clear hb2);(try clear hk);(try clear hi))|((with_reducible refine gate_callee (f:=23) rfl ?_);refine goesL_ (some 39) rfl rfl Tryd.func23 (by kernel_rfl) rfl #[.slice Ao63 t348.length co63,.slice Ao64 t351.length co64] rfl zar ?_;(with_reducible refine (impl_ZSame.calls k _ _ t348 _ _ t351 t389 _ ?side1 ?side2 ?side3 ?side4 A60.out).mono ?_);(case side1=>exact zC (Kd.N_reads' HO350.out).2.2);(case side2=>exact (Kd.N_reads' HO350.out).2.1);(case side3=>exact zC (Kd.N_reads' HO353.out).2.2);(case side4=>exact (Kd.N_reads' HO353.out).2.1);rintro e w68 ⟨rfl,hb⟩;refine ⟨_,rfl,?_⟩;have n0_:=Aside0.mk (Kd.N_below (zN HO350.out) hb);have n1_:=Aside0.mk (Kd.N_below (zN HO353.out) hb);have n2_:=Aside0.mk (below_step zhb hb);clear HO350;clear HO353;clear HB;have HO350:=n0_;have HO353:=n1_;have HB:=n2_;clear n0_ n1_ n2_;(try clear hb);(try clear hb2);(try clear hk);(try clear hi))|((with_reducible refine gate_callee (f:=24) rfl ?_);refine goesL_ (some 42) rfl rfl Tryd.func24 (by kernel_rfl) rfl #[.slice Ao63 t348.length co63,.slice Ao64 t351.length co64] rfl zar ?_;(with_reducible refine (spec_ZSame.calls k _ _ t348 _ _ t351 t390 _ ?side1 ?side2 ?side3 ?side4 A61.out).mono ?_);(case side1=>exact zC (Kd.N_reads' HO350.out).2.2);(case side2=>exact (Kd.N_reads' HO350.out).2.1);(case side3=>exact zC (Kd.N_reads' HO353.out).2.2);(case side4=>exact (Kd.N_reads' HO353.out).2.1);rintro e w' ⟨rfl,⟨nd,rfl⟩⟩;refine ⟨_,rfl,?_⟩))
     go_ret
     exact ⟨by first|rfl|(rw [HR_.out];first|done|rfl)|(simp [errW_none,errW_some] <;> rfl)|(exact absurd ((Option.some.inj (A4.out.symm.trans A60.out)).trans HR_.out) (by decide))|(exact absurd ((Option.some.inj (A5.out.symm.trans A61.out)).trans HR_.out) (by decide))|(simp [*,errW_none,errW_some] <;> rfl),zhb⟩
   ·replace c15:=Bool.eq_false_iff.mpr c15
    subst c15
    have H1:((impl_ZSame.f k t348 t351).bind fun t391=>((spec_ZSame.f k t348 t351).bind fun t392=>(some (t391 == t392))))=some r:=by rw [if_neg (show ¬ (false=true) by decide)] at H;exact H
    clear H
    have H:=H1
    clear H1
    replace H:=Option.bind_eq_some_iff.mp H
    obtain ⟨t391,A690,H⟩:=H
    (try dsimp only at H)
    have A69:=Aside0.mk A690
    clear A690
    replace H:=Option.bind_eq_some_iff.mp H
    obtain ⟨t392,A700,H⟩:=H
    (try dsimp only at H)
    have A70:=Aside0.mk A700
    clear A700
    obtain rfl:=Option.some.inj H
    go_enter Tryd.func6,Tryd.ntmps6
    go_wp2_with (first|((with_reducible refine gate_callee (f:=22) rfl ?_);refine goesL_ (some 17) rfl rfl Tryd.func22 (by kernel_rfl) rfl #[.slice A0 l0.length c0] rfl zar ?_;(with_reducible refine (spec_DrawZSame.calls k _ _ l0 t348 t351 _ ?side1 ?side2 A3.out).mono ?_);(case side1=>exact zC HR0.out);(case side2=>exact HC0.out);rintro e w71 ⟨v349,v352,rfl,ho0,ho1,hb⟩;refine ⟨_,rfl,?_⟩;have n0_:=Aside0.mk (Kd.N_lower (Kd.N_mono (ok':=fun k_=>some k_≠(v352:Value).ownBlock) ho0 (fun k_ hk_=>hk_.2)) (below_size zhb));have n1_:=Aside0.mk (Kd.N_lower (Kd.N_mono (ok':=fun k_=>some k_≠(v349:Value).ownBlock) ho1 (fun k_ hk_=>hk_.2)) (below_size zhb));have n2_:=Aside0.mk (below_step zhb hb);clear HB;have HO350:=n0_;have HO353:=n1_;have HB:=n2_;clear n0_ n1_ n2_;(try clear hb);(try clear hb2);(try clear hk);(try clear hi);(try clear ho0);(try clear ho1);obtain ⟨Ao72,co72,eo72⟩:=Kd.N_slice HO350.out;subst eo72;obtain ⟨Ao73,co73,eo73⟩:=Kd.N_slice HO353.out;subst eo73)|((with_reducible refine gate_callee (f:=23) rfl ?_);refine goesL_ (some 22) rfl rfl Tryd.func23 (by kernel_rfl) rfl #[.slice Ao72 t348.length co72,.slice Ao73 t351.length co73] rfl zar ?_;(with_reducible refine (impl_ZSame.calls k _ _ t348 _ _ t351 t354 _ ?side1 ?side2 ?side3 ?side4 A4.out).mono ?_);(case side1=>exact zC (Kd.N_reads' HO350.out).2.2);(case side2=>exact (Kd.N_reads' HO350.out).2.1);(case side3=>exact zC (Kd.N_reads' HO353.out).2.2);(case side4=>exact (Kd.N_reads' HO353.out).2.1);rintro e w74 ⟨rfl,hb⟩;refine ⟨_,rfl,?_⟩;have n0_:=Aside0.mk (Kd.N_below (zN HO350.out) hb);have n1_:=Aside0.mk (Kd.N_below (zN HO353.out) hb);have n2_:=Aside0.mk (below_step zhb hb);clear HO350;clear HO353;clear HB;have HO350:=n0_;have HO353:=n1_;have HB:=n2_;clear n0_ n1_ n2_;(try clear hb);(try clear hb2);(try clear hk);(try clear hi))|((with_reducible refine gate_callee (f:=24) rfl ?_);refine goesL_ (some 25) rfl rfl Tryd.func24 (by kernel_rfl) rfl #[.slice Ao72 t348.length co72,.slice Ao73 t351.length co73] rfl zar ?_;(with_reducible refine (spec_ZSame.calls k _ _ t348 _ _ t351 t355 _ ?side1 ?side2 ?side3 ?side4 A5.out).mono ?_);(case side1=>exact zC (Kd.N_reads' HO350.out).2.2);(case side2=>exact (Kd.N_reads' HO350.out).2.1);(case side3=>exact zC (Kd.N_reads' HO353.out).2.2);(case side4=>exact (Kd.N_reads' HO353.out).2.1);rintro e w' ⟨rfl,⟨nd,rfl⟩⟩;refine ⟨_,rfl,?_⟩)|(go_at_call 25;(with_reducible refine (spec_ZOk.calls k _ _ t348 false _ ?side1 ?side2 A14.out).mono ?_);(case side1=>exact zC (Kd.N_reads' HO350.out).2.2);(case side2=>exact (Kd.N_reads' HO350.out).2.1);rintro e w75 ⟨rfl,hb⟩;have n0_:=Aside0.mk (Kd.N_below (zN HO350.out) hb);have n1_:=Aside0.mk (Kd.N_below (zN HO353.out) hb);have n2_:=Aside0.mk (below_step zhb hb);clear HO350;clear HO353;clear HB;have HO350:=n0_;have HO353:=n1_;have HB:=n2_;clear n0_ n1_ n2_;(try clear hb);(try clear hb2);(try clear hk);(try clear hi))|((with_reducible refine gate_callee (f:=23) rfl ?_);refine goesL_ (some 39) rfl rfl Tryd.func23 (by kernel_rfl) rfl #[.slice Ao72 t348.length co72,.slice Ao73 t351.length co73] rfl zar ?_;(with_reducible refine (impl_ZSame.calls k _ _ t348 _ _ t351 t391 _ ?side1 ?side2 ?side3 ?side4 A69.out).mono ?_);(case side1=>exact zC (Kd.N_reads' HO350.out).2.2);(case side2=>exact (Kd.N_reads' HO350.out).2.1);(case side3=>exact zC (Kd.N_reads' HO353.out).2.2);(case side4=>exact (Kd.N_reads' HO353.out).2.1);rintro e w76 ⟨rfl,hb⟩;refine ⟨_,rfl,?_⟩;have n0_:=Aside0.mk (Kd.N_below (zN HO350.out) hb);have n1_:=Aside0.mk (Kd.N_below (zN HO353.out) hb);have n2_:=Aside0.mk (below_step zhb hb);clear HO350;clear HO353;clear HB;have HO350:=n0_;have HO353:=n1_;have HB:=n2_;clear n0_ n1_ n2_;(try clear hb);(try clear hb2);(try clear hk);(try clear hi))|((with_reducible refine gate_callee (f:=24) rfl ?_);refine goesL_ (some 42) rfl rfl Tryd.func24 (by kernel_rfl) rfl #[.slice Ao72 t348.length co72,.slice Ao73 t351.length co73] rfl zar ?_;(with_reducible refine (spec_ZSame.calls k _ _ t348 _ _ t351 t392 _ ?side1 ?side2 ?side3 ?side4 A70.out).mono ?_);(case side1=>exact zC (Kd.N_reads' HO350.out).2.2);(case side2=>exact (Kd.N_reads' HO350.out).2.1);(case side3=>exact zC (Kd.N_reads' HO353.out).2.2);(case side4=>exact (Kd.N_reads' HO353.out).2.1);rintro e w' ⟨rfl,⟨nd,rfl⟩⟩;refine ⟨_,rfl,?_⟩))
    go_ret
    exact ⟨by first|rfl|(rw [HR_.out];first|done|rfl)|(simp [errW_none,errW_some] <;> rfl)|(exact absurd ((Option.some.inj (A4.out.symm.trans A69.out)).trans HR_.out) (by decide))|(exact absurd ((Option.some.inj (A5.out.symm.trans A70.out)).trans HR_.out) (by decide))|(simp [*,errW_none,errW_some] <;> rfl),zhb⟩

/-- THE ONE PURE STATEMENT of laws_FnZOrder: yours. -/
def laws_FnZOrder.Pure:Prop:=∀ (l0:List Int),l0.length≤maxLen→l0.length * 1≤140737488351232→(∀ x ∈ l0,(Lit.int .u8 x).wf=true)→∃ k,laws_FnZOrder.f k l0=some true
theorem laws_FnZOrder.walk (P : laws_FnZOrder.Pure) (a0 : Option Addr) (len0 cap0 : Nat) (z0 : List Int) (w : World) (w0 : (a0 = none ∧ len0 = 0 ∧ cap0 = 0 ∧ z0 = []) ∨ ∃ x, a0 = some x ∧ len0 ≤ cap0 ∧ cap0 ≤ maxLen ∧ z0.length = cap0 ∧ (∀ i, i < z0.length → w.cell? (x.add i) = some (.int .u8 (z0.getD i 0))) ∧ ∀ n ∈ z0, (Lit.int .u8 n).wf = true) (y0 : len0 * 1 ≤ 140737488351232) (hT : Lib.TabIs Tryd.prog w "internal/strconv.uint64pow10" .u64 Lib.pow10Tab) :
  Calls Tryd.prog 6 #[.slice a0 len0 cap0] w fun e w'=>e=.returned (.bool true)∧Below w.heap.size w w':=by
 obtain ⟨l0,rfl,hr0,hm0,hw0,hc0⟩:=ReadsInt.ofRowC w0
 obtain ⟨k,h⟩:=P l0 hm0 y0 hw0
 refine (laws_FnZOrder.calls k _ _ l0 true w (Kd.C_of_reads (d:=(0:Int)) (h1:=fun _=>rfl) hr0) hc0 h rfl hT).mono ?_
 rintro e w' ⟨rfl,hd⟩
 exact ⟨rfl,hd⟩

end Go.Proofs.YtgcplipimcbhlaaDoor.PFnZOrder
