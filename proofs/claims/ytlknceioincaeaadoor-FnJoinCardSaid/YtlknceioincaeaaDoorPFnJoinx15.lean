-- Written by wip/tools/pp.py, a program of this session over the kit's printer: not the kit's own print
import Derived.Test.YtlknceioincaeaaDoorPFnJoinx0
import Derived.Test.YtlknceioincaeaaDoorPFnJoinx5
import Derived.Test.YtlknceioincaeaaDoorPFnJoinx6
import Derived.Test.YtlknceioincaeaaDoorPFnJoinx14
namespace Go.Proofs.YtlknceioincaeaaDoor.PFnJoin
open Go.RowKit Go.Proofs.YtlknceioincaeaaDoorW.PrintWords Go.Proofs.YtlknceioincaeaaDoorW.PrintLast Go.Proofs.YtlknceioincaeaaDoorW.PrintMore
attribute [local go_sem] max2_int min2_int max_two min_two max_three min_three max_four min_four   -- for this text's walks alone
set_option linter.unusedVariables false
set_option linter.unusedSimpArgs false

/-! ### impl_together: function 46 -/
def impl_together.f (k:Nat) (l0:List (S31)) (l1:List (S31)):Option ((List (S31))):=(impl_merged_impl_Item__impl_cmpItem_impl_together_1.f k l0 l1).bind fun t414=>(some t414)
theorem impl_together.mono : ∀ a0 a1 k,LeO (impl_together.f k a0 a1) (impl_together.f (k + 1) a0 a1):=by
 intro a0 a1 k
 unfold impl_together.f
 repeat' first
   | (with_reducible exact impl_merged_impl_Item__impl_cmpItem_impl_together_1.mono _ _ _)
   | (with_reducible exact LeO.refl _)
   | (with_reducible exact LeO.none _)
   | (with_reducible refine LeO.ite ?_ ?_)
   | (with_reducible refine LeO.bind ?_ (fun _=>?_))
   | exact LeO.none _
   | refine LeO.ite ?_ ?_
   | refine LeO.bind ?_ (fun _=>?_)
set_option maxHeartbeats 8000000 in
set_option maxRecDepth 100000 in
theorem impl_together.calls (k:Nat) (P0_:Nat→Prop) (A0:Option Addr) (c0:Nat) (l0:List (S31)) (P1_:Nat→Prop) (A1:Option Addr) (c1:Nat) (l1:List (S31)) (r:List (S31)) (w:World) (hs0:Kd.V k31 31 w w.heap.size (fun k_=>P0_ k_) (.slice A0 l0.length c0) l0) (hs1:Kd.V k31 31 w w.heap.size (fun k_=>P1_ k_) (.slice A1 l1.length c1) l1) (h:impl_together.f k l0 l1=some r) :
  Calls Tryd.prog 46 #[.slice A0 l0.length c0,.slice A1 l1.length c1] w fun e w'=>∃ v0_:Value,e=.returned (v0_)∧Kd.N k31 31 w' w.heap.size (fun k_=>((P0_ k_∨P1_ k_)∨w.heap.size≤k_)) v0_ r∧Below w.heap.size w w':=by
 have HO0:=Aside0.mk (show Kd.V k31 31 w w.heap.size (fun k_=>((P0_ k_∨P1_ k_)∨w.heap.size≤k_)) (.slice A0 l0.length c0) l0 from Kd.V_mono hs0 (fun k_ hk=>.inl (.inl hk)))
 have HO1:=Aside0.mk (show Kd.V k31 31 w w.heap.size (fun k_=>((P0_ k_∨P1_ k_)∨w.heap.size≤k_)) (.slice A1 l1.length c1) l1 from Kd.V_mono hs1 (fun k_ hk=>.inl (.inr hk)))
 have HB:=Aside0.mk (Below.refl w.heap.size w)
 have H:((impl_merged_impl_Item__impl_cmpItem_impl_together_1.f k l0 l1).bind fun t414=>(some t414))=some r:=h
 clear h
 replace H:=Option.bind_eq_some_iff.mp H
 obtain ⟨t414,A30,H⟩:=H
 (try dsimp only at H)
 have A3:=Aside0.mk A30
 clear A30
 obtain rfl:=Option.some.inj H
 go_enter Tryd.func46,Tryd.ntmps46
 go_wp2_with (first|(go_at_call 67;(with_reducible refine (impl_merged_impl_Item__impl_cmpItem_impl_together_1.calls k (fun k_=>((P0_ k_∨P1_ k_)∨w.heap.size≤k_)) _ _ l0 (fun k_=>((P0_ k_∨P1_ k_)∨w.heap.size≤k_)) _ _ l1   t414 _ ?side1 ?side2 A3.out).mono ?_);(case side1=>exact HO0.out);(case side2=>exact HO1.out);rintro e w4 ⟨v415,rfl,ho0,hb⟩;have n0_:=Aside0.mk (Kd.V_elder' (zV HO0.out) (Kd.N_base ho0) hb);have n1_:=Aside0.mk (Kd.V_elder' (zV HO1.out) (Kd.N_base ho0) hb);have n2_:=Aside0.mk (Kd.N_lower (Kd.N_mono (ok':=fun k_=>((P0_ k_∨P1_ k_)∨w.heap.size≤k_)) ho0 (fun k_ hk_=>Or.elim hk_ (fun hs_=>Or.elim hs_ (fun hs_=>hs_) (fun hs_=>hs_)) (fun hn_=>(.inr (Nat.le_trans (below_size zhb) hn_))))) (below_size zhb));have n3_:=Aside0.mk (below_step zhb hb);clear HO0;clear HO1;clear HB;have HO0:=n0_;have HO1:=n1_;have HO416:=n2_;have HB:=n3_;clear n0_ n1_ n2_ n3_;(try clear hb);(try clear hb2);(try clear hk);(try clear hi);(try clear ho0)))
 go_ret
 exact ⟨_,by first|rfl|(simp [errW_none,errW_some] <;> rfl)|(simp [*,errW_none,errW_some] <;> rfl),by (with_reducible repeat (first|apply Kd.N_alloc|apply Kd.N_drewN|apply Kd.N_drew));exact HO416.out,zhb⟩

/-! ### impl_ZAdd: function 19 (by hand) -/
def impl_ZAdd.f (k:Nat) (l0:List (S31)) (l1:List (S31)):Option (List (S31) × Bool):=(impl_ZOk.f k l0).bind fun t1=>(if t1=true then ((impl_ZOk.f k l1).bind fun t2=>(if t2=true then ((impl_together.f k l0 l1).bind fun t3=>(impl_told.f k t3)) else (some ([],false)))) else (some ([],false)))
theorem impl_ZAdd.mono : ∀ a0 a1 k,LeO (impl_ZAdd.f k a0 a1) (impl_ZAdd.f (k + 1) a0 a1):=by
 intro a0 a1 k
 unfold impl_ZAdd.f
 repeat' first
   | (with_reducible exact impl_ZOk.mono _ _)
   | (with_reducible exact impl_together.mono _ _ _)
   | (with_reducible exact impl_told.mono _ _)
   | (with_reducible exact LeO.refl _)
   | (with_reducible refine LeO.ite ?_ ?_)
   | (with_reducible refine LeO.bind ?_ (fun _=>?_))
set_option maxHeartbeats 8000000 in
set_option maxRecDepth 100000 in
theorem impl_ZAdd.calls (k:Nat) (A0:Option Addr) (c0:Nat) (l0:List (S31)) (A1:Option Addr) (c1:Nat) (l1:List (S31)) (r1:List (S31)) (r2:Bool) (w:World) (hr0:Kd.C k31 w A0 l0.length l0) (hc0:l0.length≤c0) (hr1:Kd.C k31 w A1 l1.length l1) (hc1:l1.length≤c1) (h:impl_ZAdd.f k l0 l1=some (r1,r2)) :
  Calls Tryd.prog 19 #[.slice A0 l0.length c0,.slice A1 l1.length c1] w fun e w'=>∃ v0_:Value,e=.returned (.tuple #[v0_,.bool r2])∧Kd.S k31 31 w' w.heap.size (fun _=>True) v0_ r1∧Below w.heap.size w w':=by
 unfold impl_ZAdd.f at h
 obtain ⟨t1,h1,h⟩:=Option.bind_eq_some_iff.mp h
 have A1:=Aside0.mk h1
 have HR0:=Aside0.mk hr0
 have HC0:=Aside0.mk hc0
 have HR1:=Aside0.mk hr1
 have HC1:=Aside0.mk hc1
 clear hr0 hc0 hr1 hc1 h1
 cases t1 with
 | false =>
  rw [if_neg (by decide)] at h
  injection h with h
  injection h with e1 e2
  subst e1 e2
  go_enter Tryd.func19,Tryd.ntmps19
  go_wp2_with fail
  refine (impl_ZOk.calls k _ _ l0 false _ HR0.out HC0.out A1.out).mono ?_
  rintro e w1 ⟨rfl,hb⟩
  have HB1:=Aside0.mk hb
  clear hb
  go_wp2
  go_ret2
  exact ⟨_,rfl,Kd.S_nil _ _ _ _ _,HB1.out⟩
 | true =>
 rw [if_pos rfl] at h
 obtain ⟨t2,h2,h⟩:=Option.bind_eq_some_iff.mp h
 have A2:=Aside0.mk h2
 clear h2
 cases t2 with
 | false =>
  rw [if_neg (by decide)] at h
  injection h with h
  injection h with e1 e2
  subst e1 e2
  go_enter Tryd.func19,Tryd.ntmps19
  go_wp2_with fail
  refine (impl_ZOk.calls k _ _ l0 true _ HR0.out HC0.out A1.out).mono ?_
  rintro e w1 ⟨rfl,hb⟩
  have HB1:=Aside0.mk hb
  clear hb
  go_wp2_with fail
  refine (impl_ZOk.calls k _ _ l1 false _ (Kd.C_below HR1.out HB1.out) HC1.out A2.out).mono ?_
  rintro e w2 ⟨rfl,hb⟩
  have HB2:=Aside0.mk (below_step HB1.out hb)
  clear hb
  go_wp2
  go_ret2
  exact ⟨_,rfl,Kd.S_nil _ _ _ _ _,HB2.out⟩
 | true =>
 rw [if_pos rfl] at h
 obtain ⟨t3,h3,h⟩:=Option.bind_eq_some_iff.mp h
 have A3:=Aside0.mk h3
 have A4:=Aside0.mk h
 clear h3 h
 go_enter Tryd.func19,Tryd.ntmps19
 go_wp2_with fail
 refine (impl_ZOk.calls k _ _ l0 true _ HR0.out HC0.out A1.out).mono ?_
 rintro e w1 ⟨rfl,hb⟩
 have HB1:=Aside0.mk hb
 clear hb
 go_wp2_with fail
 refine (impl_ZOk.calls k _ _ l1 true _ (Kd.C_below HR1.out HB1.out) HC1.out A2.out).mono ?_
 rintro e w2 ⟨rfl,hb⟩
 have HB2:=Aside0.mk (below_step HB1.out hb)
 clear hb
 go_wp2_with fail
 refine (impl_together.calls k (fun k_=>k_ < w2.heap.size) _ _ l0 (fun k_=>k_ < w2.heap.size) _ _ l1 t3 _ (Kd.V_mk HC0.out (Kd.C_F k31_heap (Kd.C_below HR0.out HB2.out))) (Kd.V_mk HC1.out (Kd.C_F k31_heap (Kd.C_below HR1.out HB2.out))) A3.out).mono ?_
 rintro e w3 ⟨v3,rfl,ho,hb⟩
 obtain ⟨a3,c3,rfl⟩:=Kd.N_slice ho
 have HB3:=Aside0.mk (below_step HB2.out hb)
 have HO3:=Aside0.mk ho
 clear ho hb
 go_wp2_with fail
 refine (impl_told.calls k _ _ t3 r1 r2 _ (Kd.N_reads' HO3.out).2.2 (Kd.N_reads' HO3.out).2.1 A4.out).mono ?_
 rintro e w4 ⟨v4,rfl,ho,hb⟩
 have HB4:=Aside0.mk (below_step HB3.out hb)
 have HO4:=Aside0.mk (Kd.S_lower ho HB3.out.size)
 clear ho hb
 go_wp2
 go_ret2
 exact ⟨_,rfl,HO4.out,HB4.out⟩

end Go.Proofs.YtlknceioincaeaaDoor.PFnJoin
