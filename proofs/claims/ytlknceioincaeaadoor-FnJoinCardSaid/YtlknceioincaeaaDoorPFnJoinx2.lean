-- Written by wip/tools/pp.py, a program of this session over the kit's printer: not the kit's own print
import Derived.Test.YtlknceioincaeaaDoorPFnJoinx0
import Derived.Test.YtlknceioincaeaaDoorPFnJoinx1
namespace Go.Proofs.YtlknceioincaeaaDoor.PFnJoin
open Go.RowKit Go.Proofs.YtlknceioincaeaaDoorW.PrintWords Go.Proofs.YtlknceioincaeaaDoorW.PrintLast Go.Proofs.YtlknceioincaeaaDoorW.PrintMore
attribute [local go_sem] max2_int min2_int max_two min_two max_three min_three max_four min_four   -- for this text's walks alone
set_option linter.unusedVariables false
set_option linter.unusedSimpArgs false

/-! ### spec_l2Put: function 58 (by hand) -/
def spec_l2Put.l0:Nat→List (S31)→List Int→Int→Int→Option ((List (S31)))
 | 0,_,_,_,_=>none
 | k + 1,x0,x1,x2,x7=>if x7 < (x0.length:Int) then (if 0≤x7 then ((spec_RowLess.f k ((rd_T31 x0 x7).f0) x1).bind fun t208=>(if t208=true then (spec_l2Put.l0 k x0 x1 x2 (wrap64 (x7 + 1))) else ((spec_RowSame.f k ((rd_T31 x0 x7).f0) x1).bind fun t210=>(if t210=true then ((some (x0.set (x7:Int).toNat (⟨(rd_T31 x0 x7).f0,wrap64 (((rd_T31 x0 x7).f1) + x2)⟩:S31):List (S31))).bind fun y212=>(if ((rd_T31 y212 x7).f1)=0 then (if x7≤(x0.length:Int) then (if 0≤(wrap64 (x7 + 1)) then (if (wrap64 (x7 + 1))≤(x0.length:Int) then (some (y212.eraseIdx (x7:Int).toNat)) else (none)) else (none)) else (none)) else (some y212))) else (if x2=0 then (some x0) else (if x7≤(x0.length:Int) then ((some (x0.take (x7:Int).toNat:List (S31))).bind fun y227=>((spec_l1Copy.f x1).bind fun t230=>(if y227.length < 4398046511104 then (if x0.length < 4398046511104 then (some ((y227 ++ [(⟨t230,x2⟩:S31)]) ++ (x0.drop (x7:Int).toNat))) else (none)) else (none)))) else (none))))))) else (none)) else (if x2=0 then (some x0) else (if 0≤x7 then (if x7≤(x0.length:Int) then ((some (x0.take (x7:Int).toNat:List (S31))).bind fun y236=>((spec_l1Copy.f x1).bind fun t239=>(if y236.length < 4398046511104 then (if x0.length < 4398046511104 then (some ((y236 ++ [(⟨t239,x2⟩:S31)]) ++ (x0.drop (x7:Int).toNat))) else (none)) else (none)))) else (none)) else (none)))
def spec_l2Put.f (k:Nat) (l0:List (S31)) (l1:List Int) (a2:Int):Option ((List (S31))):=spec_l2Put.l0 k l0 l1 a2 0
theorem spec_l2Put.mono_l : ∀ k,(∀ y0 y1 y2 y3,LeO (spec_l2Put.l0 k y0 y1 y2 y3) (spec_l2Put.l0 (k + 1) y0 y1 y2 y3))
 | 0=>fun _ _ _ _ r h=>by simp [spec_l2Put.l0] at h
 | k + 1=>by
  have ih0:=spec_l2Put.mono_l k
  ·intro y0 y1 y2 y3
   unfold spec_l2Put.l0
   repeat' first
   | (with_reducible exact ih0 _ _ _ _)
   | (with_reducible exact spec_RowLess.mono _ _ _)
   | (with_reducible exact spec_RowSame.mono _ _ _)
   | (with_reducible exact LeO.refl _)
   | (with_reducible exact LeO.none _)
   | (with_reducible refine LeO.ite ?_ ?_)
   | (with_reducible refine LeO.bind ?_ (fun _=>?_))
   | exact LeO.none _
   | refine LeO.ite ?_ ?_
   | refine LeO.bind ?_ (fun _=>?_)
theorem spec_l2Put.mono : ∀ a0 a1 a2 k,LeO (spec_l2Put.f k a0 a1 a2) (spec_l2Put.f (k + 1) a0 a1 a2):=by
 intro a0 a1 a2 k
 have ih0:=spec_l2Put.mono_l k
 unfold spec_l2Put.f
 repeat' first
   | (with_reducible exact ih0 _ _ _ _)
   | (with_reducible exact spec_RowLess.mono _ _ _)
   | (with_reducible exact spec_RowSame.mono _ _ _)
   | (with_reducible exact LeO.refl _)
   | (with_reducible exact LeO.none _)
   | (with_reducible refine LeO.ite ?_ ?_)
   | (with_reducible refine LeO.bind ?_ (fun _=>?_))
   | exact LeO.none _
   | refine LeO.ite ?_ ?_
   | refine LeO.bind ?_ (fun _=>?_)
def spec_l2Put.T7:Bool × List (List Nat × List Nat):=(true,[([],[]),([],[]),([0,1],[0,1]),([],[]),([],[]),([4],[4]),([3,5],[3,5]),([2,6],[2,6]),([7,7,0,1,2,3,4,5,6,7],[7])])
def spec_l2Put.B7:List Nat:=[0,0,3,0,0,16,56,127,255]
theorem spec_l2Put.tab7:rtab .any (opsOf Tryd.f58 7)=spec_l2Put.T7:=by kernel_rfl
theorem spec_l2Put.bits7:waitsOk spec_l2Put.T7.2 spec_l2Put.B7=true:=by kernel_rfl
set_option maxHeartbeats 8000000 in
set_option maxRecDepth 100000 in
theorem spec_l2Put.calls (k:Nat) (b:Nat) (P0_:Nat→Prop) (v205:Value) (l0:List (S31)) (A1:Option Addr) (c1:Nat) (l1:List Int) (a2:Int) (r:List (S31)) (w0 w:World) (hb0:b≤w.heap.size) (hBw:Below b w0 w) (ho0:Kd.N k31 31 w b P0_ v205 l0) (hf0 : ∀ k_,w.heap.size≤k_→P0_ k_) (hr1:Kd.C (Kd.int .i64) w A1 l1.length l1) (hc1:l1.length≤c1) (h:spec_l2Put.f k l0 l1 a2=some r) :
  Calls Tryd.prog 58 #[v205,.slice A1 l1.length c1,.int .i64 a2] w fun e w'=>∃ v0_:Value,e=.returned (v0_)∧Kd.N k31 31 w' b P0_ v0_ r∧Below b w0 w'∧w.grownBy w' v205.ownBlock∧(v0_.ownBlock=v205.ownBlock∨∃ b_,v0_.ownBlock=some b_∧w.heap.size≤b_):=by
 have hu31:=Tryd.underlying31
 have HO206:=Aside0.mk (show Kd.N k31 31 w b (fun k_=>(P0_ k_∨w.heap.size≤k_)) v205 l0 from Kd.N_mono ho0 (fun _ h_=>.inl h_))
 have HR1:=Aside0.mk hr1
 have HC1:=Aside0.mk hc1
 have HF0:=Aside0.mk hf0
 have HBW:=Aside0.mk hBw
 have HB0:=Aside0.mk hb0
 clear hr1 hc1 ho0 hf0 hBw hb0
 have HB:=Aside0.mk (Below.refl w.heap.size w)
 have H':=Aside0.mk (show spec_l2Put.l0 k l0 l1 a2 0=some r from h)
 clear h
 go_enter Tryd.func58,Tryd.ntmps58
 go_wp2
 skip
 go_loopg [7] k (fun kq v7 w'=>∃ (x7_1:Int),v7=.int .i64 x7_1∧Aside0 (spec_l2Put.l0 kq l0 l1 a2 x7_1=some r)∧Aside0 (kq≤k)∧Aside0 (Kd.N k31 31 w' b (fun k_=>(P0_ k_∨w.heap.size≤k_)) v205 l0)∧Aside0 (Below w.heap.size w w'))
 case atStart=>exact ⟨(0),(by first|rfl|(simp;done)|(simp [*];done)),H',⟨Nat.le_refl _⟩,⟨by (with_reducible repeat (first|apply Kd.N_alloc|apply Kd.N_drewN|apply Kd.N_drew));exact HO206.out⟩,⟨zhb⟩⟩
 case round =>
  clear H'
  try clear c1
  try clear p2
  try clear c4
  obtain ⟨x7_1,rfl,HA,HK1,HO_0,HB⟩:=hrel
  cases gk with
  | zero=>exact absurd HA.out (by simp [spec_l2Put.l0])
  | succ k1 =>
   have H:=HA.out
   clear HA
   simp only [spec_l2Put.l0] at H
   by_cases c8:x7_1 < (l0.length:Int)
   rotate_left
   ·rw [if_neg c8] at H
    have c8b0:decide (x7_1 < (l0.length:Int))=false:=decide_eq_false c8
    clear c8
    by_cases c44:a2=0
    ·rw [if_pos c44] at H
     have c44b0:(a2 == 0)=true:=beq_iff_eq.mpr c44
     have c44b1:(a2 != 0)=false:=bne_eq_false_iff_eq.mpr c44
     clear c44
     obtain rfl:=Option.some.inj H
     obtain ⟨Ao45,co45,eo45⟩:=Kd.N_slice HO_0.out
     subst eo45
     go_wp2
     go_ret
     exact ⟨_,by first|rfl|(simp [errW_none,errW_some] <;> rfl),Kd.N_mono (zN HO_0.out) (fun k_ (hk:P0_ k_∨w.heap.size≤k_)=>hk.elim id (HF0.out k_)),put_same _ HBW.out HB0.out zhb⟩
    rw [if_neg c44] at H
    have c44b0:(a2 == 0)=false:=beq_eq_false_iff_ne.mpr c44
    have c44b1:(a2 != 0)=true:=bne_iff_ne.mpr c44
    by_cases c46:0≤x7_1
    rotate_left
    ·rw [if_neg c46] at H
     exact absurd H (by simp)

    rw [if_pos c46] at H
    have c46b0:=eq_true c46
    have c46b1:decide (0≤x7_1)=true:=decide_eq_true c46
    clear c46
    by_cases c47:x7_1≤(l0.length:Int)
    rotate_left
    ·rw [if_neg c47] at H
     exact absurd H (by simp)
    rw [if_pos c47] at H
    have c47b0:=eq_true c47
    have c47b1:decide (x7_1≤(l0.length:Int))=true:=decide_eq_true c47
    clear c47
    obtain ⟨y236,hy236⟩ : ∃ y_:List (S31),y_=(l0.take (x7_1:Int).toNat):=⟨_,rfl⟩
    replace H:((spec_l1Copy.f l1).bind fun t239=>(if y236.length < 4398046511104 then (if l0.length < 4398046511104 then (some ((y236 ++ [(⟨t239,a2⟩:S31)]) ++ (l0.drop (x7_1:Int).toNat))) else (none)) else (none)))=some r:=by first|(rw [hy236];with_reducible exact H)|(have H2_:=(Option.bind_some _ _).symm.trans H;rw [hy236];with_reducible exact H2_)|(have H2_:=(Option.bind_some _ _).symm.trans H;with_reducible exact H2_)|with_reducible exact H|(rw [hy236];exact H)|exact H
    have Ny236:=Aside0.mk hy236
    clear hy236
    replace H:=Option.bind_eq_some_iff.mp H
    obtain ⟨t239,A480,H⟩:=H
    (try dsimp only at H)
    have A48:=Aside0.mk A480
    clear A480
    by_cases c49:y236.length < 4398046511104
    rotate_left
    ·rw [if_neg c49] at H
     exact absurd H (by simp)
    rw [if_pos c49] at H
    have LMc49:=Aside0.mk c49
    clear c49
    by_cases cz:l0.length < 4398046511104
    rotate_left
    ·rw [if_neg cz] at H
     exact absurd H (by simp)
    rw [if_pos cz] at H
    have LMz:=Aside0.mk cz
    clear cz
    obtain ⟨y242,hy242⟩ : ∃ y_:List (S31),y_=(y236 ++ [(⟨t239,a2⟩:S31)]):=⟨_,rfl⟩
    replace H:(some (y242 ++ l0.drop (x7_1:Int).toNat))=some r:=by first|(rw [hy242];with_reducible exact H)|(have H2_:=(Option.bind_some _ _).symm.trans H;rw [hy242];with_reducible exact H2_)|(have H2_:=(Option.bind_some _ _).symm.trans H;with_reducible exact H2_)|with_reducible exact H|(rw [hy242];exact H)|exact H
    have Ny242:=Aside0.mk hy242
    clear hy242
    obtain rfl:=Option.some.inj H
    obtain ⟨Ao50,co50,eo50⟩:=Kd.N_slice HO_0.out
    subst eo50
    go_wp2_with (first|((with_reducible refine gate_dst (N:=66) rfl ?_);refine Kd.N_lit k31 _ 31 ?hg (N':=66) ?hd (xs:=([]:List (S31))) (inner:=[]) (ok:=(fun k_=>(P0_ k_∨w.heap.size≤k_)∧some k_≠(.slice Ao50 l0.length co50:Value).ownBlock)) (okp:=(fun k_=>(P0_ k_∨w.heap.size≤k_)∧some k_≠(.slice Ao50 l0.length co50:Value).ownBlock)) ?hr ?hp (fun _ hk=>hk) ((show ∀ k_,wr.heap.size≤k_→(fun k_=>(P0_ k_∨w.heap.size≤k_)∧some k_≠(.slice Ao50 l0.length co50:Value).ownBlock) k_ from (fun k_ hk=>⟨.inr (Nat.le_trans (below_sizeB zhb) hk),Kd.fresh' (Kd.N_lt (zN HO_0.out)) k_ hk⟩)) _ (Nat.le_refl _)) (Below.refl _ _) (Nat.le_refl _) (by simp) ?_;(case hd=>rfl);(case hg=>rfl);(case hr=>first|(go_simp;done)|(go_simp;rfl));(case hp=>exact (Reps.none _ _));intro vT0 wT0 hoT0 hb hg_ hnew_;clear hg_ hnew_;have n0_:=Aside0.mk (Kd.N_elder' (zN HO_0.out) (Kd.N_base hoT0) hb);have HT0:=Aside0.mk (Kd.N_lower hoT0 (below_size zhb));have n2_:=Aside0.mk (below_step zhb hb);clear HO_0;clear HB;have HO_0:=n0_;have HB:=n2_;clear n0_ n2_;clear hb hoT0;have q51:(x7_1:Int)≤((l0.length:Int):Int):=zod;obtain ⟨i051,hi051,_,hsz51,_⟩:=info_parts info31;have hroom51:l0.length≤co50:=(Kd.N_reads' HO_0.out).2.1;have q051:(0:Int)≤(x7_1:Int):=zod;have hcut51:=cut_from (P:=Tryd.prog) 23 31 .i64 Tryd.underlying23 hi051 2 hsz51 Ao50 l0.length co50 x7_1 q051 q51;have hr51:=Kd.rows_drop (m:=(x7_1:Int).toNat) (c:=co50) (Kd.N_rowsK HO_0.out) (by omega) hroom51;obtain ⟨A51,hA51⟩ : ∃ A1,A1=(if co50=(x7_1:Int).toNat then Ao50 else (Ao50:Option Addr).map (·.add ((x7_1:Int).toNat * 2))):=⟨_,rfl⟩;obtain ⟨c51,hc51⟩ : ∃ c1,c1=co50 - (x7_1:Int).toNat:=⟨_,rfl⟩;obtain ⟨yT,hyT⟩ : ∃ y_:List (S31),y_=l0.drop (x7_1:Int).toNat:=⟨_,rfl⟩;have hy51:yT.length=l0.length - (x7_1:Int).toNat:=(by rw [hyT,List.length_drop]);rw [← hyT] at hr51;replace hr51:ReadsRow (fun x cs=>Kd.FK k31 wT0 (fun k_=>((P0_ k_∨w.heap.size≤k_)∧some k_≠(vT0:Value).ownBlock)∧some k_≠(.slice Ao50 l0.length co50:Value).ownBlock) x cs) k31.sz wT0 A51 yT.length yT:=(by rw [hA51];exact hr51);rw [← hy51,← hA51,← hc51] at hcut51;have HRK:=Aside0.mk hr51;have NyT:=Aside0.mk hyT;clear hr51 hroom51 hi051 hsz51 hc51 hyT;have KY51:=Aside0.mk hy51;clear hy51 hA51 q051;replace q51:=eq_true q51)|((with_reducible refine gate_builtin (b:=.append) (xs:=#[.tmp 66,.tmp 69]) rfl ?_);at_builtin;refine Kd.N_append_rowsK k31 (w0:=w) w.heap.size rfl (.tmp 66) (.tmp 69) 23 31 (.agg #[(.slice none 0 0),(.int .i64 0)]) 32 rfl Tryd.underlying23 info31 rfl (by decide) (by omega) vT0 [] yT _ _ _ (fun k_=>(P0_ k_∨w.heap.size≤k_)∧some k_≠(.slice Ao50 l0.length co50:Value).ownBlock) (fun k_=>((P0_ k_∨w.heap.size≤k_)∧some k_≠(vT0:Value).ownBlock)∧some k_≠(.slice Ao50 l0.length co50:Value).ownBlock) rfl rfl ?aO ?aR (fun _ hk=>⟨⟨hk.1.1,hk.2⟩,hk.1.2⟩) ?aF ?aB ?aS ?aL ?_;(case aR=>exact HRK.out);(case aB=>exact HB.out);(case aF=>exact (fun k_ hk=>⟨.inr (Nat.le_trans (below_sizeB (HB.out)) hk),Kd.fresh' (Kd.N_lt (HO_0.out)) k_ hk⟩));(case aO=>exact HT0.out);(case aS=>exact (below_size HB.out));(case aL=>have h1_:=LMz.out;have h2_:=KY51.out;simp only [List.length_nil];omega);intro vT wT ho hb hg hat;rw [List.nil_append] at ho;have n0_:=Aside0.mk (Kd.N_mono (Kd.N_grown HO_0.out hg (fun _ hk=>hk.2)) (fun _ hk=>hk.1));have HT:=Aside0.mk ho;have n2_:=Aside0.mk (hb);clear HO_0;clear HB;have HO_0:=n0_;have HB:=n2_;clear n0_ n2_;clear ho hb hg hat HRK HT0))
    obtain ⟨AT,cT,eT⟩:=Kd.N_slice HT.out
    subst eT
    have n0_:=Aside0.mk (Kd.N_drew HO_0.out)
    have n1_:=Aside0.mk (below_drew1 HB.out)
    have n2_:=Aside0.mk (Kd.N_drew HT.out)
    clear HO_0 HB HT
    have HO_0:=n0_
    have HB:=n1_
    have HT:=n2_
    clear n0_ n1_ n2_
    have q52:(x7_1:Int)≤((l0.length:Int):Int):=of_decide_eq_true (by first|(with_reducible assumption)|assumption|(simp only [*];done))
    obtain ⟨i052,hi052,_,hsz52,_⟩:=info_parts info31
    have hcut52:=cut_to (P:=Tryd.prog) 23 31 .i64 Tryd.underlying23 hi052 Ao50 l0.length co50 x7_1 (zod) q52 (Kd.N_reads' HO_0.out).2.1
    have hr52:=Kd.N_take (m:=(x7_1:Int).toNat) HO_0.out (by omega)
    have hy52:y236.length=(x7_1:Int).toNat:=(by rw [Ny236.out,List.length_take];omega)
    rw [← Ny236.out] at hr52
    rw [← hy52] at hr52 hcut52
    clear hy52 hi052 hsz52 HO_0
    have HTK:=Aside0.mk hr52
    clear hr52
    replace q52:=eq_true q52
    refine start_ (n:=12) (S:=fun w'=>True) (ds:=[]) (zm 12 0) (by kernel_rfl) rfl rfl trivial (fun hHeld=>?_)
    generalize wT.drew=w51 at HB HT HTK hHeld ⊢
    refine zpk 0 71 12 1 ?_
    refine zpk 1 72 12 3 ?_
    refine zpk 2 73 12 7 ?_
    refine zpk 3 74 12 15 ?_
    refine zpk 5 76 12 47 ?_
    refine zpk 9 80 12 559 ?_
    refine one_ (i:=4) (N:=some 75) (zm 12 575) rfl rfl (by kernel_rfl) (by decide) (fun K hK=>?_)
    refine goes_ Tryd.func83 (by kernel_rfl) rfl #[.slice A1 l1.length c1] (by rfl) rfl rfl zar ?_
    with_reducible refine (spec_l1Copy.calls _ _ l1 t239 _ (Kd.C_below HR1.out HB.out) HC1.out A48.out).mono ?_
    rintro e w53 ⟨vC,rfl,ho0,hb⟩
    refine ⟨_,rfl,?_⟩
    have n0_:=Aside0.mk (Kd.N_below HTK.out hb)
    have n1_:=Aside0.mk (Kd.R_lower (Kd.R_newM (M:=fun k_=>(w.heap.size≤k_)) ho0 (below_size HB.out) (fun k_ h_=>h_)) (below_size HB.out))
    have n2_:=Aside0.mk (below_step HB.out hb)
    have n3_:=Aside0.mk (Kd.N_below HT.out hb)
    clear HTK HB HT
    have HTK:=n0_
    have HCP:=n1_
    have HB:=n2_
    have HT:=n3_
    clear n0_ n1_ n2_ n3_ ho0 hb
    obtain ⟨AC,cC,eC⟩:=Kd.R_slice HCP.out
    subst eC
    refine hK.out _ _ trivial (fun hHeld=>?_)
    clear hK K
    refine norm_ (a':=?_) ?_ ?_
    rotate_left
    ·show Act.put _ (some 75) _=_
     simp only [Act.put,zp1,zp2,zp3,i64_w,i32_w]
     rfl
    refine zpk 6 77 12 639 ?_
    refine one_ (i:=7) (N:=some 78) (zm 12 767) rfl rfl (by kernel_rfl) (by decide) (fun K hK=>?_)
    refine value_ (w1:=?_) (v:=?_) (by rfl) rfl ?_ ?_
    rotate_left 2
    ·go_simp
     constructor
     ·rfl
     rfl
    refine hK.out _ _ trivial (fun hHeld=>?_)
    clear hK K
    refine norm_ (a':=?_) ?_ ?_
    rotate_left
    ·show Act.put _ (some 78) _=_
     simp only [Act.put,zp1,zp2,zp3,i64_w,i32_w]
     rfl
    refine one_ (i:=8) (N:=some 79) (zm 12 1023) rfl rfl (by kernel_rfl) (by decide) (fun K hK=>?_)
    refine Kd.N_append_step k31 (w0:=w) b (by rfl) (.tmp 73) (.tmp 78) 23 31 (.agg #[(.slice none 0 0),(.int .i64 0)]) 32 rfl Tryd.underlying23 info31 rfl (by decide) (by omega) (.slice Ao50 y236.length co50) y236 (⟨t239,a2⟩:S31) [.slice AC t239.length cC,.int .i64 a2] (fun k_=>(P0_ k_∨w.heap.size≤k_)) (fun k_=>(P0_ k_∨w.heap.size≤k_)∧some k_≠(.slice Ao50 y236.length co50:Value).ownBlock) rfl rfl ?aP (fun _ hk=>hk) ?aF ?aO ?aB ?aS ?aL ?_
    (case aP=>exact (k31_mkF _ _ (⟨t239,a2⟩:S31) (Kd.R_reads' (Kd.R_mono (ok':=(fun k_=>(P0_ k_∨w.heap.size≤k_)∧some k_≠(.slice Ao50 y236.length co50:Value).ownBlock)) (Kd.R_apart' (HCP.out) (Kd.N_typed HTK.out) (by decide)) (fun k_ hk=>⟨(.inr (hk.1.1)),hk.2⟩))).2.1 (Kd.R_F (Kd.R_mono (ok':=(fun k_=>(P0_ k_∨w.heap.size≤k_)∧some k_≠(.slice Ao50 y236.length co50:Value).ownBlock)) (Kd.R_apart' (HCP.out) (Kd.N_typed HTK.out) (by decide)) (fun k_ hk=>⟨(.inr (hk.1.1)),hk.2⟩)))))
    (case aB=>exact (Below.mono HB.out HB0.out))
    (case aF=>exact (fun k_ hk=>(.inr (Nat.le_trans (below_size HB.out) hk))))
    (case aO=>exact HTK.out)
    (case aS=>exact (Nat.le_trans HB0.out (below_size HB.out)))
    (case aL=>have h1_:=LMc49.out;omega)
    intro v1 w55 ho hb hg hat
    rw [show (.slice Ao50 y236.length co50:Value).ownBlock=(.slice Ao50 l0.length co50:Value).ownBlock from by first|rfl|(cases Ao50 <;> rfl)] at hg hat
    rw [← Ny242.out] at ho
    have HG:=Aside0.mk (World.grownBy.trans (grown_of_below HB.out _) hg)
    have HAT:=Aside0.mk (show v1.ownBlock=(.slice Ao50 l0.length co50:Value).ownBlock∨∃ b_,v1.ownBlock=some b_∧w.heap.size≤b_ from hat.imp id (fun ⟨b_,e_,l_⟩=>⟨b_,e_,Nat.le_trans (below_size HB.out) l_⟩))
    have n1_:=Aside0.mk (ho)
    have n2_:=Aside0.mk (hb)
    have n3_:=Aside0.mk (Kd.N_after (u:=(.slice Ao50 l0.length co50:Value)) (ok:=(fun k_=>(P0_ k_∨w.heap.size≤k_))) HT.out hg hat)
    have HSZ:=Aside0.mk (show w.heap.size≤w55.heap.size from HG.out.size)
    clear HB HTK HCP HT
    have HN1:=n1_
    have HB:=n2_
    have HT:=n3_
    clear n1_ n2_ n3_ ho hb hg hat
    refine hK.out _ _ trivial (fun hHeld=>?_)
    clear hK K
    refine norm_ (a':=?_) ?_ ?_
    rotate_left
    ·show Act.put _ (some 79) _=_
     simp only [Act.put,zp1,zp2,zp3,i64_w,i32_w]
     rfl
    refine one_ (i:=10) (N:=some 81) (zm 12 2047) rfl rfl (by kernel_rfl) (by decide) (fun K hK=>?_)
    refine Kd.N_append_rows_step k31 (w0:=w) b (by rfl) (.tmp 79) (.tmp 80) 23 31 (.agg #[(.slice none 0 0),(.int .i64 0)]) 32 rfl Tryd.underlying23 info31 rfl (by decide) (by omega) v1 y242 yT _ _ _ (fun k_=>(P0_ k_∨w.heap.size≤k_)) (fun k_=>(P0_ k_∨w.heap.size≤k_)∧some k_≠v1.ownBlock) rfl rfl ?aO ?aR (fun _ hk=>hk) ?aF ?aB ?aS ?aL ?_
    (case aR=>exact Kd.N_F HT.out)
    (case aB=>exact HB.out)
    (case aF=>exact (fun k_ hk=>(.inr (Nat.le_trans HSZ.out hk))))
    (case aO=>exact HN1.out)
    (case aS=>exact (Nat.le_trans HB0.out HSZ.out))
    (case aL=>have h1_:=LMz.out;have h2_:=KY51.out;have h3_:=congrArg List.length Ny242.out;have h4_:=congrArg List.length Ny236.out;simp only [List.length_append,List.length_take,List.length_cons,List.length_nil] at h3_ h4_;have h5_:(0:Int)≤x7_1:=zod;omega)
    intro v2 w56 ho hb hg hat
    rw [NyT.out] at ho
    have HEND:=Aside0.mk (put_twice HG.out HAT.out HSZ.out hg hat)
    have n1_:=Aside0.mk (ho)
    have n2_:=Aside0.mk (hb)
    clear HB HN1 HT HG HAT HSZ
    have HN2:=n1_
    have HB:=n2_
    clear n1_ n2_ ho hb hg hat
    refine hK.out _ _ trivial (fun hHeld=>?_)
    clear hK K
    refine norm_ (a':=?_) ?_ ?_
    rotate_left
    ·show Act.put _ (some 81) _=_
     simp only [Act.put,zp1,zp2,zp3,i64_w,i32_w]
     rfl
    refine zpk 11 6 12 4095 ?_
    refine done_ (by kernel_rfl) ?_
    try go_wp2
    go_ret
    exact ⟨_,by first|rfl|(simp [errW_none,errW_some] <;> rfl),Kd.N_mono HN2.out (fun k_ (hk:P0_ k_∨w.heap.size≤k_)=>hk.elim id (HF0.out k_)),HBW.out.trans HB.out,HEND.out⟩
   rw [if_pos c8] at H
   have c8b0:decide (x7_1 < (l0.length:Int))=true:=decide_eq_true c8
   clear c8
   by_cases c9:0≤x7_1
   rotate_left
   ·rw [if_neg c9] at H
    exact absurd H (by simp)
   rw [if_pos c9] at H
   have c9b0:decide (0≤x7_1)=true:=decide_eq_true c9
   clear c9
   replace H:=Option.bind_eq_some_iff.mp H
   obtain ⟨t208,A100,H⟩:=H
   (try dsimp only at H)
   have A10:=Aside0.mk A100
   clear A100
   by_cases c11:t208=true
   ·subst c11
    have H1:(spec_l2Put.l0 k1 l0 l1 a2 (wrap64 (x7_1 + 1)))=some r:=by rw [if_pos rfl] at H;exact H
    clear H
    have H:=H1
    clear H1
    have H':=Aside0.mk H
    clear H
    obtain ⟨Ao12,co12,eo12⟩:=Kd.N_slice HO_0.out
    subst eo12
    have p207:0≤(x7_1:Int):=zod
    have q207:x7_1 < (l0.length:Int):=zod
    obtain ⟨ad207,A207_0,c207_0,e207,hx207_0,hx207_1,hl207_0,hi207_0⟩:=at_T31 (Kd.N_reads' HO_0.out).2.2 x7_1 p207 q207
    cases e207
    obtain ⟨ce207,hce207,hMe207,hcc207⟩:=Kd.N_get HO_0.out z31 x7_1 p207 (by first|exact q207|exact zod|(have e_:=(Kd.N_reads' HO_0.out).1;omega))
    obtain ⟨ua207_0,uc207_0,rfl,ul207_0,ge207_0⟩:=k31_openF hMe207
    have hv207_0:=hcc207 0 _ rfl
    rw [Nat.add_zero] at hv207_0
    replace hv207_0:=Option.some.inj (hv207_0.symm.trans hx207_0)
    injection hv207_0 with hva_ hvn_ hvc_
    rw [hva_] at ge207_0
    rw [hvc_] at ul207_0
    have HL207_0:=Aside0.mk (show Kd.V (Kd.int .i64) 3 _ w.heap.size _ _ ((rd_T31 l0 x7_1).f0) from Kd.V_mk ul207_0 ge207_0)
    clear hva_ hvn_ hvc_ ge207_0 ul207_0
    clear hcc207 hce207
    have HR207_0:=Aside0.mk hi207_0
    have HC207_0:=Aside0.mk hl207_0
    clear hi207_0 hl207_0
    replace p207:=eq_true p207
    replace q207:=eq_true q207
    go_wp2_with (first|(go_at_call 57;(with_reducible refine (spec_RowLess.calls k1 _ _ ((rd_T31 l0 x7_1).f0) _ _ l1 true _ ?side1 ?side2 ?side3 ?side4 A10.out).mono ?_);(case side1=>exact zC (zC HR207_0.out));(case side2=>exact HC207_0.out);(case side3=>exact zC (Kd.C_below HR1.out HB.out));(case side4=>exact HC1.out);rintro e w' ⟨rfl,⟨nd,rfl⟩⟩))
    go_roundg k1
    case measure=>have:=HK1.out;omega
    case rel=>exact ⟨(wrap64 (x7_1 + 1)),(by first|rfl|(simp;done)|(simp [*];done)),H',⟨by have:=HK1.out;omega⟩,⟨by (with_reducible repeat (first|apply Kd.N_alloc|apply Kd.N_drewN|apply Kd.N_drew));exact HO_0.out⟩,⟨zhb⟩⟩
   replace c11:=Bool.eq_false_iff.mpr c11
   subst c11
   have H1:((spec_RowSame.f k1 ((rd_T31 l0 x7_1).f0) l1).bind fun t210=>(if t210=true then ((some (l0.set (x7_1:Int).toNat (⟨(rd_T31 l0 x7_1).f0,wrap64 (((rd_T31 l0 x7_1).f1) + a2)⟩:S31):List (S31))).bind fun y212=>(if ((rd_T31 y212 x7_1).f1)=0 then (if x7_1≤(l0.length:Int) then (if 0≤(wrap64 (x7_1 + 1)) then (if (wrap64 (x7_1 + 1))≤(l0.length:Int) then (some (y212.eraseIdx (x7_1:Int).toNat)) else (none)) else (none)) else (none)) else (some y212))) else (if a2=0 then (some l0) else (if x7_1≤(l0.length:Int) then ((some (l0.take (x7_1:Int).toNat:List (S31))).bind fun y227=>((spec_l1Copy.f l1).bind fun t230=>(if y227.length < 4398046511104 then (if l0.length < 4398046511104 then (some ((y227 ++ [(⟨t230,a2⟩:S31)]) ++ (l0.drop (x7_1:Int).toNat))) else (none)) else (none)))) else (none)))))=some r:=by rw [if_neg (show ¬ (false=true) by decide)] at H;exact H
   clear H
   have H:=H1
   clear H1
   replace H:=Option.bind_eq_some_iff.mp H
   obtain ⟨t210,A130,H⟩:=H
   (try dsimp only at H)
   have A13:=Aside0.mk A130
   clear A130
   by_cases c14:t210=true
   rotate_left
   ·replace c14:=Bool.eq_false_iff.mpr c14
    subst c14
    have H1:(if a2=0 then (some l0) else (if x7_1≤(l0.length:Int) then ((some (l0.take (x7_1:Int).toNat:List (S31))).bind fun y227=>((spec_l1Copy.f l1).bind fun t230=>(if y227.length < 4398046511104 then (if l0.length < 4398046511104 then (some ((y227 ++ [(⟨t230,a2⟩:S31)]) ++ (l0.drop (x7_1:Int).toNat))) else (none)) else (none)))) else (none)))=some r:=by rw [if_neg (show ¬ (false=true) by decide)] at H;exact H
    clear H
    have H:=H1
    clear H1
    by_cases c33:a2=0
    ·rw [if_pos c33] at H
     have c33b0:(a2 == 0)=true:=beq_iff_eq.mpr c33
     have c33b1:(a2 != 0)=false:=bne_eq_false_iff_eq.mpr c33
     clear c33
     obtain rfl:=Option.some.inj H
     obtain ⟨Ao34,co34,eo34⟩:=Kd.N_slice HO_0.out
     subst eo34
     have p207:0≤(x7_1:Int):=zod
     have q207:x7_1 < (l0.length:Int):=zod
     obtain ⟨ad207,A207_0,c207_0,e207,hx207_0,hx207_1,hl207_0,hi207_0⟩:=at_T31 (Kd.N_reads' HO_0.out).2.2 x7_1 p207 q207
     cases e207
     obtain ⟨ce207,hce207,hMe207,hcc207⟩:=Kd.N_get HO_0.out z31 x7_1 p207 (by first|exact q207|exact zod|(have e_:=(Kd.N_reads' HO_0.out).1;omega))
     obtain ⟨ua207_0,uc207_0,rfl,ul207_0,ge207_0⟩:=k31_openF hMe207
     have hv207_0:=hcc207 0 _ rfl
     rw [Nat.add_zero] at hv207_0
     replace hv207_0:=Option.some.inj (hv207_0.symm.trans hx207_0)
     injection hv207_0 with hva_ hvn_ hvc_
     rw [hva_] at ge207_0
     rw [hvc_] at ul207_0
     have HL207_0:=Aside0.mk (show Kd.V (Kd.int .i64) 3 _ w.heap.size _ _ ((rd_T31 l0 x7_1).f0) from Kd.V_mk ul207_0 ge207_0)
     clear hva_ hvn_ hvc_ ge207_0 ul207_0
     clear hcc207 hce207
     have HR207_0:=Aside0.mk hi207_0
     have HC207_0:=Aside0.mk hl207_0
     clear hi207_0 hl207_0
     replace p207:=eq_true p207
     replace q207:=eq_true q207
     go_wp2_with (first|(go_at_call 57;(with_reducible refine (spec_RowLess.calls k1 _ _ ((rd_T31 l0 x7_1).f0) _ _ l1 false _ ?side1 ?side2 ?side3 ?side4 A10.out).mono ?_);(case side1=>exact zC (zC HR207_0.out));(case side2=>exact HC207_0.out);(case side3=>exact zC (Kd.C_below HR1.out HB.out));(case side4=>exact HC1.out);rintro e w' ⟨rfl,⟨nd,rfl⟩⟩;have p209:0≤(x7_1:Int):=zod;have q209:x7_1 < (l0.length:Int):=zod;obtain ⟨ad209,A209_0,c209_0,e209,hx209_0,hx209_1,hl209_0,hi209_0⟩:=at_T31 (Kd.N_reads' HO_0.out).2.2 x7_1 p209 q209;obtain rfl:ad207=ad209:=(by injection e209);obtain ⟨ce209,hce209,hMe209,hcc209⟩:=Kd.N_get HO_0.out z31 x7_1 p209 (by first|exact q209|exact zod|(have e_:=(Kd.N_reads' HO_0.out).1;omega));obtain ⟨ua209_0,uc209_0,rfl,ul209_0,ge209_0⟩:=k31_openF hMe209;have hv209_0:=hcc209 0 _ rfl;rw [Nat.add_zero] at hv209_0;replace hv209_0:=Option.some.inj (hv209_0.symm.trans hx209_0);injection hv209_0 with hva_ hvn_ hvc_;rw [hva_] at ge209_0;rw [hvc_] at ul209_0;have HL209_0:=Aside0.mk (show Kd.V (Kd.int .i64) 3 _ w.heap.size _ _ ((rd_T31 l0 x7_1).f0) from Kd.V_mk ul209_0 ge209_0);clear hva_ hvn_ hvc_ ge209_0 ul209_0;clear hcc209 hce209;have HR209_0:=Aside0.mk hi209_0;have HC209_0:=Aside0.mk hl209_0;clear hi209_0 hl209_0;replace p209:=eq_true p209;replace q209:=eq_true q209;have ea_:=Option.some.inj (hx207_0.symm.trans hx209_0);injection ea_ with ea_ en_ ec_;subst ea_;subst ec_;clear en_)|(go_at_call 82;(with_reducible refine (spec_RowSame.calls k1 _ _ ((rd_T31 l0 x7_1).f0) _ _ l1 false _ ?side1 ?side2 ?side3 ?side4 A13.out).mono ?_);(case side1=>exact zC (zC HR209_0.out));(case side2=>exact HC209_0.out);(case side3=>exact zC (Kd.C_below HR1.out zhb));(case side4=>exact HC1.out);rintro e w' ⟨rfl,⟨nd,rfl⟩⟩))
     go_ret
     exact ⟨_,by first|rfl|(simp [errW_none,errW_some] <;> rfl),Kd.N_mono (zN HO_0.out) (fun k_ (hk:P0_ k_∨w.heap.size≤k_)=>hk.elim id (HF0.out k_)),put_same _ HBW.out HB0.out zhb⟩
    rw [if_neg c33] at H
    have c33b0:(a2 == 0)=false:=beq_eq_false_iff_ne.mpr c33
    have c33b1:(a2 != 0)=true:=bne_iff_ne.mpr c33
    by_cases c35:x7_1≤(l0.length:Int)
    rotate_left
    ·rw [if_neg c35] at H
     exact absurd H (by simp)
    rw [if_pos c35] at H
    have c35b0:=eq_true c35
    have c35b1:decide (x7_1≤(l0.length:Int))=true:=decide_eq_true c35
    clear c35
    obtain ⟨y227,hy227⟩ : ∃ y_:List (S31),y_=(l0.take (x7_1:Int).toNat):=⟨_,rfl⟩
    replace H:((spec_l1Copy.f l1).bind fun t230=>(if y227.length < 4398046511104 then (if l0.length < 4398046511104 then (some ((y227 ++ [(⟨t230,a2⟩:S31)]) ++ (l0.drop (x7_1:Int).toNat))) else (none)) else (none)))=some r:=by first|(rw [hy227];with_reducible exact H)|(have H2_:=(Option.bind_some _ _).symm.trans H;rw [hy227];with_reducible exact H2_)|(have H2_:=(Option.bind_some _ _).symm.trans H;with_reducible exact H2_)|with_reducible exact H|(rw [hy227];exact H)|exact H
    have Ny227:=Aside0.mk hy227
    clear hy227
    replace H:=Option.bind_eq_some_iff.mp H
    obtain ⟨t230,A360,H⟩:=H
    (try dsimp only at H)
    have A36:=Aside0.mk A360
    clear A360
    by_cases c37:y227.length < 4398046511104
    rotate_left
    ·rw [if_neg c37] at H
     exact absurd H (by simp)
    rw [if_pos c37] at H
    have LMc37:=Aside0.mk c37
    clear c37
    by_cases cz:l0.length < 4398046511104
    rotate_left
    ·rw [if_neg cz] at H
     exact absurd H (by simp)
    rw [if_pos cz] at H
    have LMz:=Aside0.mk cz
    clear cz
    obtain ⟨y233,hy233⟩ : ∃ y_:List (S31),y_=(y227 ++ [(⟨t230,a2⟩:S31)]):=⟨_,rfl⟩
    replace H:(some (y233 ++ l0.drop (x7_1:Int).toNat))=some r:=by first|(rw [hy233];with_reducible exact H)|(have H2_:=(Option.bind_some _ _).symm.trans H;rw [hy233];with_reducible exact H2_)|(have H2_:=(Option.bind_some _ _).symm.trans H;with_reducible exact H2_)|with_reducible exact H|(rw [hy233];exact H)|exact H
    have Ny233:=Aside0.mk hy233
    clear hy233
    obtain rfl:=Option.some.inj H
    obtain ⟨Ao38,co38,eo38⟩:=Kd.N_slice HO_0.out
    subst eo38
    have p207:0≤(x7_1:Int):=zod
    have q207:x7_1 < (l0.length:Int):=zod
    obtain ⟨ad207,A207_0,c207_0,e207,hx207_0,hx207_1,hl207_0,hi207_0⟩:=at_T31 (Kd.N_reads' HO_0.out).2.2 x7_1 p207 q207
    cases e207
    obtain ⟨ce207,hce207,hMe207,hcc207⟩:=Kd.N_get HO_0.out z31 x7_1 p207 (by first|exact q207|exact zod|(have e_:=(Kd.N_reads' HO_0.out).1;omega))
    obtain ⟨ua207_0,uc207_0,rfl,ul207_0,ge207_0⟩:=k31_openF hMe207
    have hv207_0:=hcc207 0 _ rfl
    rw [Nat.add_zero] at hv207_0
    replace hv207_0:=Option.some.inj (hv207_0.symm.trans hx207_0)
    injection hv207_0 with hva_ hvn_ hvc_
    rw [hva_] at ge207_0
    rw [hvc_] at ul207_0
    have HL207_0:=Aside0.mk (show Kd.V (Kd.int .i64) 3 _ w.heap.size _ _ ((rd_T31 l0 x7_1).f0) from Kd.V_mk ul207_0 ge207_0)
    clear hva_ hvn_ hvc_ ge207_0 ul207_0
    clear hcc207 hce207
    have HR207_0:=Aside0.mk hi207_0
    have HC207_0:=Aside0.mk hl207_0
    clear hi207_0 hl207_0
    replace p207:=eq_true p207
    replace q207:=eq_true q207
    go_wp2_with (first|(go_at_call 57;(with_reducible refine (spec_RowLess.calls k1 _ _ ((rd_T31 l0 x7_1).f0) _ _ l1 false _ ?side1 ?side2 ?side3 ?side4 A10.out).mono ?_);(case side1=>exact zC (zC HR207_0.out));(case side2=>exact HC207_0.out);(case side3=>exact zC (Kd.C_below HR1.out HB.out));(case side4=>exact HC1.out);rintro e w' ⟨rfl,⟨nd,rfl⟩⟩;have p209:0≤(x7_1:Int):=zod;have q209:x7_1 < (l0.length:Int):=zod;obtain ⟨ad209,A209_0,c209_0,e209,hx209_0,hx209_1,hl209_0,hi209_0⟩:=at_T31 (Kd.N_reads' HO_0.out).2.2 x7_1 p209 q209;obtain rfl:ad207=ad209:=(by injection e209);obtain ⟨ce209,hce209,hMe209,hcc209⟩:=Kd.N_get HO_0.out z31 x7_1 p209 (by first|exact q209|exact zod|(have e_:=(Kd.N_reads' HO_0.out).1;omega));obtain ⟨ua209_0,uc209_0,rfl,ul209_0,ge209_0⟩:=k31_openF hMe209;have hv209_0:=hcc209 0 _ rfl;rw [Nat.add_zero] at hv209_0;replace hv209_0:=Option.some.inj (hv209_0.symm.trans hx209_0);injection hv209_0 with hva_ hvn_ hvc_;rw [hva_] at ge209_0;rw [hvc_] at ul209_0;have HL209_0:=Aside0.mk (show Kd.V (Kd.int .i64) 3 _ w.heap.size _ _ ((rd_T31 l0 x7_1).f0) from Kd.V_mk ul209_0 ge209_0);clear hva_ hvn_ hvc_ ge209_0 ul209_0;clear hcc209 hce209;have HR209_0:=Aside0.mk hi209_0;have HC209_0:=Aside0.mk hl209_0;clear hi209_0 hl209_0;replace p209:=eq_true p209;replace q209:=eq_true q209;have ea_:=Option.some.inj (hx207_0.symm.trans hx209_0);injection ea_ with ea_ en_ ec_;subst ea_;subst ec_;clear en_)|(go_at_call 82;(with_reducible refine (spec_RowSame.calls k1 _ _ ((rd_T31 l0 x7_1).f0) _ _ l1 false _ ?side1 ?side2 ?side3 ?side4 A13.out).mono ?_);(case side1=>exact zC (zC HR209_0.out));(case side2=>exact HC209_0.out);(case side3=>exact zC (Kd.C_below HR1.out zhb));(case side4=>exact HC1.out);rintro e w' ⟨rfl,⟨nd,rfl⟩⟩;(try (rw [drewN_self wr];generalize hq_:World.drewN wr _=wr;have hx207n_:wr.cell? (ad207.add ((x7_1:Int).toNat * 2))=some (.slice A207_0 ((rd_T31 l0 x7_1).f0).length c207_0):=(by rw [← hq_];exact hx207_0);clear hx207_0;have hx207_0:=hx207n_;clear hx207n_;have n0_:Aside0 (Kd.V (Kd.int .i64) 3 wr w.heap.size (fun k_=>(P0_ k_∨w.heap.size≤k_)∧some k_≠(.slice (some ad207) l0.length co38:Value).ownBlock) (.slice A207_0 ((rd_T31 l0 x7_1).f0).length c207_0) ((rd_T31 l0 x7_1).f0)):=⟨by rw [← hq_];exact (zV HL207_0.out)⟩;have n1_:Aside0 (Kd.V (Kd.int .i64) 3 wr w.heap.size (fun k_=>(P0_ k_∨w.heap.size≤k_)∧some k_≠(.slice (some ad207) l0.length co38:Value).ownBlock) (.slice A207_0 ((rd_T31 l0 x7_1).f0).length c207_0) ((rd_T31 l0 x7_1).f0)):=⟨by rw [← hq_];exact (zV HL209_0.out)⟩;have n2_:Aside0 (Kd.N k31 31 wr b (fun k_=>(P0_ k_∨w.heap.size≤k_)) (.slice (some ad207) l0.length co38) l0):=⟨by rw [← hq_];exact (zN HO_0.out)⟩;have n3_:Aside0 (Below w.heap.size w wr):=⟨by rw [← hq_];exact zhb⟩;have n4_:Aside0 (Kd.C (Kd.int .i64) wr A207_0 ((rd_T31 l0 x7_1).f0).length ((rd_T31 l0 x7_1).f0)):=⟨by rw [← hq_];exact (zC HR207_0.out)⟩;have n5_:Aside0 (Kd.C (Kd.int .i64) wr A207_0 ((rd_T31 l0 x7_1).f0).length ((rd_T31 l0 x7_1).f0)):=⟨by rw [← hq_];exact (zC HR209_0.out)⟩;clear HL207_0 HL209_0 HO_0 HB HR207_0 HR209_0 hq_;have HL207_0:=n0_;have HL209_0:=n1_;have HO_0:=n2_;have HB:=n3_;have HR207_0:=n4_;have HR209_0:=n5_;clear n0_ n1_ n2_ n3_ n4_ n5_)))|((with_reducible refine gate_dst (N:=66) rfl ?_);refine Kd.N_lit k31 _ 31 ?hg (N':=66) ?hd (xs:=([]:List (S31))) (inner:=[]) (ok:=(fun k_=>(P0_ k_∨w.heap.size≤k_)∧some k_≠(.slice (some ad207) l0.length co38:Value).ownBlock)) (okp:=(fun k_=>(P0_ k_∨w.heap.size≤k_)∧some k_≠(.slice (some ad207) l0.length co38:Value).ownBlock)) ?hr ?hp (fun _ hk=>hk) ((show ∀ k_,wr.heap.size≤k_→(fun k_=>(P0_ k_∨w.heap.size≤k_)∧some k_≠(.slice (some ad207) l0.length co38:Value).ownBlock) k_ from (fun k_ hk=>⟨.inr (Nat.le_trans (below_sizeB zhb) hk),Kd.fresh' (Kd.N_lt (zN HO_0.out)) k_ hk⟩)) _ (Nat.le_refl _)) (Below.refl _ _) (Nat.le_refl _) (by simp) ?_;(case hd=>rfl);(case hg=>rfl);(case hr=>first|(go_simp;done)|(go_simp;rfl));(case hp=>exact (Reps.none _ _));intro vT0 wT0 hoT0 hb hg_ hnew_;clear hg_ hnew_;have n0_:=Aside0.mk (Kd.N_elder' (zN HO_0.out) (Kd.N_base hoT0) hb);have HT0:=Aside0.mk (Kd.N_lower hoT0 (below_size zhb));have n2_:=Aside0.mk (below_step zhb hb);clear HO_0;clear HB;have HO_0:=n0_;have HB:=n2_;clear n0_ n2_;clear hb hoT0;have q51:(x7_1:Int)≤((l0.length:Int):Int):=zod;obtain ⟨i051,hi051,_,hsz51,_⟩:=info_parts info31;have hroom51:l0.length≤co38:=(Kd.N_reads' HO_0.out).2.1;have q051:(0:Int)≤(x7_1:Int):=zod;have hcut51:=cut_from (P:=Tryd.prog) 23 31 .i64 Tryd.underlying23 hi051 2 hsz51 (some ad207) l0.length co38 x7_1 q051 q51;have hr51:=Kd.rows_drop (m:=(x7_1:Int).toNat) (c:=co38) (Kd.N_rowsK HO_0.out) (by omega) hroom51;obtain ⟨A51,hA51⟩ : ∃ A1,A1=(if co38=(x7_1:Int).toNat then (some ad207) else ((some ad207):Option Addr).map (·.add ((x7_1:Int).toNat * 2))):=⟨_,rfl⟩;obtain ⟨c51,hc51⟩ : ∃ c1,c1=co38 - (x7_1:Int).toNat:=⟨_,rfl⟩;obtain ⟨yT,hyT⟩ : ∃ y_:List (S31),y_=l0.drop (x7_1:Int).toNat:=⟨_,rfl⟩;have hy51:yT.length=l0.length - (x7_1:Int).toNat:=(by rw [hyT,List.length_drop]);rw [← hyT] at hr51;replace hr51:ReadsRow (fun x cs=>Kd.FK k31 wT0 (fun k_=>((P0_ k_∨w.heap.size≤k_)∧some k_≠(vT0:Value).ownBlock)∧some k_≠(.slice (some ad207) l0.length co38:Value).ownBlock) x cs) k31.sz wT0 A51 yT.length yT:=(by rw [hA51];exact hr51);rw [← hy51,← hA51,← hc51] at hcut51;have HRK:=Aside0.mk hr51;have NyT:=Aside0.mk hyT;clear hr51 hroom51 hi051 hsz51 hc51 hyT;have KY51:=Aside0.mk hy51;clear hy51 hA51 q051;replace q51:=eq_true q51)|((with_reducible refine gate_builtin (b:=.append) (xs:=#[.tmp 66,.tmp 69]) rfl ?_);at_builtin;refine Kd.N_append_rowsK k31 (w0:=w) w.heap.size rfl (.tmp 66) (.tmp 69) 23 31 (.agg #[(.slice none 0 0),(.int .i64 0)]) 32 rfl Tryd.underlying23 info31 rfl (by decide) (by omega) vT0 [] yT _ _ _ (fun k_=>(P0_ k_∨w.heap.size≤k_)∧some k_≠(.slice (some ad207) l0.length co38:Value).ownBlock) (fun k_=>((P0_ k_∨w.heap.size≤k_)∧some k_≠(vT0:Value).ownBlock)∧some k_≠(.slice (some ad207) l0.length co38:Value).ownBlock) rfl rfl ?aO ?aR (fun _ hk=>⟨⟨hk.1.1,hk.2⟩,hk.1.2⟩) ?aF ?aB ?aS ?aL ?_;(case aR=>exact HRK.out);(case aB=>exact HB.out);(case aF=>exact (fun k_ hk=>⟨.inr (Nat.le_trans (below_sizeB (HB.out)) hk),Kd.fresh' (Kd.N_lt (HO_0.out)) k_ hk⟩));(case aO=>exact HT0.out);(case aS=>exact (below_size HB.out));(case aL=>have h1_:=LMz.out;have h2_:=KY51.out;simp only [List.length_nil];omega);intro vT wT ho hb hg hat;rw [List.nil_append] at ho;have n0_:=Aside0.mk (Kd.N_mono (Kd.N_grown HO_0.out hg (fun _ hk=>hk.2)) (fun _ hk=>hk.1));have HT:=Aside0.mk ho;have n2_:=Aside0.mk (hb);clear HO_0;clear HB;have HO_0:=n0_;have HB:=n2_;clear n0_ n2_;clear ho hb hg hat HRK HT0))
    obtain ⟨AT,cT,eT⟩:=Kd.N_slice HT.out
    subst eT
    have n0_:=Aside0.mk (Kd.N_drew HO_0.out)
    have n1_:=Aside0.mk (below_drew1 HB.out)
    have n2_:=Aside0.mk (Kd.N_drew HT.out)
    clear HO_0 HB HT
    have HO_0:=n0_
    have HB:=n1_
    have HT:=n2_
    clear n0_ n1_ n2_
    have q52:(x7_1:Int)≤((l0.length:Int):Int):=of_decide_eq_true (by first|(with_reducible assumption)|assumption|(simp only [*];done))
    obtain ⟨i052,hi052,_,hsz52,_⟩:=info_parts info31
    have hcut52:=cut_to (P:=Tryd.prog) 23 31 .i64 Tryd.underlying23 hi052 (some ad207) l0.length co38 x7_1 (zod) q52 (Kd.N_reads' HO_0.out).2.1
    have hr52:=Kd.N_take (m:=(x7_1:Int).toNat) HO_0.out (by omega)
    have hy52:y227.length=(x7_1:Int).toNat:=(by rw [Ny227.out,List.length_take];omega)
    rw [← Ny227.out] at hr52
    rw [← hy52] at hr52 hcut52
    clear hy52 hi052 hsz52 HO_0
    have HTK:=Aside0.mk hr52
    clear hr52
    replace q52:=eq_true q52
    refine start_ (n:=12) (S:=fun w'=>True) (ds:=[]) (zm 12 0) (by kernel_rfl) rfl rfl trivial (fun hHeld=>?_)
    generalize wT.drew=w51 at HB HT HTK hHeld ⊢
    refine zpk 0 71 12 1 ?_
    refine zpk 1 72 12 3 ?_
    refine zpk 2 73 12 7 ?_
    refine zpk 3 74 12 15 ?_
    refine zpk 5 76 12 47 ?_
    refine zpk 9 80 12 559 ?_
    refine one_ (i:=4) (N:=some 75) (zm 12 575) rfl rfl (by kernel_rfl) (by decide) (fun K hK=>?_)
    refine goes_ Tryd.func83 (by kernel_rfl) rfl #[.slice A1 l1.length c1] (by rfl) rfl rfl zar ?_
    with_reducible refine (spec_l1Copy.calls _ _ l1 t230 _ (Kd.C_below HR1.out HB.out) HC1.out A36.out).mono ?_
    rintro e w53 ⟨vC,rfl,ho0,hb⟩
    refine ⟨_,rfl,?_⟩
    have n0_:=Aside0.mk (Kd.N_below HTK.out hb)
    have n1_:=Aside0.mk (Kd.R_lower (Kd.R_newM (M:=fun k_=>(w.heap.size≤k_)) ho0 (below_size HB.out) (fun k_ h_=>h_)) (below_size HB.out))
    have n2_:=Aside0.mk (below_step HB.out hb)
    have n3_:=Aside0.mk (Kd.N_below HT.out hb)
    clear HTK HB HT
    have HTK:=n0_
    have HCP:=n1_
    have HB:=n2_
    have HT:=n3_
    clear n0_ n1_ n2_ n3_ ho0 hb
    obtain ⟨AC,cC,eC⟩:=Kd.R_slice HCP.out
    subst eC
    refine hK.out _ _ trivial (fun hHeld=>?_)
    clear hK K
    refine norm_ (a':=?_) ?_ ?_
    rotate_left
    ·show Act.put _ (some 75) _=_
     simp only [Act.put,zp1,zp2,zp3,i64_w,i32_w]
     rfl
    refine zpk 6 77 12 639 ?_
    refine one_ (i:=7) (N:=some 78) (zm 12 767) rfl rfl (by kernel_rfl) (by decide) (fun K hK=>?_)
    refine value_ (w1:=?_) (v:=?_) (by rfl) rfl ?_ ?_
    rotate_left 2
    ·go_simp
     constructor
     ·rfl
     rfl
    refine hK.out _ _ trivial (fun hHeld=>?_)
    clear hK K
    refine norm_ (a':=?_) ?_ ?_
    rotate_left
    ·show Act.put _ (some 78) _=_
     simp only [Act.put,zp1,zp2,zp3,i64_w,i32_w]
     rfl
    refine one_ (i:=8) (N:=some 79) (zm 12 1023) rfl rfl (by kernel_rfl) (by decide) (fun K hK=>?_)
    refine Kd.N_append_step k31 (w0:=w) b (by rfl) (.tmp 73) (.tmp 78) 23 31 (.agg #[(.slice none 0 0),(.int .i64 0)]) 32 rfl Tryd.underlying23 info31 rfl (by decide) (by omega) (.slice (some ad207) y227.length co38) y227 (⟨t230,a2⟩:S31) [.slice AC t230.length cC,.int .i64 a2] (fun k_=>(P0_ k_∨w.heap.size≤k_)) (fun k_=>(P0_ k_∨w.heap.size≤k_)∧some k_≠(.slice (some ad207) y227.length co38:Value).ownBlock) rfl rfl ?aP (fun _ hk=>hk) ?aF ?aO ?aB ?aS ?aL ?_
    (case aP=>exact (k31_mkF _ _ (⟨t230,a2⟩:S31) (Kd.R_reads' (Kd.R_mono (ok':=(fun k_=>(P0_ k_∨w.heap.size≤k_)∧some k_≠(.slice (some ad207) y227.length co38:Value).ownBlock)) (Kd.R_apart' (HCP.out) (Kd.N_typed HTK.out) (by decide)) (fun k_ hk=>⟨(.inr (hk.1.1)),hk.2⟩))).2.1 (Kd.R_F (Kd.R_mono (ok':=(fun k_=>(P0_ k_∨w.heap.size≤k_)∧some k_≠(.slice (some ad207) y227.length co38:Value).ownBlock)) (Kd.R_apart' (HCP.out) (Kd.N_typed HTK.out) (by decide)) (fun k_ hk=>⟨(.inr (hk.1.1)),hk.2⟩)))))
    (case aB=>exact (Below.mono HB.out HB0.out))
    (case aF=>exact (fun k_ hk=>(.inr (Nat.le_trans (below_size HB.out) hk))))
    (case aO=>exact HTK.out)
    (case aS=>exact (Nat.le_trans HB0.out (below_size HB.out)))
    (case aL=>have h1_:=LMc37.out;omega)
    intro v1 w55 ho hb hg hat
    rw [show (.slice (some ad207) y227.length co38:Value).ownBlock=(.slice (some ad207) l0.length co38:Value).ownBlock from by first|rfl|(cases (some ad207) <;> rfl)] at hg hat
    rw [← Ny233.out] at ho
    have HG:=Aside0.mk (World.grownBy.trans (grown_of_below HB.out _) hg)
    have HAT:=Aside0.mk (show v1.ownBlock=(.slice (some ad207) l0.length co38:Value).ownBlock∨∃ b_,v1.ownBlock=some b_∧w.heap.size≤b_ from hat.imp id (fun ⟨b_,e_,l_⟩=>⟨b_,e_,Nat.le_trans (below_size HB.out) l_⟩))
    have n1_:=Aside0.mk (ho)
    have n2_:=Aside0.mk (hb)
    have n3_:=Aside0.mk (Kd.N_after (u:=(.slice (some ad207) l0.length co38:Value)) (ok:=(fun k_=>(P0_ k_∨w.heap.size≤k_))) HT.out hg hat)
    have HSZ:=Aside0.mk (show w.heap.size≤w55.heap.size from HG.out.size)
    clear HB HTK HCP HT
    have HN1:=n1_
    have HB:=n2_
    have HT:=n3_
    clear n1_ n2_ n3_ ho hb hg hat
    refine hK.out _ _ trivial (fun hHeld=>?_)
    clear hK K
    refine norm_ (a':=?_) ?_ ?_
    rotate_left
    ·show Act.put _ (some 79) _=_
     simp only [Act.put,zp1,zp2,zp3,i64_w,i32_w]
     rfl
    refine one_ (i:=10) (N:=some 81) (zm 12 2047) rfl rfl (by kernel_rfl) (by decide) (fun K hK=>?_)
    refine Kd.N_append_rows_step k31 (w0:=w) b (by rfl) (.tmp 79) (.tmp 80) 23 31 (.agg #[(.slice none 0 0),(.int .i64 0)]) 32 rfl Tryd.underlying23 info31 rfl (by decide) (by omega) v1 y233 yT _ _ _ (fun k_=>(P0_ k_∨w.heap.size≤k_)) (fun k_=>(P0_ k_∨w.heap.size≤k_)∧some k_≠v1.ownBlock) rfl rfl ?aO ?aR (fun _ hk=>hk) ?aF ?aB ?aS ?aL ?_
    (case aR=>exact Kd.N_F HT.out)
    (case aB=>exact HB.out)
    (case aF=>exact (fun k_ hk=>(.inr (Nat.le_trans HSZ.out hk))))
    (case aO=>exact HN1.out)
    (case aS=>exact (Nat.le_trans HB0.out HSZ.out))
    (case aL=>have h1_:=LMz.out;have h2_:=KY51.out;have h3_:=congrArg List.length Ny233.out;have h4_:=congrArg List.length Ny227.out;simp only [List.length_append,List.length_take,List.length_cons,List.length_nil] at h3_ h4_;have h5_:(0:Int)≤x7_1:=zod;omega)
    intro v2 w56 ho hb hg hat
    rw [NyT.out] at ho
    have HEND:=Aside0.mk (put_twice HG.out HAT.out HSZ.out hg hat)
    have n1_:=Aside0.mk (ho)
    have n2_:=Aside0.mk (hb)
    clear HB HN1 HT HG HAT HSZ
    have HN2:=n1_
    have HB:=n2_
    clear n1_ n2_ ho hb hg hat
    refine hK.out _ _ trivial (fun hHeld=>?_)
    clear hK K
    refine norm_ (a':=?_) ?_ ?_
    rotate_left
    ·show Act.put _ (some 81) _=_
     simp only [Act.put,zp1,zp2,zp3,i64_w,i32_w]
     rfl
    refine zpk 11 6 12 4095 ?_
    refine done_ (by kernel_rfl) ?_
    try go_wp2
    go_ret
    exact ⟨_,by first|rfl|(simp [errW_none,errW_some] <;> rfl),Kd.N_mono HN2.out (fun k_ (hk:P0_ k_∨w.heap.size≤k_)=>hk.elim id (HF0.out k_)),HBW.out.trans HB.out,HEND.out⟩
   subst c14
   have H1:((some (l0.set (x7_1:Int).toNat (⟨(rd_T31 l0 x7_1).f0,wrap64 (((rd_T31 l0 x7_1).f1) + a2)⟩:S31):List (S31))).bind fun y212=>(if ((rd_T31 y212 x7_1).f1)=0 then (if x7_1≤(l0.length:Int) then (if 0≤(wrap64 (x7_1 + 1)) then (if (wrap64 (x7_1 + 1))≤(l0.length:Int) then (some (y212.eraseIdx (x7_1:Int).toNat)) else (none)) else (none)) else (none)) else (some y212)))=some r:=by rw [if_pos rfl] at H;exact H
   clear H
   have H:=H1
   clear H1
   obtain ⟨y212,hy212⟩ : ∃ y_:List (S31),y_=(l0.set (x7_1:Int).toNat (⟨(rd_T31 l0 x7_1).f0,wrap64 (((rd_T31 l0 x7_1).f1) + a2)⟩:S31)):=⟨_,rfl⟩
   replace H:(if ((rd_T31 y212 x7_1).f1)=0 then (if x7_1≤(l0.length:Int) then (if 0≤(wrap64 (x7_1 + 1)) then (if (wrap64 (x7_1 + 1))≤(l0.length:Int) then (some (y212.eraseIdx (x7_1:Int).toNat)) else (none)) else (none)) else (none)) else (some y212))=some r:=by first|(rw [hy212];with_reducible exact H)|(have H2_:=(Option.bind_some _ _).symm.trans H;rw [hy212];with_reducible exact H2_)|(have H2_:=(Option.bind_some _ _).symm.trans H;with_reducible exact H2_)|with_reducible exact H|(rw [hy212];exact H)|exact H
   have Ny212:=Aside0.mk hy212
   clear hy212
   by_cases c16:((rd_T31 y212 x7_1).f1)=0
   rotate_left
   ·rw [if_neg c16] at H
    have c16b0:(((rd_T31 y212 x7_1).f1) == 0)=false:=beq_eq_false_iff_ne.mpr c16
    have c16b1:(((rd_T31 y212 x7_1).f1) != 0)=true:=bne_iff_ne.mpr c16
    obtain rfl:=Option.some.inj H
    obtain ⟨Ao30,co30,eo30⟩:=Kd.N_slice HO_0.out
    subst eo30
    have p207:0≤(x7_1:Int):=zod
    have q207:x7_1 < (l0.length:Int):=zod
    obtain ⟨ad207,A207_0,c207_0,e207,hx207_0,hx207_1,hl207_0,hi207_0⟩:=at_T31 (Kd.N_reads' HO_0.out).2.2 x7_1 p207 q207
    cases e207
    obtain ⟨ce207,hce207,hMe207,hcc207⟩:=Kd.N_get HO_0.out z31 x7_1 p207 (by first|exact q207|exact zod|(have e_:=(Kd.N_reads' HO_0.out).1;omega))
    obtain ⟨ua207_0,uc207_0,rfl,ul207_0,ge207_0⟩:=k31_openF hMe207
    have hv207_0:=hcc207 0 _ rfl
    rw [Nat.add_zero] at hv207_0
    replace hv207_0:=Option.some.inj (hv207_0.symm.trans hx207_0)
    injection hv207_0 with hva_ hvn_ hvc_
    rw [hva_] at ge207_0
    rw [hvc_] at ul207_0
    have HL207_0:=Aside0.mk (show Kd.V (Kd.int .i64) 3 _ w.heap.size _ _ ((rd_T31 l0 x7_1).f0) from Kd.V_mk ul207_0 ge207_0)
    clear hva_ hvn_ hvc_ ge207_0 ul207_0
    clear hcc207 hce207
    have HR207_0:=Aside0.mk hi207_0
    have HC207_0:=Aside0.mk hl207_0
    clear hi207_0 hl207_0
    replace p207:=eq_true p207
    replace q207:=eq_true q207
    go_wp2_with (first|(go_at_call 57;(with_reducible refine (spec_RowLess.calls k1 _ _ ((rd_T31 l0 x7_1).f0) _ _ l1 false _ ?side1 ?side2 ?side3 ?side4 A10.out).mono ?_);(case side1=>exact zC (zC HR207_0.out));(case side2=>exact HC207_0.out);(case side3=>exact zC (Kd.C_below HR1.out HB.out));(case side4=>exact HC1.out);rintro e w' ⟨rfl,⟨nd,rfl⟩⟩;(try (rw [drewN_self wr];generalize hq_:World.drewN wr _=wr;have hx207n_:wr.cell? (ad207.add ((x7_1:Int).toNat * 2))=some (.slice A207_0 ((rd_T31 l0 x7_1).f0).length c207_0):=(by rw [← hq_];exact hx207_0);clear hx207_0;have hx207_0:=hx207n_;clear hx207n_;have n0_:Aside0 (Kd.V (Kd.int .i64) 3 wr w.heap.size (fun k_=>(P0_ k_∨w.heap.size≤k_)∧some k_≠(.slice (some ad207) l0.length co30:Value).ownBlock) (.slice A207_0 ((rd_T31 l0 x7_1).f0).length c207_0) ((rd_T31 l0 x7_1).f0)):=⟨by rw [← hq_];exact (zV HL207_0.out)⟩;have n1_:Aside0 (Kd.N k31 31 wr b (fun k_=>(P0_ k_∨w.heap.size≤k_)) (.slice (some ad207) l0.length co30) l0):=⟨by rw [← hq_];exact (zN HO_0.out)⟩;have n2_:Aside0 (Below w.heap.size w wr):=⟨by rw [← hq_];exact zhb⟩;have n3_:Aside0 (Kd.C (Kd.int .i64) wr A207_0 ((rd_T31 l0 x7_1).f0).length ((rd_T31 l0 x7_1).f0)):=⟨by rw [← hq_];exact (zC HR207_0.out)⟩;clear HL207_0 HO_0 HB HR207_0 hq_;have HL207_0:=n0_;have HO_0:=n1_;have HB:=n2_;have HR207_0:=n3_;clear n0_ n1_ n2_ n3_));have p209:0≤(x7_1:Int):=zod;have q209:x7_1 < (l0.length:Int):=zod;obtain ⟨ad209,A209_0,c209_0,e209,hx209_0,hx209_1,hl209_0,hi209_0⟩:=at_T31 (Kd.N_reads' HO_0.out).2.2 x7_1 p209 q209;obtain rfl:ad207=ad209:=(by injection e209);obtain ⟨ce209,hce209,hMe209,hcc209⟩:=Kd.N_get HO_0.out z31 x7_1 p209 (by first|exact q209|exact zod|(have e_:=(Kd.N_reads' HO_0.out).1;omega));obtain ⟨ua209_0,uc209_0,rfl,ul209_0,ge209_0⟩:=k31_openF hMe209;have hv209_0:=hcc209 0 _ rfl;rw [Nat.add_zero] at hv209_0;replace hv209_0:=Option.some.inj (hv209_0.symm.trans hx209_0);injection hv209_0 with hva_ hvn_ hvc_;rw [hva_] at ge209_0;rw [hvc_] at ul209_0;have HL209_0:=Aside0.mk (show Kd.V (Kd.int .i64) 3 _ w.heap.size _ _ ((rd_T31 l0 x7_1).f0) from Kd.V_mk ul209_0 ge209_0);clear hva_ hvn_ hvc_ ge209_0 ul209_0;clear hcc209 hce209;have HR209_0:=Aside0.mk hi209_0;have HC209_0:=Aside0.mk hl209_0;clear hi209_0 hl209_0;replace p209:=eq_true p209;replace q209:=eq_true q209;have ea_:=Option.some.inj (hx207_0.symm.trans hx209_0);injection ea_ with ea_ en_ ec_;subst ea_;subst ec_;clear en_)|(go_at_call 82;(with_reducible refine (spec_RowSame.calls k1 _ _ ((rd_T31 l0 x7_1).f0) _ _ l1 true _ ?side1 ?side2 ?side3 ?side4 A13.out).mono ?_);(case side1=>exact zC (zC HR209_0.out));(case side2=>exact HC209_0.out);(case side3=>exact zC (Kd.C_below HR1.out HB.out));(case side4=>exact HC1.out);rintro e w' ⟨rfl,⟨nd,rfl⟩⟩;(try (rw [drewN_self wr];generalize hq_:World.drewN wr _=wr;have hx207n_:wr.cell? (ad207.add ((x7_1:Int).toNat * 2))=some (.slice A207_0 ((rd_T31 l0 x7_1).f0).length c207_0):=(by rw [← hq_];exact hx207_0);clear hx207_0;have hx207_0:=hx207n_;clear hx207n_;have n0_:Aside0 (Kd.V (Kd.int .i64) 3 wr w.heap.size (fun k_=>(P0_ k_∨w.heap.size≤k_)∧some k_≠(.slice (some ad207) l0.length co30:Value).ownBlock) (.slice A207_0 ((rd_T31 l0 x7_1).f0).length c207_0) ((rd_T31 l0 x7_1).f0)):=⟨by rw [← hq_];exact (zV HL207_0.out)⟩;have n1_:Aside0 (Kd.V (Kd.int .i64) 3 wr w.heap.size (fun k_=>(P0_ k_∨w.heap.size≤k_)∧some k_≠(.slice (some ad207) l0.length co30:Value).ownBlock) (.slice A207_0 ((rd_T31 l0 x7_1).f0).length c207_0) ((rd_T31 l0 x7_1).f0)):=⟨by rw [← hq_];exact (zV HL209_0.out)⟩;have n2_:Aside0 (Kd.N k31 31 wr b (fun k_=>(P0_ k_∨w.heap.size≤k_)) (.slice (some ad207) l0.length co30) l0):=⟨by rw [← hq_];exact (zN HO_0.out)⟩;have n3_:Aside0 (Below w.heap.size w wr):=⟨by rw [← hq_];exact zhb⟩;have n4_:Aside0 (Kd.C (Kd.int .i64) wr A207_0 ((rd_T31 l0 x7_1).f0).length ((rd_T31 l0 x7_1).f0)):=⟨by rw [← hq_];exact (zC HR207_0.out)⟩;have n5_:Aside0 (Kd.C (Kd.int .i64) wr A207_0 ((rd_T31 l0 x7_1).f0).length ((rd_T31 l0 x7_1).f0)):=⟨by rw [← hq_];exact (zC HR209_0.out)⟩;clear HL207_0 HL209_0 HO_0 HB HR207_0 HR209_0 hq_;have HL207_0:=n0_;have HL209_0:=n1_;have HO_0:=n2_;have HB:=n3_;have HR207_0:=n4_;have HR209_0:=n5_;clear n0_ n1_ n2_ n3_ n4_ n5_));have p211:0≤(x7_1:Int):=zod;have q211:x7_1 < (l0.length:Int):=zod;obtain ⟨ad211,A211_0,c211_0,e211,hx211_0,hx211_1,hl211_0,hi211_0⟩:=at_T31 (Kd.N_reads' HO_0.out).2.2 x7_1 p211 q211;obtain rfl:ad207=ad211:=(by injection e211);obtain ⟨ce211,hce211,hMe211,hcc211⟩:=Kd.N_get HO_0.out z31 x7_1 p211 (by first|exact q211|exact zod|(have e_:=(Kd.N_reads' HO_0.out).1;omega));obtain ⟨ua211_0,uc211_0,rfl,ul211_0,ge211_0⟩:=k31_openF hMe211;have hv211_0:=hcc211 0 _ rfl;rw [Nat.add_zero] at hv211_0;replace hv211_0:=Option.some.inj (hv211_0.symm.trans hx211_0);injection hv211_0 with hva_ hvn_ hvc_;rw [hva_] at ge211_0;rw [hvc_] at ul211_0;have HL211_0:=Aside0.mk (show Kd.V (Kd.int .i64) 3 _ w.heap.size _ _ ((rd_T31 l0 x7_1).f0) from Kd.V_mk ul211_0 ge211_0);clear hva_ hvn_ hvc_ ge211_0 ul211_0;clear hcc211 hce211;have HR211_0:=Aside0.mk hi211_0;have HC211_0:=Aside0.mk hl211_0;clear hi211_0 hl211_0;replace p211:=eq_true p211;replace q211:=eq_true q211;have ea_:=Option.some.inj (hx207_0.symm.trans hx211_0);injection ea_ with ea_ en_ ec_;subst ea_;subst ec_;clear en_;have p15:0≤(x7_1:Int):=zod;have q15:(x7_1:Int) < ((l0.length:Int):Int):=zod;obtain ⟨go15,co15,eo15,gb15,gl15,cl15,HG15⟩:=Kd.N_form HO_0.out (by omega);(first|cases eo15|(injection eo15 with ea_ en_ ec_;(first|subst ea_|(injection ea_ with ea_;subst ea_));subst ec_;clear en_));have GB15:=Aside0.mk gb15;have GG15:=Aside0.mk HG15;clear gb15 gl15 HG15;(first|simp only [add_plain] at hx207_0|skip);(first|simp only [add_plain] at hx207_1|skip);(first|simp only [add_plain] at hx209_0|skip);(first|simp only [add_plain] at hx209_1|skip);(first|simp only [add_plain] at hx211_0|skip);(first|simp only [add_plain] at hx211_1|skip);obtain ⟨ce15,hcl15,hM15,hcc15,hfr15⟩:=Kd.N_elem HO_0.out z31 (x7_1:Int) p15 q15;obtain ⟨ua15_0,uc15_0,rfl,ul15_0,ge15_0⟩:=k31_openF hM15;have hx15_0:wr.cell? ⟨go15,(x7_1:Int).toNat * 2,none⟩=some (.slice ua15_0 ((rd_T31 l0 x7_1).f0).length uc15_0):=hcc15 0 _ rfl;have hx15_1:wr.cell? ⟨go15,(x7_1:Int).toNat * 2 + 1,none⟩=some (.int .i64 ((rd_T31 l0 x7_1).f1)):=hcc15 1 _ rfl;have hf15_0:wr.frozen? ⟨go15,(x7_1:Int).toNat * 2,none⟩=false:=hfr15 0;have hf15_1:wr.frozen? ⟨go15,(x7_1:Int).toNat * 2 + 1,none⟩=false:=hfr15 1;clear hcl15 hcc15 hfr15 hM15;replace p15:=eq_true p15;replace q15:=eq_true q15;have HX31:=Aside0.mk (show Kd.N k31 31 wr b (fun k_=>(P0_ k_∨w.heap.size≤k_)) (.slice (some ⟨go15,0,none⟩) l0.length co30) l0 from (zN HO_0.out));obtain ⟨ce31,hcl31,hM31,hcc31,hfr31⟩:=Kd.N_elem HX31.out z31 (x7_1:Int) (zod) (by have h_:(x7_1:Int) < ((l0.length:Int):Int):=zod;first|exact h_|(have e_:=(Kd.N_reads' HO_0.out).1;omega)|simpa using h_);obtain ⟨ua31_0,uc31_0,rfl,ul31_0,ge31_0⟩:=k31_openF hM31;have HP31:=Kd.N_seg HX31.out (x7_1:Int) (zod) (by have h_:(x7_1:Int) < ((l0.length:Int):Int):=zod;first|exact h_|(have e_:=(Kd.N_reads' HO_0.out).1;omega)|simpa using h_) (seg:=[.int .i64 (wrap64 (((rd_T31 l0 x7_1).f1) + a2))]) (j:=1) hcl31 hcc31 (show 2≤2 from by decide) (x':=(⟨(rd_T31 l0 x7_1).f0,wrap64 (((rd_T31 l0 x7_1).f1) + a2)⟩:S31)) (k31_mkF _ _ (⟨(rd_T31 l0 x7_1).f0,wrap64 (((rd_T31 l0 x7_1).f1) + a2)⟩:S31) ul31_0 ge31_0) (fun _ hk=>hk);have hx31_1:=hcc31 1 _ rfl;(try simp only [show (k31).sz=2 from rfl,Nat.mul_one,Nat.add_zero] at hx31_1);have hf31_1:=hfr31 1;(try simp only [show (k31).sz=2 from rfl,Nat.mul_one,Nat.add_zero] at hf31_1);clear hcl31 hcc31 hfr31 hM31)|((with_reducible refine gate_store (t:=3) (p:=47) rfl ?_);refine store_event (t:=3) (p:=47) (v:=?vo_w32) (w1:=(wr.setCell ⟨go15,(x7_1:Int).toNat * 2 + 1,none⟩ (.int .i64 (wrap64 (((rd_T31 l0 x7_1).f1) + a2))))) ?hg ?ho ?hn ?hr ?_;(case ho=>rfl);(case hg=>rfl);(case hn=>rfl);(case hr=>first|(go_simp;done)|(go_simp;rfl));intro w32 hw;have hg:wr.grownBy w32 (some go15):=(by rw [hw];exact HP31.2);have hp_:Kd.N k31 31 w32 b (fun k_=>(P0_ k_∨w.heap.size≤k_)) (.slice (some ⟨go15,0,none⟩) l0.length co30) y212:=(by rw [hw,Ny212.out];exact HP31.1);clear HP31;have n0_:=Aside0.mk (hp_);have n1_:=Aside0.mk (Kd.V_afterv (v:=(.slice (some ⟨go15,0,none⟩) l0.length co30)) (v1:=(.slice (some ⟨go15,0,none⟩) l0.length co30)) (ok:=(fun k_=>(P0_ k_∨w.heap.size≤k_))) (zV HL207_0.out) hg (.inl rfl));have n2_:=Aside0.mk (Kd.V_afterv (v:=(.slice (some ⟨go15,0,none⟩) l0.length co30)) (v1:=(.slice (some ⟨go15,0,none⟩) l0.length co30)) (ok:=(fun k_=>(P0_ k_∨w.heap.size≤k_))) (zV HL209_0.out) hg (.inl rfl));have n3_:=Aside0.mk (Kd.V_afterv (v:=(.slice (some ⟨go15,0,none⟩) l0.length co30)) (v1:=(.slice (some ⟨go15,0,none⟩) l0.length co30)) (ok:=(fun k_=>(P0_ k_∨w.heap.size≤k_))) (zV HL211_0.out) hg (.inl rfl));have n4_:=Aside0.mk ((by rw [hw];exact below_setB (Below.mono HB.out HB0.out) GB15.out:Below b w w32));have HG:=Aside0.mk (World.grownBy.trans (grown_of_below HB.out _) hg);clear HO_0;clear HL207_0;clear HL209_0;clear HL211_0;clear HB;have HO_0:=n0_;have HL207_0:=n1_;have HL209_0:=n2_;have HL211_0:=n3_;have HB:=n4_;clear n0_ n1_ n2_ n3_ n4_;clear hg hw hp_;have p213:0≤(x7_1:Int):=zod;have q213:x7_1 < (y212.length:Int):=(by have h_:(x7_1:Int) < ((l0.length:Int):Int):=zod;first|(have e_:=(Kd.N_reads' HO_0.out).1;omega)|simpa only [Ny212.out,List.length_set] using h_);have ql213:((x7_1:Int) < ((l0.length:Int):Int))=True:=eq_true (zod);obtain ⟨ad213,A213_0,c213_0,e213,hx213_0,hx213_1,hl213_0,hi213_0⟩:=at_T31 (Kd.N_reads' HO_0.out).2.2 x7_1 p213 q213;obtain rfl:(⟨go15,0,none⟩:Addr)=ad213:=(by injection e213);obtain ⟨ce213,hce213,hMe213,hcc213⟩:=Kd.N_get HO_0.out z31 x7_1 p213 (by first|exact q213|exact zod|(have e_:=(Kd.N_reads' HO_0.out).1;omega));obtain ⟨ua213_0,uc213_0,rfl,ul213_0,ge213_0⟩:=k31_openF hMe213;have hv213_0:=hcc213 0 _ rfl;rw [Nat.add_zero] at hv213_0;replace hv213_0:=Option.some.inj (hv213_0.symm.trans hx213_0);injection hv213_0 with hva_ hvn_ hvc_;rw [hva_] at ge213_0;rw [hvc_] at ul213_0;have HL213_0:=Aside0.mk (show Kd.V (Kd.int .i64) 3 _ w.heap.size _ _ ((rd_T31 y212 x7_1).f0) from Kd.V_mk ul213_0 ge213_0);clear hva_ hvn_ hvc_ ge213_0 ul213_0;clear hcc213 hce213;(first|simp only [add_plain] at hx213_0|simp only [add_at] at hx213_0|simp only [Addr.add,Nat.zero_add] at hx213_0|skip);(first|simp only [add_plain] at hx213_1|simp only [add_at] at hx213_1|simp only [Addr.add,Nat.zero_add] at hx213_1|skip);have HR213_0:=Aside0.mk hi213_0;have HC213_0:=Aside0.mk hl213_0;clear hi213_0 hl213_0;replace p213:=eq_true p213;replace q213:=eq_true q213))
    go_ret
    exact ⟨_,by first|rfl|(simp [errW_none,errW_some] <;> rfl)|(simp only [← hji19];first|rfl|(simp [errW_none,errW_some] <;> rfl)),Kd.N_mono HO_0.out (fun k_ (hk:P0_ k_∨w.heap.size≤k_)=>hk.elim id (HF0.out k_)),HBW.out.trans HB.out,HG.out,.inl rfl⟩
   rw [if_pos c16] at H
   have c16b0:(((rd_T31 y212 x7_1).f1) == 0)=true:=beq_iff_eq.mpr c16
   have c16b1:(((rd_T31 y212 x7_1).f1) != 0)=false:=bne_eq_false_iff_eq.mpr c16
   clear c16
   have c17b0:=eq_true (zod:0≤x7_1)
   by_cases c18:x7_1≤(l0.length:Int)
   rotate_left
   ·rw [if_neg c18] at H
    exact absurd H (by simp)
   rw [if_pos c18] at H
   have c18b0:=eq_true c18
   have c18b1:decide (x7_1≤(l0.length:Int))=true:=decide_eq_true c18
   clear c18
   obtain ⟨y214,hy214⟩ : ∃ y_:List (S31),y_=(y212.take (x7_1:Int).toNat):=⟨_,rfl⟩
   replace H:(if 0≤(wrap64 (x7_1 + 1)) then (if (wrap64 (x7_1 + 1))≤(l0.length:Int) then (some (y212.eraseIdx (x7_1:Int).toNat)) else (none)) else (none))=some r:=by first|(rw [hy214];with_reducible exact H)|(have H2_:=(Option.bind_some _ _).symm.trans H;rw [hy214];with_reducible exact H2_)|(have H2_:=(Option.bind_some _ _).symm.trans H;with_reducible exact H2_)|with_reducible exact H|(rw [hy214];exact H)|exact H
   have Ny214:=Aside0.mk hy214
   clear hy214
   obtain ⟨ji19,hji19⟩ : ∃ j_:Int,(wrap64 (x7_1 + 1))=j_:=⟨_,rfl⟩
   replace H:(if 0≤(ji19) then (if (ji19)≤(l0.length:Int) then (some (y212.eraseIdx (x7_1:Int).toNat)) else (none)) else (none))=some r:=by first|(rw [hji19] at H;exact H)|(simp only [hji19] at H ⊢;exact H)
   (try rw [hji19] at A10)
   (try rw [hji19] at A13)
   have hji19w:(IntKind.i64.wrap (x7_1 + 1))=ji19:=(i64_w _).trans hji19
   by_cases c20:0≤(ji19)
   rotate_left
   ·rw [if_neg c20] at H
    exact absurd H (by simp)
   rw [if_pos c20] at H
   have c20b0:=eq_true c20
   have c20b1:decide (0≤(ji19))=true:=decide_eq_true c20
   clear c20
   by_cases c21:(ji19)≤(l0.length:Int)
   rotate_left
   ·rw [if_neg c21] at H
    exact absurd H (by simp)
   rw [if_pos c21] at H
   have c21b0:=eq_true c21
   have c21b1:decide ((ji19)≤(l0.length:Int))=true:=decide_eq_true c21
   clear c21
   obtain ⟨y219,hy219⟩ : ∃ y_:List (S31),y_=(y212.drop ((ji19):Int).toNat):=⟨_,rfl⟩
   replace H:(some (y212.eraseIdx (x7_1:Int).toNat))=some r:=by first|(rw [hy219];with_reducible exact H)|(have H2_:=(Option.bind_some _ _).symm.trans H;rw [hy219];with_reducible exact H2_)|(have H2_:=(Option.bind_some _ _).symm.trans H;with_reducible exact H2_)|with_reducible exact H|(rw [hy219];exact H)|exact H
   have Ny219:=Aside0.mk hy219
   clear hy219
   obtain ⟨y224,hy224⟩ : ∃ y_:List (S31),y_=(y212.eraseIdx (x7_1:Int).toNat):=⟨_,rfl⟩
   replace H:(some y224)=some r:=by first|(rw [hy224];with_reducible exact H)|(have H2_:=(Option.bind_some _ _).symm.trans H;rw [hy224];with_reducible exact H2_)|(have H2_:=(Option.bind_some _ _).symm.trans H;with_reducible exact H2_)|with_reducible exact H|(rw [hy224];exact H)|exact H
   have Ny224:=Aside0.mk hy224
   clear hy224
   obtain rfl:=Option.some.inj H
   obtain ⟨Ao22,co22,eo22⟩:=Kd.N_slice HO_0.out
   subst eo22
   have p207:0≤(x7_1:Int):=zod
   have q207:x7_1 < (l0.length:Int):=zod
   obtain ⟨ad207,A207_0,c207_0,e207,hx207_0,hx207_1,hl207_0,hi207_0⟩:=at_T31 (Kd.N_reads' HO_0.out).2.2 x7_1 p207 q207
   cases e207
   obtain ⟨ce207,hce207,hMe207,hcc207⟩:=Kd.N_get HO_0.out z31 x7_1 p207 (by first|exact q207|exact zod|(have e_:=(Kd.N_reads' HO_0.out).1;omega))
   obtain ⟨ua207_0,uc207_0,rfl,ul207_0,ge207_0⟩:=k31_openF hMe207
   have hv207_0:=hcc207 0 _ rfl
   rw [Nat.add_zero] at hv207_0
   replace hv207_0:=Option.some.inj (hv207_0.symm.trans hx207_0)
   injection hv207_0 with hva_ hvn_ hvc_
   rw [hva_] at ge207_0
   rw [hvc_] at ul207_0
   have HL207_0:=Aside0.mk (show Kd.V (Kd.int .i64) 3 _ w.heap.size _ _ ((rd_T31 l0 x7_1).f0) from Kd.V_mk ul207_0 ge207_0)
   clear hva_ hvn_ hvc_ ge207_0 ul207_0
   clear hcc207 hce207
   have HR207_0:=Aside0.mk hi207_0
   have HC207_0:=Aside0.mk hl207_0
   clear hi207_0 hl207_0
   replace p207:=eq_true p207
   replace q207:=eq_true q207
   try go_wp2_with (first|(go_at_call 57;(with_reducible refine (spec_RowLess.calls k1 _ _ ((rd_T31 l0 x7_1).f0) _ _ l1 false _ ?side1 ?side2 ?side3 ?side4 A10.out).mono ?_);(case side1=>exact zC (zC HR207_0.out));(case side2=>exact HC207_0.out);(case side3=>exact zC (Kd.C_below HR1.out HB.out));(case side4=>exact HC1.out);rintro e w' ⟨rfl,⟨nd,rfl⟩⟩;(try (rw [drewN_self wr];generalize hq_:World.drewN wr _=wr;have hx207n_:wr.cell? (ad207.add ((x7_1:Int).toNat * 2))=some (.slice A207_0 ((rd_T31 l0 x7_1).f0).length c207_0):=(by rw [← hq_];exact hx207_0);clear hx207_0;have hx207_0:=hx207n_;clear hx207n_;have n0_:Aside0 (Kd.V (Kd.int .i64) 3 wr w.heap.size (fun k_=>(P0_ k_∨w.heap.size≤k_)∧some k_≠(.slice (some ad207) l0.length co22:Value).ownBlock) (.slice A207_0 ((rd_T31 l0 x7_1).f0).length c207_0) ((rd_T31 l0 x7_1).f0)):=⟨by rw [← hq_];exact (zV HL207_0.out)⟩;have n1_:Aside0 (Kd.N k31 31 wr b (fun k_=>(P0_ k_∨w.heap.size≤k_)) (.slice (some ad207) l0.length co22) l0):=⟨by rw [← hq_];exact (zN HO_0.out)⟩;have n2_:Aside0 (Below w.heap.size w wr):=⟨by rw [← hq_];exact zhb⟩;have n3_:Aside0 (Kd.C (Kd.int .i64) wr A207_0 ((rd_T31 l0 x7_1).f0).length ((rd_T31 l0 x7_1).f0)):=⟨by rw [← hq_];exact (zC HR207_0.out)⟩;clear HL207_0 HO_0 HB HR207_0 hq_;have HL207_0:=n0_;have HO_0:=n1_;have HB:=n2_;have HR207_0:=n3_;clear n0_ n1_ n2_ n3_));have p209:0≤(x7_1:Int):=zod;have q209:x7_1 < (l0.length:Int):=zod;obtain ⟨ad209,A209_0,c209_0,e209,hx209_0,hx209_1,hl209_0,hi209_0⟩:=at_T31 (Kd.N_reads' HO_0.out).2.2 x7_1 p209 q209;obtain rfl:ad207=ad209:=(by injection e209);obtain ⟨ce209,hce209,hMe209,hcc209⟩:=Kd.N_get HO_0.out z31 x7_1 p209 (by first|exact q209|exact zod|(have e_:=(Kd.N_reads' HO_0.out).1;omega));obtain ⟨ua209_0,uc209_0,rfl,ul209_0,ge209_0⟩:=k31_openF hMe209;have hv209_0:=hcc209 0 _ rfl;rw [Nat.add_zero] at hv209_0;replace hv209_0:=Option.some.inj (hv209_0.symm.trans hx209_0);injection hv209_0 with hva_ hvn_ hvc_;rw [hva_] at ge209_0;rw [hvc_] at ul209_0;have HL209_0:=Aside0.mk (show Kd.V (Kd.int .i64) 3 _ w.heap.size _ _ ((rd_T31 l0 x7_1).f0) from Kd.V_mk ul209_0 ge209_0);clear hva_ hvn_ hvc_ ge209_0 ul209_0;clear hcc209 hce209;have HR209_0:=Aside0.mk hi209_0;have HC209_0:=Aside0.mk hl209_0;clear hi209_0 hl209_0;replace p209:=eq_true p209;replace q209:=eq_true q209;have ea_:=Option.some.inj (hx207_0.symm.trans hx209_0);injection ea_ with ea_ en_ ec_;subst ea_;subst ec_;clear en_)|(go_at_call 82;(with_reducible refine (spec_RowSame.calls k1 _ _ ((rd_T31 l0 x7_1).f0) _ _ l1 true _ ?side1 ?side2 ?side3 ?side4 A13.out).mono ?_);(case side1=>exact zC (zC HR209_0.out));(case side2=>exact HC209_0.out);(case side3=>exact zC (Kd.C_below HR1.out HB.out));(case side4=>exact HC1.out);rintro e w' ⟨rfl,⟨nd,rfl⟩⟩;(try (rw [drewN_self wr];generalize hq_:World.drewN wr _=wr;have hx207n_:wr.cell? (ad207.add ((x7_1:Int).toNat * 2))=some (.slice A207_0 ((rd_T31 l0 x7_1).f0).length c207_0):=(by rw [← hq_];exact hx207_0);clear hx207_0;have hx207_0:=hx207n_;clear hx207n_;have n0_:Aside0 (Kd.V (Kd.int .i64) 3 wr w.heap.size (fun k_=>(P0_ k_∨w.heap.size≤k_)∧some k_≠(.slice (some ad207) l0.length co22:Value).ownBlock) (.slice A207_0 ((rd_T31 l0 x7_1).f0).length c207_0) ((rd_T31 l0 x7_1).f0)):=⟨by rw [← hq_];exact (zV HL207_0.out)⟩;have n1_:Aside0 (Kd.V (Kd.int .i64) 3 wr w.heap.size (fun k_=>(P0_ k_∨w.heap.size≤k_)∧some k_≠(.slice (some ad207) l0.length co22:Value).ownBlock) (.slice A207_0 ((rd_T31 l0 x7_1).f0).length c207_0) ((rd_T31 l0 x7_1).f0)):=⟨by rw [← hq_];exact (zV HL209_0.out)⟩;have n2_:Aside0 (Kd.N k31 31 wr b (fun k_=>(P0_ k_∨w.heap.size≤k_)) (.slice (some ad207) l0.length co22) l0):=⟨by rw [← hq_];exact (zN HO_0.out)⟩;have n3_:Aside0 (Below w.heap.size w wr):=⟨by rw [← hq_];exact zhb⟩;have n4_:Aside0 (Kd.C (Kd.int .i64) wr A207_0 ((rd_T31 l0 x7_1).f0).length ((rd_T31 l0 x7_1).f0)):=⟨by rw [← hq_];exact (zC HR207_0.out)⟩;have n5_:Aside0 (Kd.C (Kd.int .i64) wr A207_0 ((rd_T31 l0 x7_1).f0).length ((rd_T31 l0 x7_1).f0)):=⟨by rw [← hq_];exact (zC HR209_0.out)⟩;clear HL207_0 HL209_0 HO_0 HB HR207_0 HR209_0 hq_;have HL207_0:=n0_;have HL209_0:=n1_;have HO_0:=n2_;have HB:=n3_;have HR207_0:=n4_;have HR209_0:=n5_;clear n0_ n1_ n2_ n3_ n4_ n5_));have p211:0≤(x7_1:Int):=zod;have q211:x7_1 < (l0.length:Int):=zod;obtain ⟨ad211,A211_0,c211_0,e211,hx211_0,hx211_1,hl211_0,hi211_0⟩:=at_T31 (Kd.N_reads' HO_0.out).2.2 x7_1 p211 q211;obtain rfl:ad207=ad211:=(by injection e211);obtain ⟨ce211,hce211,hMe211,hcc211⟩:=Kd.N_get HO_0.out z31 x7_1 p211 (by first|exact q211|exact zod|(have e_:=(Kd.N_reads' HO_0.out).1;omega));obtain ⟨ua211_0,uc211_0,rfl,ul211_0,ge211_0⟩:=k31_openF hMe211;have hv211_0:=hcc211 0 _ rfl;rw [Nat.add_zero] at hv211_0;replace hv211_0:=Option.some.inj (hv211_0.symm.trans hx211_0);injection hv211_0 with hva_ hvn_ hvc_;rw [hva_] at ge211_0;rw [hvc_] at ul211_0;have HL211_0:=Aside0.mk (show Kd.V (Kd.int .i64) 3 _ w.heap.size _ _ ((rd_T31 l0 x7_1).f0) from Kd.V_mk ul211_0 ge211_0);clear hva_ hvn_ hvc_ ge211_0 ul211_0;clear hcc211 hce211;have HR211_0:=Aside0.mk hi211_0;have HC211_0:=Aside0.mk hl211_0;clear hi211_0 hl211_0;replace p211:=eq_true p211;replace q211:=eq_true q211;have ea_:=Option.some.inj (hx207_0.symm.trans hx211_0);injection ea_ with ea_ en_ ec_;subst ea_;subst ec_;clear en_;have p15:0≤(x7_1:Int):=zod;have q15:(x7_1:Int) < ((l0.length:Int):Int):=zod;obtain ⟨go15,co15,eo15,gb15,gl15,cl15,HG15⟩:=Kd.N_form HO_0.out (by omega);(first|cases eo15|(injection eo15 with ea_ en_ ec_;(first|subst ea_|(injection ea_ with ea_;subst ea_));subst ec_;clear en_));have GB15:=Aside0.mk gb15;have GG15:=Aside0.mk HG15;clear gb15 gl15 HG15;(first|simp only [add_plain] at hx207_0|skip);(first|simp only [add_plain] at hx207_1|skip);(first|simp only [add_plain] at hx209_0|skip);(first|simp only [add_plain] at hx209_1|skip);(first|simp only [add_plain] at hx211_0|skip);(first|simp only [add_plain] at hx211_1|skip);obtain ⟨ce15,hcl15,hM15,hcc15,hfr15⟩:=Kd.N_elem HO_0.out z31 (x7_1:Int) p15 q15;obtain ⟨ua15_0,uc15_0,rfl,ul15_0,ge15_0⟩:=k31_openF hM15;have hx15_0:wr.cell? ⟨go15,(x7_1:Int).toNat * 2,none⟩=some (.slice ua15_0 ((rd_T31 l0 x7_1).f0).length uc15_0):=hcc15 0 _ rfl;have hx15_1:wr.cell? ⟨go15,(x7_1:Int).toNat * 2 + 1,none⟩=some (.int .i64 ((rd_T31 l0 x7_1).f1)):=hcc15 1 _ rfl;have hf15_0:wr.frozen? ⟨go15,(x7_1:Int).toNat * 2,none⟩=false:=hfr15 0;have hf15_1:wr.frozen? ⟨go15,(x7_1:Int).toNat * 2 + 1,none⟩=false:=hfr15 1;clear hcl15 hcc15 hfr15 hM15;replace p15:=eq_true p15;replace q15:=eq_true q15;have HX23:=Aside0.mk (show Kd.N k31 31 wr b (fun k_=>(P0_ k_∨w.heap.size≤k_)) (.slice (some ⟨go15,0,none⟩) l0.length co22) l0 from (zN HO_0.out));obtain ⟨ce23,hcl23,hM23,hcc23,hfr23⟩:=Kd.N_elem HX23.out z31 (x7_1:Int) (zod) (by have h_:(x7_1:Int) < ((l0.length:Int):Int):=zod;first|exact h_|(have e_:=(Kd.N_reads' HO_0.out).1;omega)|simpa using h_);obtain ⟨ua23_0,uc23_0,rfl,ul23_0,ge23_0⟩:=k31_openF hM23;have HP23:=Kd.N_seg HX23.out (x7_1:Int) (zod) (by have h_:(x7_1:Int) < ((l0.length:Int):Int):=zod;first|exact h_|(have e_:=(Kd.N_reads' HO_0.out).1;omega)|simpa using h_) (seg:=[.int .i64 (wrap64 (((rd_T31 l0 x7_1).f1) + a2))]) (j:=1) hcl23 hcc23 (show 2≤2 from by decide) (x':=(⟨(rd_T31 l0 x7_1).f0,wrap64 (((rd_T31 l0 x7_1).f1) + a2)⟩:S31)) (k31_mkF _ _ (⟨(rd_T31 l0 x7_1).f0,wrap64 (((rd_T31 l0 x7_1).f1) + a2)⟩:S31) ul23_0 ge23_0) (fun _ hk=>hk);have hx23_1:=hcc23 1 _ rfl;(try simp only [show (k31).sz=2 from rfl,Nat.mul_one,Nat.add_zero] at hx23_1);have hf23_1:=hfr23 1;(try simp only [show (k31).sz=2 from rfl,Nat.mul_one,Nat.add_zero] at hf23_1);clear hcl23 hcc23 hfr23 hM23)|((with_reducible refine gate_store (t:=3) (p:=47) rfl ?_);refine store_event (t:=3) (p:=47) (v:=?vo_w24) (w1:=(wr.setCell ⟨go15,(x7_1:Int).toNat * 2 + 1,none⟩ (.int .i64 (wrap64 (((rd_T31 l0 x7_1).f1) + a2))))) ?hg ?ho ?hn ?hr ?_;(case ho=>rfl);(case hg=>rfl);(case hn=>rfl);(case hr=>first|(go_simp;done)|(go_simp;rfl));intro w24 hw;have hg:wr.grownBy w24 (some go15):=(by rw [hw];exact HP23.2);have hp_:Kd.N k31 31 w24 b (fun k_=>(P0_ k_∨w.heap.size≤k_)) (.slice (some ⟨go15,0,none⟩) l0.length co22) y212:=(by rw [hw,Ny212.out];exact HP23.1);clear HP23;have n0_:=Aside0.mk (hp_);have n1_:=Aside0.mk (Kd.V_afterv (v:=(.slice (some ⟨go15,0,none⟩) l0.length co22)) (v1:=(.slice (some ⟨go15,0,none⟩) l0.length co22)) (ok:=(fun k_=>(P0_ k_∨w.heap.size≤k_))) (zV HL207_0.out) hg (.inl rfl));have n2_:=Aside0.mk (Kd.V_afterv (v:=(.slice (some ⟨go15,0,none⟩) l0.length co22)) (v1:=(.slice (some ⟨go15,0,none⟩) l0.length co22)) (ok:=(fun k_=>(P0_ k_∨w.heap.size≤k_))) (zV HL209_0.out) hg (.inl rfl));have n3_:=Aside0.mk (Kd.V_afterv (v:=(.slice (some ⟨go15,0,none⟩) l0.length co22)) (v1:=(.slice (some ⟨go15,0,none⟩) l0.length co22)) (ok:=(fun k_=>(P0_ k_∨w.heap.size≤k_))) (zV HL211_0.out) hg (.inl rfl));have n4_:=Aside0.mk ((by rw [hw];exact below_setB (Below.mono HB.out HB0.out) GB15.out:Below b w w24));have HG:=Aside0.mk (World.grownBy.trans (grown_of_below HB.out _) hg);clear HO_0;clear HL207_0;clear HL209_0;clear HL211_0;clear HB;have HO_0:=n0_;have HL207_0:=n1_;have HL209_0:=n2_;have HL211_0:=n3_;have HB:=n4_;clear n0_ n1_ n2_ n3_ n4_;clear hg hw hp_;have p213:0≤(x7_1:Int):=zod;have q213:x7_1 < (y212.length:Int):=(by have h_:(x7_1:Int) < ((l0.length:Int):Int):=zod;first|(have e_:=(Kd.N_reads' HO_0.out).1;omega)|simpa only [Ny212.out,List.length_set] using h_);have ql213:((x7_1:Int) < ((l0.length:Int):Int))=True:=eq_true (zod);obtain ⟨ad213,A213_0,c213_0,e213,hx213_0,hx213_1,hl213_0,hi213_0⟩:=at_T31 (Kd.N_reads' HO_0.out).2.2 x7_1 p213 q213;obtain rfl:(⟨go15,0,none⟩:Addr)=ad213:=(by injection e213);obtain ⟨ce213,hce213,hMe213,hcc213⟩:=Kd.N_get HO_0.out z31 x7_1 p213 (by first|exact q213|exact zod|(have e_:=(Kd.N_reads' HO_0.out).1;omega));obtain ⟨ua213_0,uc213_0,rfl,ul213_0,ge213_0⟩:=k31_openF hMe213;have hv213_0:=hcc213 0 _ rfl;rw [Nat.add_zero] at hv213_0;replace hv213_0:=Option.some.inj (hv213_0.symm.trans hx213_0);injection hv213_0 with hva_ hvn_ hvc_;rw [hva_] at ge213_0;rw [hvc_] at ul213_0;have HL213_0:=Aside0.mk (show Kd.V (Kd.int .i64) 3 _ w.heap.size _ _ ((rd_T31 y212 x7_1).f0) from Kd.V_mk ul213_0 ge213_0);clear hva_ hvn_ hvc_ ge213_0 ul213_0;clear hcc213 hce213;(first|simp only [add_plain] at hx213_0|simp only [add_at] at hx213_0|simp only [Addr.add,Nat.zero_add] at hx213_0|skip);(first|simp only [add_plain] at hx213_1|simp only [add_at] at hx213_1|simp only [Addr.add,Nat.zero_add] at hx213_1|skip);have HR213_0:=Aside0.mk hi213_0;have HC213_0:=Aside0.mk hl213_0;clear hi213_0 hl213_0;replace p213:=eq_true p213;replace q213:=eq_true q213))
   have n0_:=Aside0.mk (Kd.N_drew HO_0.out)
   have n1_:=Aside0.mk (Kd.V_drew HL207_0.out)
   have n2_:=Aside0.mk (Kd.V_drew HL209_0.out)
   have n3_:=Aside0.mk (Kd.V_drew HL211_0.out)
   have n4_:=Aside0.mk (Kd.V_drew HL213_0.out)
   have n5_:=Aside0.mk (Kd.C_drew HR213_0.out)
   have n6_:=Aside0.mk (below_drew1 HB.out)
   clear HO_0
   clear HL207_0
   clear HL209_0
   clear HL211_0
   clear HL213_0
   clear HR213_0
   clear HB
   have HO_0:=n0_
   have HL207_0:=n1_
   have HL209_0:=n2_
   have HL211_0:=n3_
   have HL213_0:=n4_
   have HR213_0:=n5_
   have HB:=n6_
   clear n0_ n1_ n2_ n3_ n4_ n5_ n6_
   have hlx26:=(Kd.N_reads' HO_0.out).1
   have q26:(x7_1:Int)≤((l0.length:Int):Int):=zod
   obtain ⟨i026,hi026,_,hsz26,_⟩:=info_parts info31
   have hroom26:l0.length≤co22:=(Kd.N_reads' HO_0.out).2.1
   have hroomc26:y212.length≤co22:=(by rw [← hlx26];exact hroom26)
   have hC26:Kd.F k31 _ _ (some ⟨go15,0,none⟩) y212.length y212:=(Kd.V_at (base:=b) (Kd.N_V HO_0.out)).2.2
   have hcut26:=cut_to (P:=Tryd.prog) 23 31 .i64 Tryd.underlying23 hi026 (some ⟨go15,0,none⟩) l0.length co22 x7_1 (zod) q26 hroom26
   have hr26:=Kd.F_take (m:=(x7_1:Int).toNat) hC26 (by omega)
   have hy26:y214.length=(x7_1:Int).toNat:=(by rw [Ny214.out,List.length_take];omega)
   rw [← Ny214.out] at hr26
   rw [← hy26] at hcut26
   have HO218:=Aside0.mk (show Kd.V k31 31 _ w.heap.size _ (.slice (some ⟨go15,0,none⟩) y214.length co22) y214 from Kd.V_mk (by omega) hr26)
   have HC218:=Aside0.mk (show y214.length≤co22 from by omega)
   clear hr26 hC26 hroom26 hi026 hsz26 hroomc26
   have KY26:=Aside0.mk hy26
   clear hy26
   clear hlx26
   replace q26:=eq_true q26
   have hlx27:=(Kd.N_reads' HO_0.out).1
   have q27:((ji19):Int)≤((l0.length:Int):Int):=zod
   obtain ⟨i027,hi027,_,hsz27,_⟩:=info_parts info31
   have hroom27:l0.length≤co22:=(Kd.N_reads' HO_0.out).2.1
   have hroomc27:y212.length≤co22:=(by rw [← hlx27];exact hroom27)
   have hC27:Kd.F k31 _ _ (some ⟨go15,0,none⟩) y212.length y212:=(Kd.V_at (base:=b) (Kd.N_V HO_0.out)).2.2
   have q027:(0:Int)≤((ji19):Int):=zod
   have hcut27:=cut_from (P:=Tryd.prog) 23 31 .i64 Tryd.underlying23 hi027 2 hsz27 (some ⟨go15,0,none⟩) l0.length co22 (ji19) q027 q27
   have hr27:=Kd.F_cut (m:=((ji19):Int).toNat) (c:=co22) hC27 (by omega) hroomc27
   obtain ⟨A27,hA27⟩ : ∃ A1,A1=(if co22=((ji19):Int).toNat then (some ⟨go15,0,none⟩) else ((some ⟨go15,0,none⟩):Option Addr).map (·.add (((ji19):Int).toNat * 2))):=⟨_,rfl⟩
   obtain ⟨c27,hc27⟩ : ∃ c1,c1=co22 - ((ji19):Int).toNat:=⟨_,rfl⟩
   have hy27:y219.length=l0.length - ((ji19):Int).toNat:=(by rw [Ny219.out,List.length_drop] <;> omega)
   rw [show (y212).drop ((ji19):Int).toNat=y219 from Ny219.out.symm] at hr27
   replace hr27:Kd.F k31 _ _ A27 y219.length y219:=(by rw [hA27];exact hr27)
   rw [← hy27,← hA27,← hc27] at hcut27
   have HO223:=Aside0.mk (show Kd.V k31 31 _ w.heap.size _ (.slice A27 y219.length c27) y219 from Kd.V_mk (by rw [hy27,hc27];exact Nat.sub_le_sub_right hroom27 _) hr27)
   have HC223:=Aside0.mk (show y219.length≤c27 from by rw [hy27,hc27];exact Nat.sub_le_sub_right hroom27 _)
   clear hr27 hC27 hroom27 hi027 hsz27 hc27 hroomc27
   have KY27:=Aside0.mk hy27
   have KA27:=Aside0.mk hA27
   clear hy27 hA27
   clear hlx27
   replace q27:=eq_true q27
   refine start_ (n:=9) (S:=fun w'=>True) (ds:=[]) (zm 9 0) (by kernel_rfl) rfl rfl trivial (fun hHeld=>?_);refine with_tabW spec_l2Put.tab7 spec_l2Put.bits7 (fun HT_ HW_=>?_)
   have HGd:=Aside0.mk (grown_drewB HG.out)
   clear HG
   have HG:=HGd
   clear HGd
   generalize w24.drew=w25 at HO_0 HL207_0 HL209_0 HL211_0 HL213_0 HR213_0 HB HO218 HO223 HG hHeld ⊢
   refine zpu 0 54 9 1 ?_
   refine zpu 1 55 9 3 ?_
   refine zpu 2 56 9 7 ?_
   refine zpu 3 57 9 15 ?_
   refine zpu 4 58 9 31 ?_
   refine zpu 5 59 9 63 ?_
   refine zpu 6 60 9 127 ?_
   refine one_ (i:=7) (N:=some 61) (zm 9 255) rfl rfl (one_of HT_.out (by kernel_rfl)) (by decide) (fun K hK=>?_)
   have hj_:0≤(x7_1:Int):=zod
   have hl_:(ji19:Int)≤(l0.length:Int):=zod
   have hh_:(x7_1:Int)≤(l0.length:Int):=zod
   have hb_:=(Kd.N_reads' HO_0.out).2.2.2.1
   have hb1_:=(Kd.N_reads' HO_0.out).1
   have h0_:(0:Int)≤(ji19:Int):=zod
   have hy1_:=KY26.out
   have hk_:(ji19:Int).toNat=y214.length + 1:=(by have hw_:(ji19:Int)=x7_1 + 1:=(by have h00_:=h0_;rw [← hji19] at h00_ ⊢;unfold wrap64 at h00_ ⊢;omega);rw [hw_];omega)
   refine Kd.N_delete_step k31 (w0:=w) b (by rfl) (.tmp 56) (.tmp 60) 23 31 rfl Tryd.underlying23 (by kernel_rfl) (g:=go15) (n:=l0.length) (c:=co22) (k:=y214.length) rfl rfl ?hA ?hm (zN HO_0.out) ?hk zhb (Nat.le_trans HB0.out (below_sizeB zhb)) ?_
   (case hA=>have ha_:=KA27.out;rw [hk_] at ha_;exact ha_)
   (case hm=>have ha_:=KY27.out;omega)
   (case hk=>omega)
   intro w28 ho hb hg
   clear hj_ hl_ hh_ hb_ hk_ h0_
   rw [hy1_,← Ny224.out] at ho
   clear hy1_
   have hn_:l0.length - 1=y224.length:=(by have:=(Kd.N_reads' ho).1;omega)
   rw [hn_] at ho ⊢
   clear hn_
   have n0_:=Aside0.mk (ho)
   have n1_:=Aside0.mk (Kd.V_afterv (v:=(.slice (some ⟨go15,0,none⟩) l0.length co22)) (v1:=.slice (some ⟨go15,0,none⟩) y224.length co22) (ok:=(fun k_=>(P0_ k_∨w.heap.size≤k_))) (zV HL207_0.out) hg (.inl rfl))
   have n2_:=Aside0.mk (Kd.V_afterv (v:=(.slice (some ⟨go15,0,none⟩) l0.length co22)) (v1:=.slice (some ⟨go15,0,none⟩) y224.length co22) (ok:=(fun k_=>(P0_ k_∨w.heap.size≤k_))) (zV HL209_0.out) hg (.inl rfl))
   have n3_:=Aside0.mk (Kd.V_afterv (v:=(.slice (some ⟨go15,0,none⟩) l0.length co22)) (v1:=.slice (some ⟨go15,0,none⟩) y224.length co22) (ok:=(fun k_=>(P0_ k_∨w.heap.size≤k_))) (zV HL211_0.out) hg (.inl rfl))
   have n4_:=Aside0.mk (Kd.V_afterv (v:=(.slice (some ⟨go15,0,none⟩) l0.length co22)) (v1:=.slice (some ⟨go15,0,none⟩) y224.length co22) (ok:=(fun k_=>(P0_ k_∨w.heap.size≤k_))) (zV HL213_0.out) hg (.inl rfl))
   have n5_:=Aside0.mk (hb)
   clear HO_0
   clear HL207_0
   clear HL209_0
   clear HL211_0
   clear HL213_0
   clear HB
   have HO_0:=n0_
   have HL207_0:=n1_
   have HL209_0:=n2_
   have HL211_0:=n3_
   have HL213_0:=n4_
   have HB:=n5_
   clear n0_ n1_ n2_ n3_ n4_ n5_
   have HGd:=Aside0.mk (World.grownBy.trans HG.out hg)
   clear HG
   have HG:=HGd
   clear HGd
   clear ho hb hg
   refine hK.out _ _ trivial (fun hHeld=>?_)
   clear hK K
   refine norm_ (a':=?_) ?_ ?_
   rotate_left
   ·show Act.put _ (some 61) _=_
    simp only [Act.put,zp1,zp2,zp3,i64_w,i32_w]
    rfl
   refine zpu 8 6 9 511 ?_
   refine done_ (done_of HT_.out (by kernel_rfl)) ?_
   try go_wp2
   go_ret
   exact ⟨_,by first|rfl|(simp [errW_none,errW_some] <;> rfl)|(simp only [← hji19];first|rfl|(simp [errW_none,errW_some] <;> rfl)),Kd.N_mono HO_0.out (fun k_ (hk:P0_ k_∨w.heap.size≤k_)=>hk.elim id (HF0.out k_)),HBW.out.trans HB.out,HG.out,.inl rfl⟩
end Go.Proofs.YtlknceioincaeaaDoor.PFnJoin
