-- Written by wip/tools/pp.py, a program of this session over the kit's printer: not the kit's own print
import Derived.Test.YtgcplipimcbhlaaDoorPFnExactZReadx0
import Derived.Test.YtgcplipimcbhlaaDoorPFnExactZReadx5
import Derived.Test.YtgcplipimcbhlaaDoorPFnExactZReadx9
namespace Go.Proofs.YtgcplipimcbhlaaDoor.PFnExactZRead
open Go.RowKit Go.Proofs.YtgcplipimcbhlaaDoorW.PrintWords Go.Proofs.YtgcplipimcbhlaaDoorW.PrintLast Go.Proofs.YtgcplipimcbhlaaDoorW.PrintMore
attribute [local go_sem] max2_int min2_int max_two min_two max_three min_three max_four min_four   -- for this text's walks alone
set_option linter.unusedVariables false
set_option linter.unusedSimpArgs false

/-! ### laws_markIntS: function 29 -/
def laws_markIntS.l0:Nat→List Int→Int→Int→Option (Int × List Int)
 | 0,_,_,_=>none
 | k + 1,x0,x1,x5=>if x5 < (x0.length:Int) then (if 0≤x5 then (laws_markIntS.l0 k (x0.set (x5:Int).toNat x1) (wrap64 (x1 + 1)) (wrap64 (x5 + 1))) else (none)) else (some (x1,x0))
def laws_markIntS.f (k:Nat) (l0:List Int) (a1:Int):Option (Int × List Int):=laws_markIntS.l0 k l0 a1 0
theorem laws_markIntS.mono_l : ∀ k,(∀ y0 y1 y2,LeO (laws_markIntS.l0 k y0 y1 y2) (laws_markIntS.l0 (k + 1) y0 y1 y2))
 | 0=>fun _ _ _ r h=>by simp [laws_markIntS.l0] at h
 | k + 1=>by
  have ih0:=laws_markIntS.mono_l k
  ·intro y0 y1 y2
   unfold laws_markIntS.l0
   repeat' first
   | (with_reducible exact ih0 _ _ _)
   | (with_reducible exact LeO.refl _)
   | (with_reducible exact LeO.none _)
   | (with_reducible refine LeO.ite ?_ ?_)
   | (with_reducible refine LeO.bind ?_ (fun _=>?_))
   | exact LeO.none _
   | refine LeO.ite ?_ ?_
   | refine LeO.bind ?_ (fun _=>?_)
theorem laws_markIntS.mono : ∀ a0 a1 k,LeO (laws_markIntS.f k a0 a1) (laws_markIntS.f (k + 1) a0 a1):=by
 intro a0 a1 k
 have ih0:=laws_markIntS.mono_l k
 unfold laws_markIntS.f
 repeat' first
   | (with_reducible exact ih0 _ _ _)
   | (with_reducible exact LeO.refl _)
   | (with_reducible exact LeO.none _)
   | (with_reducible refine LeO.ite ?_ ?_)
   | (with_reducible refine LeO.bind ?_ (fun _=>?_))
   | exact LeO.none _
   | refine LeO.ite ?_ ?_
   | refine LeO.bind ?_ (fun _=>?_)
set_option maxHeartbeats 8000000 in
set_option maxRecDepth 100000 in
theorem laws_markIntS.calls (k:Nat) (P0_:Nat→Prop) (u9000_:Value) (l0:List Int) (a1:Int) (r1:Int) (r2:List Int) (w0 w:World) (hB:Below w0.heap.size w0 w) (ho0:Kd.R (Kd.int .i64) 3 w w0.heap.size P0_ u9000_ l0) (h:laws_markIntS.f k l0 a1=some (r1,r2)) :
  Calls Tryd.prog 29 #[u9000_,.int .i64 a1] w fun e w'=>e=.returned (.int .i64 r1)∧Kd.R (Kd.int .i64) 3 w' w0.heap.size (fun k_=>(P0_ k_∨w.heap.size≤k_)) u9000_ r2∧Below w0.heap.size w0 w'∧Kept w w' (fun k_=>P0_ k_):=by
 have HO0:=Aside0.mk (show Kd.R (Kd.int .i64) 3 w w0.heap.size (fun k_=>(P0_ k_∨w.heap.size≤k_)) u9000_ l0 from Kd.R_mono ho0 (fun k_ hk=>(.inl hk)))
 have HK:=Aside0.mk (Kept.refl w (fun k_=>P0_ k_))
 have HW0:=Aside0.mk hB.size
 have HB:=Aside0.mk hB
 clear hB
 have H:(laws_markIntS.l0 k l0 a1 0)=some (r1,r2):=h
 clear h
 have H':=Aside0.mk H
 clear H
 go_enter Tryd.func29,Tryd.ntmps29
 go_wp2
 go_loopg [1,5] k (fun kq v1 v5 w'=>∃ (x0_1:List Int) (x1_1:Int) (x5_1:Int),v1=.int .i64 x1_1∧v5=.int .i64 x5_1∧Aside0 (laws_markIntS.l0 kq x0_1 x1_1 x5_1=some (r1,r2))∧Aside0 (kq≤k)∧Aside0 (Kd.R (Kd.int .i64) 3 w' w0.heap.size (fun k_=>(P0_ k_∨w.heap.size≤k_)) u9000_ x0_1)∧Aside0 (Kept w w' (fun k_=>P0_ k_))∧Aside0 (Below w0.heap.size w0 w'))
 case atStart=>exact ⟨(l0),(a1),(0),(by first|rfl|(simp;done)|(simp [*];done)),(by first|rfl|(simp;done)|(simp [*];done)),H',⟨Nat.le_refl _⟩,⟨by (with_reducible repeat (first|apply Kd.R_alloc|apply Kd.R_drewN|apply Kd.R_drew));exact HO0.out⟩,⟨zhq⟩,⟨zhb⟩⟩
 case round =>
  clear H'
  try clear c2
  try clear p2
  obtain ⟨x0_1,x1_1,x5_1,rfl,rfl,HA,HK1,HO_0,HK,HB⟩:=hrel
  cases gk with
  | zero=>exact absurd HA.out (by simp [laws_markIntS.l0])
  | succ k1 =>
   have H:=HA.out
   clear HA
   simp only [laws_markIntS.l0] at H
   by_cases c3:x5_1 < (x0_1.length:Int)
   ·rw [if_pos c3] at H
    have c3b0:decide (x5_1 < (x0_1.length:Int))=true:=decide_eq_true c3
    clear c3
    by_cases c4:0≤x5_1
    ·rw [if_pos c4] at H
     have c4b0:decide (0≤x5_1)=true:=decide_eq_true c4
     clear c4
     obtain ⟨y213,hy213⟩ : ∃ y_:List Int,y_=(x0_1.set (x5_1:Int).toNat x1_1):=⟨_,rfl⟩
     replace H:(laws_markIntS.l0 k1 y213 (wrap64 (x1_1 + 1)) (wrap64 (x5_1 + 1)))=some (r1,r2):=by first|(rw [hy213];with_reducible exact H)|(have H2_:=(Option.bind_some _ _).symm.trans H;rw [hy213];with_reducible exact H2_)|(have H2_:=(Option.bind_some _ _).symm.trans H;with_reducible exact H2_)|with_reducible exact H|(rw [hy213];exact H)|exact H
     have Ny213:=Aside0.mk hy213
     clear hy213
     have H':=Aside0.mk H
     clear H
     obtain ⟨Ao6,co6,eo6⟩:=Kd.R_slice HO_0.out
     subst eo6
     have p5:0≤(x5_1:Int):=zod
     have q5:(x5_1:Int) < ((x0_1.length:Int):Int):=zod
     obtain ⟨go5,co5,eo5,gb5,gl5,cl5,HG5⟩:=Kd.R_form HO_0.out (by omega)
     (first|cases eo5|(injection eo5 with ea_ en_ ec_;(first|subst ea_|(injection ea_ with ea_;subst ea_));subst ec_;clear en_))
     have GB5:=Aside0.mk gb5
     have GG5:=Aside0.mk HG5
     clear gb5 gl5 HG5
     have HMgo5:=Aside0.mk (show (P0_ go5∨w.heap.size≤go5) from (HO_0.out.1 _ rfl))
     obtain ⟨hx5_0,hf5_0⟩:=Kd.R_celln 0 HO_0.out (x5_1:Int) p5 q5
     replace p5:=eq_true p5
     replace q5:=eq_true q5
     have HP7:=Kd.R_putg HO_0.out (x5_1:Int) x1_1
     go_wp2_with (first|((with_reducible refine gate_store (t:=3) (p:=15) rfl ?_);refine store_event (t:=3) (p:=15) (v:=?vo_w8) (w1:=(wr.setCell ⟨go5,(x5_1:Int).toNat,none⟩ (.int .i64 x1_1))) ?hg ?ho ?hn ?hr ?_;(case ho=>rfl);(case hg=>rfl);(case hn=>rfl);(case hr=>first|(go_simp;done)|(go_simp;rfl));intro w8 hw;have hg:wr.grownBy w8 (some go5):=(by rw [hw];exact HP7.2);have hp_:Kd.R (Kd.int .i64) 3 w8 w0.heap.size (fun k_=>(P0_ k_∨w.heap.size≤k_)) (.slice (some ⟨go5,0,none⟩) x0_1.length co6) y213:=(by rw [hw,Ny213.out];exact HP7.1);clear HP7;have n0_:=Aside0.mk (hp_);have n1_:=Aside0.mk ((by rw [hw];exact below_set (HB.out) GB5.out:Below w0.heap.size w0 w8));have n2_:=Aside0.mk (Kept.of_grown (S:=(fun k_=>P0_ k_)) hg zhq (fun k_ e_=>(HO_0.out.1 k_ e_)));clear HO_0;clear HB;clear HK;have HO_0:=n0_;have HB:=n1_;have HK:=n2_;clear n0_ n1_ n2_;clear hg hw hp_))
     go_roundg k1
     case measure=>have:=HK1.out;omega
     case rel=>exact ⟨(y213),(wrap64 (x1_1 + 1)),(wrap64 (x5_1 + 1)),(by first|rfl|(simp;done)|(simp [*];done)),(by first|rfl|(simp;done)|(simp [*];done)),H',⟨by have:=HK1.out;omega⟩,⟨by (with_reducible repeat (first|apply Kd.R_alloc|apply Kd.R_drewN|apply Kd.R_drew));exact HO_0.out⟩,⟨zhq⟩,⟨zhb⟩⟩
    ·rw [if_neg c4] at H
     exact absurd H (by simp)
   ·rw [if_neg c3] at H
    have c3b0:decide (x5_1 < (x0_1.length:Int))=false:=decide_eq_false c3
    clear c3
    simp only [Option.some.injEq,Prod.mk.injEq] at H
    obtain ⟨rfl,rfl⟩:=H
    obtain ⟨Ao9,co9,eo9⟩:=Kd.R_slice HO_0.out
    subst eo9
    go_wp2
    go_ret
    exact ⟨by first|rfl|(simp [errW_none,errW_some] <;> rfl)|(simp [*,errW_none,errW_some] <;> rfl),by (with_reducible repeat (first|apply Kd.R_alloc|apply Kd.R_drewN|apply Kd.R_drew));exact HO_0.out,zhb,zhq⟩

/-! ### laws_markItemS: function 12 (by hand) -/
def laws_markItemS.l0:Nat→List (S53)→Int→Int→Option (Int × List (S53))
 | 0,_,_,_=>none
 | k + 1,x0,x1,x5=>if x5 < (x0.length:Int) then (if 0≤x5 then ((laws_markIntS.f k ((rd_T53 x0 x5).f0) x1).bind fun t=>(laws_markItemS.l0 k (x0.set (x5:Int).toNat (⟨t.2,t.1⟩:S53)) (wrap64 (t.1 + 1)) (wrap64 (x5 + 1)))) else (none)) else (some (x1,x0))
def laws_markItemS.f (k:Nat) (l0:List (S53)) (a1:Int):Option (Int × List (S53)):=laws_markItemS.l0 k l0 a1 0
theorem laws_markItemS.mono_l : ∀ k,(∀ y0 y1 y2,LeO (laws_markItemS.l0 k y0 y1 y2) (laws_markItemS.l0 (k + 1) y0 y1 y2))
 | 0=>fun _ _ _ r h=>by simp [laws_markItemS.l0] at h
 | k + 1=>by
  have ih0:=laws_markItemS.mono_l k
  ·intro y0 y1 y2
   unfold laws_markItemS.l0
   repeat' first
   | (with_reducible exact ih0 _ _ _)
   | (with_reducible exact laws_markIntS.mono _ _ _)
   | (with_reducible exact LeO.refl _)
   | (with_reducible exact LeO.none _)
   | (with_reducible refine LeO.ite ?_ ?_)
   | (with_reducible refine LeO.bind ?_ (fun _=>?_))
   | exact LeO.none _
   | refine LeO.ite ?_ ?_
   | refine LeO.bind ?_ (fun _=>?_)
theorem laws_markItemS.mono : ∀ a0 a1 k,LeO (laws_markItemS.f k a0 a1) (laws_markItemS.f (k + 1) a0 a1):=by
 intro a0 a1 k
 exact laws_markItemS.mono_l k _ _ _
/-- Element i of a row is lent to what writes its inner row, and its number is stored; then it is put back. -/
theorem laws_markItemS.lend {w0 W:World} {ok:Nat→Prop} {g cap:Nat} {xs:List S53} {i:Int} (h:Kd.S k53 53 W w0.heap.size ok (.slice (some ⟨g,0,none⟩) xs.length cap) xs) (h0:0≤i) (h1:i < xs.length) :
  ∃ (oki:Nat→Prop) (v:Value),(Kd.int .i64).R 3 W w0.heap.size oki v (rd_T53 xs i).f0∧(∀ k,oki k→ok k∧k≠g)∧W.cell? ⟨g,i.toNat * 2,none⟩=some v∧W.cell? ⟨g,i.toNat * 2 + 1,none⟩=some (.int .i64 (rd_T53 xs i).f1) ∧
   (∀ j,W.frozen? ⟨g,i.toNat * 2 + j,none⟩=false)∧g < W.heap.size∧w0.heap.size≤g ∧
   ∀ (W1:World) (l:List Int) (t:Int),Kept W W1 oki→(Kd.int .i64).R 3 W1 w0.heap.size oki v l→(W1.heap[g]?=W.heap[g]?) ∧
    Kd.S k53 53 (W1.setCell ⟨g,i.toNat * 2 + 1,none⟩ (.int .i64 t)) w0.heap.size ok (.slice (some ⟨g,0,none⟩) xs.length cap) (xs.set i.toNat ⟨l,t⟩)∧W1.grownBy (W1.setCell ⟨g,i.toNat * 2 + 1,none⟩ (.int .i64 t)) (some g):=by
 obtain ⟨oki,c,hcl,hM,hcc,hfr,hoki,hH⟩:=Kd.S_elem h z53 i h0 h1
 obtain ⟨v,rfl,hR⟩:=k53_openM hM
 have hgl:g < W.heap.size:=Kd.S_lt h g rfl
 refine ⟨oki,v,hR,hoki,hcc 0 _ rfl,hcc 1 _ rfl,hfr,hgl,Kd.S_base h g rfl,fun W1 l t hk hl=>?_⟩
 have hH1:Kd.H k53 53 W1 w0.heap.size (fun k=>ok k∧¬ False) (.slice (some ⟨g,0,none⟩) xs.length cap) xs i oki [v,.int .i64 (rd_T53 xs i).f1] :=
  Kd.H_mono (Kd.H_step hH (fun k _ hn hlt=>hk.2 k hlt hn)) (fun k hk=>⟨hk,fun h=>h⟩)
 have hs:=Kd.S_seg (okg:=fun _=>False) (okp:=oki) hH1 h0 h1 (seg:=[.int .i64 t]) (j:=1) (show 1 + 1≤2 from Nat.le_refl _) (x':=⟨l,t⟩) (k53_mkM _ _ _ (⟨l,t⟩:S53) hl) (fun _ hk=>.inl hk) (fun _ hk=>hk.elim)
 exact ⟨hk.2 g hgl (fun hg=>(hoki g hg).2 rfl),hs⟩
set_option maxHeartbeats 8000000 in
set_option maxRecDepth 100000 in
theorem laws_markItemS.calls (k:Nat) (P0_:Nat→Prop) (u9000_:Value) (l0:List (S53)) (a1:Int) (r1:Int) (r2:List (S53)) (w0 w:World) (hB:Below w0.heap.size w0 w) (ho0:Kd.S k53 53 w w0.heap.size P0_ u9000_ l0) (h:laws_markItemS.f k l0 a1=some (r1,r2)) :
  Calls Tryd.prog 12 #[u9000_,.int .i64 a1] w fun e w'=>e=.returned (.int .i64 r1)∧Kd.S k53 53 w' w0.heap.size P0_ u9000_ r2∧Below w0.heap.size w0 w'∧Kept w w' (fun k_=>P0_ k_):=by
 have HO0:=Aside0.mk ho0
 have HK:=Aside0.mk (Kept.refl w (fun k_=>P0_ k_))
 have HW0:=Aside0.mk hB.size
 have HB:=Aside0.mk hB
 clear hB ho0
 have H:(laws_markItemS.l0 k l0 a1 0)=some (r1,r2):=h
 clear h
 have H':=Aside0.mk H
 clear H
 go_enter Tryd.func12,Tryd.ntmps12
 go_wp2
 go_loopg [1,5] k (fun kq v1 v5 w'=>∃ (x0_1:List S53) (x1_1:Int) (x5_1:Int),v1=.int .i64 x1_1∧v5=.int .i64 x5_1∧Aside0 (laws_markItemS.l0 kq x0_1 x1_1 x5_1=some (r1,r2))∧Aside0 (kq≤k)∧Aside0 (Kd.S k53 53 w' w0.heap.size P0_ u9000_ x0_1)∧Aside0 (Kept w w' (fun k_=>P0_ k_))∧Aside0 (Below w0.heap.size w0 w'))
 case atStart=>exact ⟨(l0),(a1),(0),(by first|rfl|(simp;done)|(simp [*];done)),(by first|rfl|(simp;done)|(simp [*];done)),H',⟨Nat.le_refl _⟩,⟨by (with_reducible repeat (first|apply Kd.S_alloc|apply Kd.S_drewN|apply Kd.S_drew));exact HO0.out⟩,⟨zhq⟩,⟨zhb⟩⟩
 case round =>
  clear H'
  try clear p2
  obtain ⟨x0_1,x1_1,x5_1,rfl,rfl,HA,HK1,HO_0,HK,HB⟩:=hrel
  cases gk with
  | zero=>exact absurd HA.out (by simp [laws_markItemS.l0])
  | succ k1 =>
   have H:=HA.out
   clear HA
   simp only [laws_markItemS.l0] at H
   by_cases c3:x5_1 < (x0_1.length:Int)
   ·rw [if_pos c3] at H
    have c3b0:decide (x5_1 < (x0_1.length:Int))=true:=decide_eq_true c3
    by_cases c4:0≤x5_1
    ·rw [if_pos c4] at H
     have c4b0:decide (0≤x5_1)=true:=decide_eq_true c4
     replace H:=Option.bind_eq_some_iff.mp H
     obtain ⟨⟨t1,t2⟩,A50,H⟩:=H
     (try dsimp only at H)
     have A5:=Aside0.mk A50
     clear A50
     have H':=Aside0.mk H
     clear H
     obtain ⟨go5,co5,eo5,_,_,_⟩:=Kd.S_form HO_0.out (by omega)
     subst eo5
     obtain ⟨oki,vi,hRi,hoki,hc0,hc1,hfz,hgl,hgb,hback⟩:=laws_markItemS.lend HO_0.out c4 c3
     have hfz1:=hfz 1
     clear hfz
     have OKI:=Aside0.mk hoki
     have RI:=Aside0.mk hRi
     have GL:=Aside0.mk hgl
     have GB:=Aside0.mk hgb
     have BACK:=Aside0.mk hback
     clear hoki hRi hgl hgb hback
     have q5:(x5_1 < ((x0_1.length:Int):Int))=True:=eq_true c3
     have p5:(0≤(x5_1:Int))=True:=eq_true c4
     clear c3 c4
     go_wp2_with (first
      | ((with_reducible refine gate_callee (f:=29) rfl ?_);refine goesL_ (some 18) rfl rfl Tryd.func29 (by kernel_rfl) rfl #[vi,.int .i64 x1_1] rfl zar ?_;(with_reducible refine (laws_markIntS.calls k1 oki vi ((rd_T53 x0_1 x5_1).f0) x1_1 t1 t2 w0 _ ?side1 ?side2 A5.out).mono ?_);(case side1=>exact HB.out);(case side2=>exact RI.out);rintro e w8 ⟨rfl,hr,hb,hk⟩;refine ⟨_,rfl,?_⟩;obtain ⟨hgo,hS,hgr⟩:=BACK.out w8 t2 t1 hk (Kd.R_mono (Kd.R_tight rfl hr) (fun k_ hk_=>(RI.out.1 k_ hk_.symm)));have c1:w8.cell? ⟨go5,(x5_1:Int).toNat * 2 + 1,none⟩=some (.int .i64 (rd_T53 x0_1 x5_1).f1):=(by have hc1_:=hc1;simp only [World.cell?] at hc1_ ⊢;rw [hgo];exact hc1_);have f1:w8.frozen? ⟨go5,(x5_1:Int).toNat * 2 + 1,none⟩=false:=(by have hf_:=hfz1;simp only [World.frozen?] at hf_ ⊢;rw [hgo];exact hf_);have HS:=Aside0.mk hS;have HGR:=Aside0.mk hgr;have HB2:=Aside0.mk hb;have HK2:=Aside0.mk (Kept.then_ HK.out hk (fun k_ hs_=>.inl (OKI.out k_ hs_).1));clear hgo hS hgr hb hk hr hc0 hc1 hfz1))
     go_roundg k1
     case measure=>have:=HK1.out;omega
     case rel=>exact ⟨_,(wrap64 (t1 + 1)),(wrap64 (x5_1 + 1)),(by first|rfl|(simp;done)|(simp [*];done)),(by first|rfl|(simp;done)|(simp [*];done)),H',⟨by have:=HK1.out;omega⟩,⟨HS.out⟩,⟨Kept.of_grown HGR.out HK2.out (fun k_ e_=>.inl ((Kd.S_R HO_0.out).1 k_ e_))⟩,⟨below_set HB2.out GB.out⟩⟩
    ·rw [if_neg c4] at H
     exact absurd H (by simp)
   ·rw [if_neg c3] at H
    have c3b0:decide (x5_1 < (x0_1.length:Int))=false:=decide_eq_false c3
    clear c3
    simp only [Option.some.injEq,Prod.mk.injEq] at H
    obtain ⟨rfl,rfl⟩:=H
    obtain ⟨Ao9,co9,eo9⟩:=Kd.S_slice HO_0.out
    subst eo9
    go_wp2
    go_ret
    exact ⟨by first|rfl|(simp [errW_none,errW_some] <;> rfl)|(simp [*,errW_none,errW_some] <;> rfl),by (with_reducible repeat (first|apply Kd.S_alloc|apply Kd.S_drewN|apply Kd.S_drew));exact HO_0.out,zhb,zhq⟩

/-! ### laws_heldIntS: function 30 -/
def laws_heldIntS.l0:Nat→List Int→Int→Int→Option (Int)
 | 0,_,_,_=>none
 | k + 1,x0,x1,x5=>if x5 < (x0.length:Int) then (if 0≤x5 then (if (rd x0 x5)=x1 then (laws_heldIntS.l0 k x0 (wrap64 (x1 + 1)) (wrap64 (x5 + 1))) else (some (-1))) else (none)) else (some x1)
def laws_heldIntS.f (k:Nat) (l0:List Int) (a1:Int):Option (Int):=laws_heldIntS.l0 k l0 a1 0
theorem laws_heldIntS.mono_l : ∀ k,(∀ y0 y1 y2,LeO (laws_heldIntS.l0 k y0 y1 y2) (laws_heldIntS.l0 (k + 1) y0 y1 y2))
 | 0=>fun _ _ _ r h=>by simp [laws_heldIntS.l0] at h
 | k + 1=>by
  have ih0:=laws_heldIntS.mono_l k
  ·intro y0 y1 y2
   unfold laws_heldIntS.l0
   repeat' first
   | (with_reducible exact ih0 _ _ _)
   | (with_reducible exact LeO.refl _)
   | (with_reducible exact LeO.none _)
   | (with_reducible refine LeO.ite ?_ ?_)
   | (with_reducible refine LeO.bind ?_ (fun _=>?_))
   | exact LeO.none _
   | refine LeO.ite ?_ ?_
   | refine LeO.bind ?_ (fun _=>?_)
theorem laws_heldIntS.mono : ∀ a0 a1 k,LeO (laws_heldIntS.f k a0 a1) (laws_heldIntS.f (k + 1) a0 a1):=by
 intro a0 a1 k
 have ih0:=laws_heldIntS.mono_l k
 unfold laws_heldIntS.f
 repeat' first
   | (with_reducible exact ih0 _ _ _)
   | (with_reducible exact LeO.refl _)
   | (with_reducible exact LeO.none _)
   | (with_reducible refine LeO.ite ?_ ?_)
   | (with_reducible refine LeO.bind ?_ (fun _=>?_))
   | exact LeO.none _
   | refine LeO.ite ?_ ?_
   | refine LeO.bind ?_ (fun _=>?_)
set_option maxHeartbeats 8000000 in
set_option maxRecDepth 100000 in
theorem laws_heldIntS.calls (k:Nat) (A0:Option Addr) (c0:Nat) (l0:List Int) (a1:Int) (r:Int) (w:World) (hr0:Kd.C (Kd.int .i64) w A0 l0.length l0) (hc0:l0.length≤c0) (h:laws_heldIntS.f k l0 a1=some r) :
  Calls Tryd.prog 30 #[.slice A0 l0.length c0,.int .i64 a1] w fun e w'=>e=.returned (.int .i64 r)∧Drawn0 w w':=by
 have HR0:=Aside0.mk hr0
 have HC0:=Aside0.mk hc0
 clear hr0 hc0
 have H:(laws_heldIntS.l0 k l0 a1 0)=some r:=h
 clear h
 have H':=Aside0.mk H
 clear H
 go_enter Tryd.func30,Tryd.ntmps30
 go_wp2
 go_loopg [1,5] k (fun kq v1 v5 w'=>∃ (x1_1:Int) (x5_1:Int),v1=.int .i64 x1_1∧v5=.int .i64 x5_1∧Aside0 (laws_heldIntS.l0 kq l0 x1_1 x5_1=some r)∧Aside0 (kq≤k)∧Drawn0 w w')
 case atStart=>exact ⟨(a1),(0),(by first|rfl|(simp;done)|(simp [*];done)),(by first|rfl|(simp;done)|(simp [*];done)),H',⟨Nat.le_refl _⟩,zdw⟩
 case round =>
  clear H'
  try clear p2
  obtain ⟨x1_1,x5_1,rfl,rfl,HA,HK1,⟨m1,rfl⟩⟩:=hrel
  cases gk with
  | zero=>exact absurd HA.out (by simp [laws_heldIntS.l0])
  | succ k1 =>
   have H:=HA.out
   clear HA
   simp only [laws_heldIntS.l0] at H
   by_cases c3:x5_1 < (l0.length:Int)
   ·rw [if_pos c3] at H
    have c3b0:decide (x5_1 < (l0.length:Int))=true:=decide_eq_true c3
    clear c3
    by_cases c4:0≤x5_1
    ·rw [if_pos c4] at H
     have c4b0:decide (0≤x5_1)=true:=decide_eq_true c4
     clear c4
     by_cases c5:(rd l0 x5_1)=x1_1
     ·rw [if_pos c5] at H
      have c5b0:((rd l0 x5_1) == x1_1)=true:=beq_iff_eq.mpr c5
      have c5b1:((rd l0 x5_1) != x1_1)=false:=bne_eq_false_iff_eq.mpr c5
      clear c5
      have H':=Aside0.mk H
      clear H
      have p214:0≤(x5_1:Int):=zod
      have q214:x5_1 < (l0.length:Int):=zod
      obtain ⟨ad214,e214,hx214_0⟩:=Kd.at_int HR0.out x5_1 p214 q214
      cases e214
      replace p214:=eq_true p214
      replace q214:=eq_true q214
      go_wp2
      go_roundg k1
      case measure=>have:=HK1.out;omega
      case rel=>exact ⟨(wrap64 (x1_1 + 1)),(wrap64 (x5_1 + 1)),(by first|rfl|(simp;done)|(simp [*];done)),(by first|rfl|(simp;done)|(simp [*];done)),H',⟨by have:=HK1.out;omega⟩,zdw⟩
     ·rw [if_neg c5] at H
      have c5b0:((rd l0 x5_1) == x1_1)=false:=beq_eq_false_iff_ne.mpr c5
      have c5b1:((rd l0 x5_1) != x1_1)=true:=bne_iff_ne.mpr c5
      obtain rfl:=Option.some.inj H
      have p214:0≤(x5_1:Int):=zod
      have q214:x5_1 < (l0.length:Int):=zod
      obtain ⟨ad214,e214,hx214_0⟩:=Kd.at_int HR0.out x5_1 p214 q214
      cases e214
      replace p214:=eq_true p214
      replace q214:=eq_true q214
      go_wp2
      go_ret
      exact ⟨by first|rfl|(simp;done)|(simp [*];done),zdw⟩
    ·rw [if_neg c4] at H
     exact absurd H (by simp)
   ·rw [if_neg c3] at H
    have c3b0:decide (x5_1 < (l0.length:Int))=false:=decide_eq_false c3
    clear c3
    obtain rfl:=Option.some.inj H
    go_wp2
    go_ret
    exact ⟨by first|rfl|(simp;done)|(simp [*];done),zdw⟩

/-! ### laws_heldItemS: function 13 -/
def laws_heldItemS.l0:Nat→List (S53)→Int→Int→Option (Int)
 | 0,_,_,_=>none
 | k + 1,x0,x1,x5=>if x5 < (x0.length:Int) then (if 0≤x5 then ((laws_heldIntS.f k ((rd_T53 x0 x5).f0) x1).bind fun t216=>(if t216 < 0 then (some (-1)) else (if ((rd_T53 x0 x5).f1)=t216 then (laws_heldItemS.l0 k x0 (wrap64 (t216 + 1)) (wrap64 (x5 + 1))) else (some (-1))))) else (none)) else (some x1)
def laws_heldItemS.f (k:Nat) (l0:List (S53)) (a1:Int):Option (Int):=laws_heldItemS.l0 k l0 a1 0
theorem laws_heldItemS.mono_l : ∀ k,(∀ y0 y1 y2,LeO (laws_heldItemS.l0 k y0 y1 y2) (laws_heldItemS.l0 (k + 1) y0 y1 y2))
 | 0=>fun _ _ _ r h=>by simp [laws_heldItemS.l0] at h
 | k + 1=>by
  have ih0:=laws_heldItemS.mono_l k
  ·intro y0 y1 y2
   unfold laws_heldItemS.l0
   repeat' first
   | (with_reducible exact ih0 _ _ _)
   | (with_reducible exact laws_heldIntS.mono _ _ _)
   | (with_reducible exact LeO.refl _)
   | (with_reducible exact LeO.none _)
   | (with_reducible refine LeO.ite ?_ ?_)
   | (with_reducible refine LeO.bind ?_ (fun _=>?_))
   | exact LeO.none _
   | refine LeO.ite ?_ ?_
   | refine LeO.bind ?_ (fun _=>?_)
theorem laws_heldItemS.mono : ∀ a0 a1 k,LeO (laws_heldItemS.f k a0 a1) (laws_heldItemS.f (k + 1) a0 a1):=by
 intro a0 a1 k
 have ih0:=laws_heldItemS.mono_l k
 unfold laws_heldItemS.f
 repeat' first
   | (with_reducible exact ih0 _ _ _)
   | (with_reducible exact laws_heldIntS.mono _ _ _)
   | (with_reducible exact LeO.refl _)
   | (with_reducible exact LeO.none _)
   | (with_reducible refine LeO.ite ?_ ?_)
   | (with_reducible refine LeO.bind ?_ (fun _=>?_))
   | exact LeO.none _
   | refine LeO.ite ?_ ?_
   | refine LeO.bind ?_ (fun _=>?_)
set_option maxHeartbeats 8000000 in
set_option maxRecDepth 100000 in
theorem laws_heldItemS.calls (k:Nat) (A0:Option Addr) (c0:Nat) (l0:List (S53)) (a1:Int) (r:Int) (w:World) (hr0:Kd.C k53 w A0 l0.length l0) (hc0:l0.length≤c0) (h:laws_heldItemS.f k l0 a1=some r) :
  Calls Tryd.prog 13 #[.slice A0 l0.length c0,.int .i64 a1] w fun e w'=>e=.returned (.int .i64 r)∧Drawn0 w w':=by
 have HR0:=Aside0.mk hr0
 have HC0:=Aside0.mk hc0
 clear hr0 hc0
 have H:(laws_heldItemS.l0 k l0 a1 0)=some r:=h
 clear h
 have H':=Aside0.mk H
 clear H
 go_enter Tryd.func13,Tryd.ntmps13
 go_wp2
 go_loopg [1,5] k (fun kq v1 v5 w'=>∃ (x1_1:Int) (x5_1:Int),v1=.int .i64 x1_1∧v5=.int .i64 x5_1∧Aside0 (laws_heldItemS.l0 kq l0 x1_1 x5_1=some r)∧Aside0 (kq≤k)∧Drawn0 w w')
 case atStart=>exact ⟨(a1),(0),(by first|rfl|(simp;done)|(simp [*];done)),(by first|rfl|(simp;done)|(simp [*];done)),H',⟨Nat.le_refl _⟩,zdw⟩
 case round =>
  clear H'
  try clear c1
  try clear p2
  obtain ⟨x1_1,x5_1,rfl,rfl,HA,HK1,⟨m1,rfl⟩⟩:=hrel
  cases gk with
  | zero=>exact absurd HA.out (by simp [laws_heldItemS.l0])
  | succ k1 =>
   have H:=HA.out
   clear HA
   simp only [laws_heldItemS.l0] at H
   by_cases c3:x5_1 < (l0.length:Int)
   ·rw [if_pos c3] at H
    have c3b0:decide (x5_1 < (l0.length:Int))=true:=decide_eq_true c3
    clear c3
    by_cases c4:0≤x5_1
    ·rw [if_pos c4] at H
     have c4b0:decide (0≤x5_1)=true:=decide_eq_true c4
     clear c4
     replace H:=Option.bind_eq_some_iff.mp H
     obtain ⟨t216,A50,H⟩:=H
     (try dsimp only at H)
     have A5:=Aside0.mk A50
     clear A50
     by_cases c6:t216 < 0
     ·rw [if_pos c6] at H
      have c6b0:decide (t216 < 0)=true:=decide_eq_true c6
      clear c6
      obtain rfl:=Option.some.inj H
      have p215:0≤(x5_1:Int):=zod
      have q215:x5_1 < (l0.length:Int):=zod
      obtain ⟨ad215,A215_0,c215_0,e215,hx215_0,hx215_1,hl215_0,hi215_0⟩:=at_T53 HR0.out x5_1 p215 q215
      cases e215
      have HR215_0:=Aside0.mk hi215_0
      have HC215_0:=Aside0.mk hl215_0
      clear hi215_0 hl215_0
      replace p215:=eq_true p215
      replace q215:=eq_true q215
      go_wp2_with (first|((with_reducible refine gate_callee (f:=30) rfl ?_);refine goesL_ (some 18) rfl rfl Tryd.func30 (by kernel_rfl) rfl #[.slice A215_0 ((rd_T53 l0 x5_1).f0).length c215_0,.int .i64 x1_1] rfl zar ?_;(with_reducible refine (laws_heldIntS.calls k1 _ _ ((rd_T53 l0 x5_1).f0) x1_1 t216 _ ?side1 ?side2 A5.out).mono ?_);(case side1=>exact zC HR215_0.out);(case side2=>exact HC215_0.out);rintro e w' ⟨rfl,⟨nd,rfl⟩⟩;refine ⟨_,rfl,?_⟩))
      go_ret
      exact ⟨by first|rfl|(simp;done)|(simp [*];done),zdw⟩
     ·rw [if_neg c6] at H
      have c6b0:decide (t216 < 0)=false:=decide_eq_false c6
      clear c6
      by_cases c7:((rd_T53 l0 x5_1).f1)=t216
      ·rw [if_pos c7] at H
       have c7b0:(((rd_T53 l0 x5_1).f1) == t216)=true:=beq_iff_eq.mpr c7
       have c7b1:(((rd_T53 l0 x5_1).f1) != t216)=false:=bne_eq_false_iff_eq.mpr c7
       clear c7
       have H':=Aside0.mk H
       clear H
       have p215:0≤(x5_1:Int):=zod
       have q215:x5_1 < (l0.length:Int):=zod
       obtain ⟨ad215,A215_0,c215_0,e215,hx215_0,hx215_1,hl215_0,hi215_0⟩:=at_T53 HR0.out x5_1 p215 q215
       cases e215
       have HR215_0:=Aside0.mk hi215_0
       have HC215_0:=Aside0.mk hl215_0
       clear hi215_0 hl215_0
       replace p215:=eq_true p215
       replace q215:=eq_true q215
       go_wp2_with (first|((with_reducible refine gate_callee (f:=30) rfl ?_);refine goesL_ (some 18) rfl rfl Tryd.func30 (by kernel_rfl) rfl #[.slice A215_0 ((rd_T53 l0 x5_1).f0).length c215_0,.int .i64 x1_1] rfl zar ?_;(with_reducible refine (laws_heldIntS.calls k1 _ _ ((rd_T53 l0 x5_1).f0) x1_1 t216 _ ?side1 ?side2 A5.out).mono ?_);(case side1=>exact zC HR215_0.out);(case side2=>exact HC215_0.out);rintro e w' ⟨rfl,⟨nd,rfl⟩⟩;refine ⟨_,rfl,?_⟩;have p217:0≤(x5_1:Int):=zod;have q217:x5_1 < (l0.length:Int):=zod;obtain ⟨ad217,A217_0,c217_0,e217,hx217_0,hx217_1,hl217_0,hi217_0⟩:=at_T53 HR0.out x5_1 p217 q217;obtain rfl:ad215=ad217:=(by injection e217);have HR217_0:=Aside0.mk hi217_0;have HC217_0:=Aside0.mk hl217_0;clear hi217_0 hl217_0;replace p217:=eq_true p217;replace q217:=eq_true q217;have ea_:=Option.some.inj (hx215_0.symm.trans hx217_0);injection ea_ with ea_ en_ ec_;subst ea_;subst ec_;clear en_))
       go_roundg k1
       case measure=>have:=HK1.out;omega
       case rel=>exact ⟨(wrap64 (t216 + 1)),(wrap64 (x5_1 + 1)),(by first|rfl|(simp;done)|(simp [*];done)),(by first|rfl|(simp;done)|(simp [*];done)),H',⟨by have:=HK1.out;omega⟩,zdw⟩
      ·rw [if_neg c7] at H
       have c7b0:(((rd_T53 l0 x5_1).f1) == t216)=false:=beq_eq_false_iff_ne.mpr c7
       have c7b1:(((rd_T53 l0 x5_1).f1) != t216)=true:=bne_iff_ne.mpr c7
       obtain rfl:=Option.some.inj H
       have p215:0≤(x5_1:Int):=zod
       have q215:x5_1 < (l0.length:Int):=zod
       obtain ⟨ad215,A215_0,c215_0,e215,hx215_0,hx215_1,hl215_0,hi215_0⟩:=at_T53 HR0.out x5_1 p215 q215
       cases e215
       have HR215_0:=Aside0.mk hi215_0
       have HC215_0:=Aside0.mk hl215_0
       clear hi215_0 hl215_0
       replace p215:=eq_true p215
       replace q215:=eq_true q215
       go_wp2_with (first|((with_reducible refine gate_callee (f:=30) rfl ?_);refine goesL_ (some 18) rfl rfl Tryd.func30 (by kernel_rfl) rfl #[.slice A215_0 ((rd_T53 l0 x5_1).f0).length c215_0,.int .i64 x1_1] rfl zar ?_;(with_reducible refine (laws_heldIntS.calls k1 _ _ ((rd_T53 l0 x5_1).f0) x1_1 t216 _ ?side1 ?side2 A5.out).mono ?_);(case side1=>exact zC HR215_0.out);(case side2=>exact HC215_0.out);rintro e w' ⟨rfl,⟨nd,rfl⟩⟩;refine ⟨_,rfl,?_⟩;have p217:0≤(x5_1:Int):=zod;have q217:x5_1 < (l0.length:Int):=zod;obtain ⟨ad217,A217_0,c217_0,e217,hx217_0,hx217_1,hl217_0,hi217_0⟩:=at_T53 HR0.out x5_1 p217 q217;obtain rfl:ad215=ad217:=(by injection e217);have HR217_0:=Aside0.mk hi217_0;have HC217_0:=Aside0.mk hl217_0;clear hi217_0 hl217_0;replace p217:=eq_true p217;replace q217:=eq_true q217;have ea_:=Option.some.inj (hx215_0.symm.trans hx217_0);injection ea_ with ea_ en_ ec_;subst ea_;subst ec_;clear en_))
       go_ret
       exact ⟨by first|rfl|(simp;done)|(simp [*];done),zdw⟩
    ·rw [if_neg c4] at H
     exact absurd H (by simp)
   ·rw [if_neg c3] at H
    have c3b0:decide (x5_1 < (l0.length:Int))=false:=decide_eq_false c3
    clear c3
    obtain rfl:=Option.some.inj H
    go_wp2
    go_ret
    exact ⟨by first|rfl|(simp;done)|(simp [*];done),zdw⟩

/-! ### laws_FnExactZRead: function 3 (by hand) -/
def laws_FnExactZRead.f (k:Nat) (a0:ByteArray):Option Bool :=
 (if (a0.size:Int) > 1048576 then (some true) else ((spec_ZRead.f k a0).bind fun p1=>((impl_ZRead.f k a0).bind fun p2=>((laws_eqItemS.f k p2.1 p1.1).bind fun e0=>(if e0=true then ((if p2.2=p1.2 then ((laws_markItemS.f k p2.1 1).bind fun p5=>((laws_heldItemS.f k p5.2 1).bind fun q0=>(if q0 < 0 then (some false) else (if q0=p5.1 then ((impl_ZRead.f k a0).bind fun p7=>((laws_eqItemS.f k p7.1 p1.1).bind fun e2=>(if e2=true then ((if p7.2=p1.2 then ((laws_heldItemS.f k p5.2 1).bind fun q1=>(if q1 < 0 then (some false) else (if q1=p5.1 then (some true) else (some false)))) else (some false))) else (some false)))) else (some false))))) else (some false))) else (some false))))))
theorem ex_new {W W':World} {n0:Nat} {v:Value} {l:List (S53)} (h:Kd.S k53 53 W' W.heap.size (fun _=>True) v l) (hn:n0≤W.heap.size):Kd.S k53 53 W' n0 (fun k=>W.heap.size≤k∧k < W'.heap.size) v l :=
 Kd.S_lower (Kd.S_mono (Kd.S_bound h) (fun _ hk=>⟨hk.2.1,hk.2.2.1⟩)) hn
theorem ex_drawn {W W':World} (h:Drawn0 W W'):Below W.heap.size W W':=by
 obtain ⟨n,rfl⟩:=h
 exact pw_below_drewN (Below.refl _ _) n
theorem ex_read {W:World} {A:Option Addr} {l:List (S53)} (h:Kd.C k53 W A l.length l):Kd.F k53 W (fun k=>k < W.heap.size) A l.length l:=Kd.C_F k53_heap h
set_option maxHeartbeats 8000000 in
set_option maxRecDepth 100000 in
theorem laws_FnExactZRead.calls (k:Nat) (a0:ByteArray) (r:Bool) (w:World)  (h:laws_FnExactZRead.f k a0=some r) (hr_:r=true) (hT:TxtW w) :
  Calls Tryd.prog 3 #[.string a0] w fun e w'=>e=.returned (.bool r)∧Below w.heap.size w w':=by
 subst hr_
 unfold laws_FnExactZRead.f at h
 have HB:=Aside0.mk (Below.refl w.heap.size w)
 have HT0:=Aside0.mk hT
 clear hT
 by_cases cc0:(a0.size:Int) > 1048576
 ·have c0b:decide (1048576 < (a0.size:Int))=true:=decide_eq_true cc0
  have c0c:decide (1048576 < a0.size)=true:=decide_eq_true (by omega)
  clear h cc0
  go_enter Tryd.func3,Tryd.ntmps3
  go_wp2
  go_ret
  exact ⟨rfl,HB.out⟩
 rw [if_neg cc0] at h
 have c0b:decide (1048576 < (a0.size:Int))=false:=decide_eq_false cc0
 have c0c:decide (1048576 < a0.size)=false:=decide_eq_false (by omega)
 clear cc0
 replace h:=Option.bind_eq_some_iff.mp h
 obtain ⟨⟨z0,b0⟩,h_,h⟩:=h
 have A_1:=Aside0.mk h_
 clear h_
 dsimp only at h
 replace h:=Option.bind_eq_some_iff.mp h
 obtain ⟨⟨g0,b1⟩,h_,h⟩:=h
 have A_2:=Aside0.mk h_
 clear h_
 dsimp only at h
 replace h:=Option.bind_eq_some_iff.mp h
 obtain ⟨e0,h_,h⟩:=h
 have A_3:=Aside0.mk h_
 clear h_
 cases e0 with
 | false=>rw [if_neg (by decide)] at h;cases h
 | true =>
 rw [if_pos rfl] at h
 by_cases cc4:b1=b0
 case neg=>rw [if_neg cc4] at h;cases h
 rw [if_pos cc4] at h
 subst cc4
 replace h:=Option.bind_eq_some_iff.mp h
 obtain ⟨⟨m,g0_5⟩,h_,h⟩:=h
 have A_4:=Aside0.mk h_
 clear h_
 dsimp only at h
 replace h:=Option.bind_eq_some_iff.mp h
 obtain ⟨q0,h_,h⟩:=h
 have A_5:=Aside0.mk h_
 clear h_
 by_cases cc6:q0 < 0
 case pos=>rw [if_pos cc6] at h;cases h
 rw [if_neg cc6] at h
 have c6b:decide (q0 < 0)=false:=decide_eq_false cc6
 clear cc6
 by_cases g6:q0=m
 case neg=>rw [if_neg g6] at h;cases h
 rw [if_pos g6] at h
 have g6b:(q0 == m)=true:=beq_iff_eq.mpr g6
 have g6c:(q0 != m)=false:=bne_eq_false_iff_eq.mpr g6
 clear g6
 replace h:=Option.bind_eq_some_iff.mp h
 obtain ⟨⟨y0,b2⟩,h_,h⟩:=h
 have A_6:=Aside0.mk h_
 clear h_
 dsimp only at h
 replace h:=Option.bind_eq_some_iff.mp h
 obtain ⟨e2,h_,h⟩:=h
 have A_7:=Aside0.mk h_
 clear h_
 cases e2 with
 | false=>rw [if_neg (by decide)] at h;cases h
 | true =>
 rw [if_pos rfl] at h
 by_cases cc9:b2=b1
 case neg=>rw [if_neg cc9] at h;cases h
 rw [if_pos cc9] at h
 subst cc9
 replace h:=Option.bind_eq_some_iff.mp h
 obtain ⟨q1,h_,h⟩:=h
 have A_8:=Aside0.mk h_
 clear h_
 by_cases cc10:q1 < 0
 case pos=>rw [if_pos cc10] at h;cases h
 rw [if_neg cc10] at h
 have c10b:decide (q1 < 0)=false:=decide_eq_false cc10
 clear cc10
 by_cases g10:q1=m
 case neg=>rw [if_neg g10] at h;cases h
 rw [if_pos g10] at h
 have g10b:(q1 == m)=true:=beq_iff_eq.mpr g10
 have g10c:(q1 != m)=false:=bne_eq_false_iff_eq.mpr g10
 clear g10
 clear h
 go_enter Tryd.func3,Tryd.ntmps3
 go_wp2_with fail
 refine (spec_ZRead.calls k a0 z0 _ _  A_1.out).mono ?_
 rintro e w1 ⟨v_z0,rfl,ho,hb⟩
 obtain ⟨a_z0,c_z0,rfl⟩:=Kd.S_slice ho
 have HN0:=Aside0.mk hb.size
 have HX_z0:=Aside0.mk (ex_read (Kd.S_reads' ho).2.2)
 have HP_z0:=Aside0.mk (Kd.S_reads' ho).2.1
 have HB:=Aside0.mk (below_step HB.out hb)
 clear ho hb
 go_wp2_with fail
 refine (impl_ZRead.calls k a0 g0 _ _  A_2.out (TxtW.on HT0.out HB.out)).mono ?_
 rintro e w2 ⟨v_g0,rfl,ho,hb⟩
 obtain ⟨a_g0,c_g0,rfl⟩:=Kd.S_slice ho
 have HN1:=Aside0.mk hb.size
 have n0_:=Aside0.mk (Kd.F_below HX_z0.out hb)
 clear HX_z0
 have HX_z0:=n0_
 clear n0_
 have HX_g0:=Aside0.mk (ex_new ho HB.out.size)
 have HB:=Aside0.mk (below_step HB.out hb)
 clear ho hb
 go_wp2_with fail
 refine (laws_eqItemS.calls k _ _ g0 _ _ z0 true _ (Kd.S_reads' HX_g0.out).2.2 (Kd.S_reads' HX_g0.out).2.1 (Kd.F_now HX_z0.out) HP_z0.out A_3.out).mono ?_
 rintro e w3 ⟨rfl,hd⟩
 have hb:Below w2.heap.size w2 w3:=by first|exact hd|exact ex_drawn hd
 have HN2:=Aside0.mk hb.size
 have n0_:=Aside0.mk (Kd.S_below HX_g0.out hb)
 have n1_:=Aside0.mk (Kd.F_below HX_z0.out hb)
 clear HX_g0
 clear HX_z0
 have HX_g0:=n0_
 have HX_z0:=n1_
 clear n0_ n1_
 have HB:=Aside0.mk (below_step HB.out hb)
 clear hb hd
 go_wp2_with fail
 refine (laws_markItemS.calls k (fun k_=>w1.heap.size≤k_∧k_ < w2.heap.size) _ g0 1 m g0_5 w _ HB.out HX_g0.out A_4.out).mono ?_
 rintro e w4 ⟨rfl,ho,hB,hk⟩
 have HN3:=Aside0.mk hk.1
 have n0_:=Aside0.mk (Kd.F_kept HX_z0.out hk (fun k_ hk_ hs_=>by have h1_:=hs_.1;have h2_:=hs_.2;have h3_:=hk_;have z0_:=HN0.out;have z1_:=HN1.out;have z2_:=HN2.out;omega))
 clear HX_z0
 have HX_z0:=n0_
 clear n0_
 clear HX_g0 HB
 have HX_g0:=Aside0.mk ho
 have HB:=Aside0.mk hB
 clear ho hB hk
 have HE_g0:=Aside0.mk (show g0.length=g0_5.length from (Kd.S_reads' HX_g0.out).1)
 go_wp2_with fail
 refine calls_of_args (args':=#[.slice a_g0 g0_5.length c_g0,.int .i64 1]) (by rw [HE_g0.out]) ?_
 refine (laws_heldItemS.calls k _ _ g0_5 1 q0 _ (Kd.S_reads' HX_g0.out).2.2 (by have h_:=(Kd.S_reads' HX_g0.out).2.1;have e_:=HE_g0.out;omega) A_5.out).mono ?_
 rintro e w5 ⟨rfl,hd⟩
 have hb:Below w4.heap.size w4 w5:=by first|exact hd|exact ex_drawn hd
 have HN4:=Aside0.mk hb.size
 have n0_:=Aside0.mk (Kd.S_below HX_g0.out hb)
 have n1_:=Aside0.mk (Kd.F_below HX_z0.out hb)
 clear HX_g0
 clear HX_z0
 have HX_g0:=n0_
 have HX_z0:=n1_
 clear n0_ n1_
 have HB:=Aside0.mk (below_step HB.out hb)
 clear hb hd
 go_wp2_with fail
 refine (impl_ZRead.calls k a0 y0 _ _  A_6.out (TxtW.on HT0.out HB.out)).mono ?_
 rintro e w6 ⟨v_y0,rfl,ho,hb⟩
 obtain ⟨a_y0,c_y0,rfl⟩:=Kd.S_slice ho
 have HN5:=Aside0.mk hb.size
 have n0_:=Aside0.mk (Kd.S_below HX_g0.out hb)
 have n1_:=Aside0.mk (Kd.F_below HX_z0.out hb)
 clear HX_g0
 clear HX_z0
 have HX_g0:=n0_
 have HX_z0:=n1_
 clear n0_ n1_
 have HX_y0:=Aside0.mk (ex_read (Kd.S_reads' ho).2.2)
 have HP_y0:=Aside0.mk (Kd.S_reads' ho).2.1
 have HB:=Aside0.mk (below_step HB.out hb)
 clear ho hb
 go_wp2_with fail
 refine (laws_eqItemS.calls k _ _ y0 _ _ z0 true _ (Kd.F_now HX_y0.out) HP_y0.out (Kd.F_now HX_z0.out) HP_z0.out A_7.out).mono ?_
 rintro e w7 ⟨rfl,hd⟩
 have hb:Below w6.heap.size w6 w7:=by first|exact hd|exact ex_drawn hd
 have HN6:=Aside0.mk hb.size
 have n0_:=Aside0.mk (Kd.S_below HX_g0.out hb)
 have n1_:=Aside0.mk (Kd.F_below HX_z0.out hb)
 have n2_:=Aside0.mk (Kd.F_below HX_y0.out hb)
 clear HX_g0
 clear HX_z0
 clear HX_y0
 have HX_g0:=n0_
 have HX_z0:=n1_
 have HX_y0:=n2_
 clear n0_ n1_ n2_
 have HB:=Aside0.mk (below_step HB.out hb)
 clear hb hd
 go_wp2_with fail
 refine calls_of_args (args':=#[.slice a_g0 g0_5.length c_g0,.int .i64 1]) (by rw [HE_g0.out]) ?_
 refine (laws_heldItemS.calls k _ _ g0_5 1 q1 _ (Kd.S_reads' HX_g0.out).2.2 (by have h_:=(Kd.S_reads' HX_g0.out).2.1;have e_:=HE_g0.out;omega) A_8.out).mono ?_
 rintro e w8 ⟨rfl,hd⟩
 have hb:Below w7.heap.size w7 w8:=by first|exact hd|exact ex_drawn hd
 have HN7:=Aside0.mk hb.size
 have n0_:=Aside0.mk (Kd.S_below HX_g0.out hb)
 have n1_:=Aside0.mk (Kd.F_below HX_z0.out hb)
 have n2_:=Aside0.mk (Kd.F_below HX_y0.out hb)
 clear HX_g0
 clear HX_z0
 clear HX_y0
 have HX_g0:=n0_
 have HX_z0:=n1_
 have HX_y0:=n2_
 clear n0_ n1_ n2_
 have HB:=Aside0.mk (below_step HB.out hb)
 clear hb hd
 go_wp2
 go_ret
 exact ⟨rfl,HB.out⟩

/-- THE ONE PURE STATEMENT of laws_FnExactZRead: yours. -/
def laws_FnExactZRead.Pure:Prop:=∀ (a0:ByteArray),a0.size≤maxLen→∃ k,laws_FnExactZRead.f k a0=some true
theorem laws_FnExactZRead.walk (P:laws_FnExactZRead.Pure) (a0:ByteArray) (w:World)  (ok0:a0.size≤maxLen) (hT:TxtW w) :
  Calls Tryd.prog 3 #[.string a0] w fun e w'=>e=.returned (.bool true)∧Below w.heap.size w w':=by
 obtain ⟨k,h⟩:=P a0 ok0
 refine (laws_FnExactZRead.calls k a0 true w  h rfl hT).mono ?_
 rintro e w' ⟨rfl,hd⟩
 exact ⟨rfl,hd⟩

end Go.Proofs.YtgcplipimcbhlaaDoor.PFnExactZRead
