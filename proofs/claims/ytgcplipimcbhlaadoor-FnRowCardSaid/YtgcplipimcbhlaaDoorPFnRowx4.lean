-- Written by wip/tools/pp.py, a program of this session over the kit's printer: not the kit's own print
import Derived.Test.YtgcplipimcbhlaaDoorPFnRowx0
namespace Go.Proofs.YtgcplipimcbhlaaDoor.PFnRow
open Go.RowKit Go.Proofs.YtgcplipimcbhlaaDoorW.PrintWords Go.Proofs.YtgcplipimcbhlaaDoorW.PrintLast Go.Proofs.YtgcplipimcbhlaaDoorW.PrintMore
attribute [local go_sem] max2_int min2_int max_two min_two max_three min_three max_four min_four   -- for this text's walks alone
set_option linter.unusedVariables false
set_option linter.unusedSimpArgs false

/-- A state of type 99 at block g of W; what its slices lead to came in by w0. -/
def IsS99 (w0 W:World) (g:Nat) (f0:List Int) (f1:Int):Prop:=∃ A0 c0,W.heap[g]?=some (.cells #[.slice A0 f0.length c0,.int .i64 f1] 99 (0,0))∧w0.heap.size≤g∧Kd.C (Kd.int .u8) w0 A0 f0.length f0
theorem IsS99.grown {w0 W:World} {g:Nat} {f0:List Int} {f1:Int} {W1:World} {row:Option Nat} (h:IsS99 w0 W g f0 f1) (hw:W.grownBy W1 row) (hne:some g≠row):IsS99 w0 W1 g f0 f1:=by
 obtain ⟨A0,c0,hb,hg,hr0⟩:=h
 exact ⟨A0,c0,blk_grown hb hw hne,hg,hr0⟩
theorem IsS99.own_neN {w0 W:World} {g:Nat} {f0:List Int} {f1:Int} {α:Type} {d:Kd α} {e:Nat} {base:Nat} {ok:Nat→Prop} {v:Value} {xs:List α} (h:IsS99 w0 W g f0 f1) (ho:Kd.N d e W base ok v xs) (ht:e≠99):some g≠v.ownBlock:=by
 obtain ⟨A0,c0,hb,hg,hr0⟩:=h
 exact Kd.N_ne ho hb ht
theorem IsS99.fresh {w0 W:World} {g:Nat} {f0:List Int} {f1:Int} (h:IsS99 w0 W g f0 f1) : ∀ k,W.heap.size≤k→k≠g:=by
 obtain ⟨A0,c0,hb,hg,hr0⟩:=h
 exact Kd.freshB hb
theorem IsS99.kept {w0 W:World} {g:Nat} {f0:List Int} {f1:Int} {W1:World} {S:Nat→Prop} (h:IsS99 w0 W g f0 f1) (hk:Kept W W1 S) (hne : ¬ S g):IsS99 w0 W1 g f0 f1:=by
 obtain ⟨A0,c0,hb,hg,hr0⟩:=h
 exact ⟨A0,c0,blk_kept hb hk hne,hg,hr0⟩
theorem IsS99.below {w0 W:World} {g:Nat} {f0:List Int} {f1:Int} {W1:World} (h:IsS99 w0 W g f0 f1) (hw:Below W.heap.size W W1):IsS99 w0 W1 g f0 f1:=h.grown (grown_of_below hw none) (by simp)
theorem IsS99.alloc {w0 W:World} {g:Nat} {f0:List Int} {f1:Int} (h:IsS99 w0 W g f0 f1) (o:Obj):IsS99 w0 (W.alloc o) g f0 f1:=h.below (below_alloc (Below.refl _ _) o)
theorem IsS99.drewN {w0 W:World} {g:Nat} {f0:List Int} {f1:Int} (h:IsS99 w0 W g f0 f1) (m:Nat):IsS99 w0 (W.drewN m) g f0 f1:=h
theorem IsS99.drew {w0 W:World} {g:Nat} {f0:List Int} {f1:Int} (h:IsS99 w0 W g f0 f1):IsS99 w0 W.drew g f0 f1:=h
theorem IsS99.at_ {w0 W:World} {g:Nat} {f0:List Int} {f1:Int} {w':World} {m:Nat} (hq:W.drewN m=w') (h:IsS99 w0 W g f0 f1):IsS99 w0 w' g f0 f1:=by subst hq;exact IsS99.drewN h m
theorem IsS99.apart {w0 W:World} {g:Nat} {f0:List Int} {f1:Int} {α:Type} {d:Kd α} {e:Nat} {base:Nat} {ok:Nat→Prop} {v:Value} {xs:List α} (h:IsS99 w0 W g f0 f1) (ho:d.R e W base ok v xs) (ht : ∀ q,q ∈ e :: d.E→q≠99):d.R e W base (fun k=>ok k∧k≠g) v xs:=by
 obtain ⟨A0,c0,hb,hg,hr0⟩:=h
 exact Kd.R_types ho hb ht
theorem IsS99.own_ne {w0 W:World} {g:Nat} {f0:List Int} {f1:Int} {α:Type} {d:Kd α} {e:Nat} {base:Nat} {ok:Nat→Prop} {v:Value} {xs:List α} (h:IsS99 w0 W g f0 f1) (ho:d.R e W base ok v xs) (ht:e≠99):some g≠v.ownBlock:=by
 obtain ⟨A0,c0,hb,hg,hr0⟩:=h
 exact Kd.R_ne ho hb ht
theorem IsS99.apartQ {w0 W:World} {g:Nat} {f0:List Int} {f1:Int} {α:Type} {d:Kd α} {e:Nat} {base:Nat} {ok:Nat→Prop} {v:Value} {xs:List α} (h:IsS99 w0 W g f0 f1) (ho:d.Q e W base ok v xs) (ht : ∀ q,q ∈ e :: d.E→q≠99):d.Q e W base (fun k=>ok k∧k≠g) v xs:=by
 obtain ⟨A0,c0,hb,hg,hr0⟩:=h
 exact Kd.Q_types ho hb ht
theorem IsS99.own_neQ {w0 W:World} {g:Nat} {f0:List Int} {f1:Int} {α:Type} {d:Kd α} {e:Nat} {base:Nat} {ok:Nat→Prop} {v:Value} {xs:List α} (h:IsS99 w0 W g f0 f1) (ho:d.Q e W base ok v xs) (ht:e≠99):some g≠v.ownBlock:=by
 obtain ⟨A0,c0,hb,hg,hr0⟩:=h
 exact Kd.Q_ne ho hb ht
theorem IsS99.apartS {w0 W:World} {g:Nat} {f0:List Int} {f1:Int} {α:Type} {d:Kd α} {e:Nat} {base:Nat} {ok:Nat→Prop} {v:Value} {xs:List α} (h:IsS99 w0 W g f0 f1) (ho:d.S e W base ok v xs) (ht : ∀ q,q ∈ e :: d.E→q≠99):d.S e W base (fun k=>ok k∧k≠g) v xs:=by
 obtain ⟨A0,c0,hb,hg,hr0⟩:=h
 exact Kd.S_types ho hb ht
theorem IsS99.own_neS {w0 W:World} {g:Nat} {f0:List Int} {f1:Int} {α:Type} {d:Kd α} {e:Nat} {base:Nat} {ok:Nat→Prop} {v:Value} {xs:List α} (h:IsS99 w0 W g f0 f1) (ho:d.S e W base ok v xs) (ht:e≠99):some g≠v.ownBlock:=by
 obtain ⟨A0,c0,hb,hg,hr0⟩:=h
 exact Kd.S_ne ho hb ht
theorem IsS99.lt {w0 W:World} {g:Nat} {f0:List Int} {f1:Int} (h:IsS99 w0 W g f0 f1):g < W.heap.size:=by
 obtain ⟨A0,c0,hb,hg,hr0⟩:=h
 exact blk_lt hb
theorem IsS99.ge {w0 W:World} {g:Nat} {f0:List Int} {f1:Int} (h:IsS99 w0 W g f0 f1):w0.heap.size≤g:=by
 obtain ⟨A0,c0,hb,hg,hr0⟩:=h
 exact hg
theorem IsS99.ne_blk {w0 W:World} {g:Nat} {f0:List Int} {f1:Int} {a:Nat} {cs:Array Value} {t:TypeId} {fr:Nat × Nat} (h:IsS99 w0 W g f0 f1) (hb2:W.heap[a]?=some (.cells cs t fr)) (ht:t≠99):g≠a:=by
 obtain ⟨A0,c0,hb,hg,hr0⟩:=h
 rintro rfl
 rw [hb] at hb2
 injection hb2 with hb2
 injection hb2 with _ ht2
 exact ht ht2.symm
theorem IsS99.far {w0 W:World} {g:Nat} {f0:List Int} {f1:Int} {p:Addr} (h:IsS99 w0 W g f0 f1) (hne:g≠p.block) (u:Value):IsS99 w0 (W.setCell p u) g f0 f1:=by
 obtain ⟨A0,c0,hb,hg,hr0⟩:=h
 exact ⟨A0,c0,blk_far hb hne u,hg,hr0⟩
theorem cellS99_0 {W:World} {g:Nat} {A0:Option Addr} {c0:Nat} {f0:List Int} {f1:Int} (h:W.heap[g]?=some (.cells #[.slice A0 f0.length c0,.int .i64 f1] 99 (0,0))):W.cell? ⟨g,0,none⟩=some (.slice A0 f0.length c0):=(blk_cell h 0).trans rfl
theorem cellS99_1 {W:World} {g:Nat} {A0:Option Addr} {c0:Nat} {f0:List Int} {f1:Int} (h:W.heap[g]?=some (.cells #[.slice A0 f0.length c0,.int .i64 f1] 99 (0,0))):W.cell? ⟨g,1,none⟩=some (.int .i64 f1):=(blk_cell h 1).trans rfl
theorem IsS99.set_1 {w0 W:World} {g:Nat} {f0:List Int} {f1:Int} (h:IsS99 w0 W g f0 f1) (x:Int):IsS99 w0 (W.setCell ⟨g,1,none⟩ (.int .i64 x)) g f0 x:=by
 obtain ⟨A0,c0,hb,hg,hr0⟩:=h
 exact ⟨A0,c0,by simpa using blk_set hb 1 (.int .i64 x),hg,hr0⟩
theorem zi99 {p:Prop} (h:p:=by repeat (first|(with_reducible first|exact HI0.out|apply IsS99.alloc|apply IsS99.drewN|apply IsS99.drew|apply IsS99.set_1)|exact HI0.out)):p:=h
theorem zg99 {p:Prop} (h:p:=by repeat (first|(with_reducible first|exact HB.out|apply below_alloc|apply pw_below_drewN|apply below_drew1|refine below_set ?_ (IsS99.ge HI0.out))|exact HB.out)):p:=h
theorem IsS99.new (w0 W:World) (A0:Option Addr) (c0:Nat) (f0:List Int) (f1:Int) (hB:Below w0.heap.size w0 W) (hr0:Kd.C (Kd.int .u8) w0 A0 f0.length f0):IsS99 w0 (W.alloc (.cells #[.slice A0 f0.length c0,.int .i64 f1] 99)) W.heap.size f0 f1:=⟨A0,c0,by simpa using heap_alloc_new W _,hB.size,hr0⟩

/-! ### spec_l12Rd_pick: function 65 -/
def spec_l12Rd_pick.f (s0_0:List Int) (s0_1:Int) (a1:Int):Option (Int × Int):=if a1 < 1 then (some (0,wrap64 (s0_1 + 1))) else (if (s0_0.length:Int)=0 then (some (0,wrap64 (s0_1 + 1))) else (if (wrap64 ((wrap64 (s0_1 + 1)) - 1)) < (s0_0.length:Int) then (if 0≤(wrap64 ((wrap64 (s0_1 + 1)) - 1)) then (if a1=0 then (none) else (some (Int.tmod (wrap64 (rd s0_0 (wrap64 ((wrap64 (s0_1 + 1)) - 1)))) a1,wrap64 (s0_1 + 1)))) else (none)) else (if 0≤(Int.tmod (wrap64 ((wrap64 (s0_1 + 1)) - 1)) (s0_0.length:Int)) then (if (Int.tmod (wrap64 ((wrap64 (s0_1 + 1)) - 1)) (s0_0.length:Int)) < (s0_0.length:Int) then (if 0≤(Int.tmod (wrap64 ((wrap64 ((wrap64 ((wrap64 (s0_1 + 1)) - 1)) * 7)) + 3)) (s0_0.length:Int)) then (if (Int.tmod (wrap64 ((wrap64 ((wrap64 ((wrap64 (s0_1 + 1)) - 1)) * 7)) + 3)) (s0_0.length:Int)) < (s0_0.length:Int) then (if a1=0 then (none) else (some (Int.tmod (Go.bits .xor .i64 (wrap64 ((wrap64 ((wrap64 ((wrap64 ((wrap64 (rd s0_0 (Int.tmod (wrap64 ((wrap64 (s0_1 + 1)) - 1)) (s0_0.length:Int)))) * 131)) + (wrap64 ((wrap64 (rd s0_0 (Int.tmod (wrap64 ((wrap64 ((wrap64 ((wrap64 (s0_1 + 1)) - 1)) * 7)) + 3)) (s0_0.length:Int)))) * 1117)))) + (wrap64 ((wrap64 ((wrap64 (s0_1 + 1)) - 1)) * 29)))) + (wrap64 ((wrap64 (Int.tdiv (wrap64 ((wrap64 (s0_1 + 1)) - 1)) (s0_0.length:Int))) * 53)))) (wrap64 (Int.tdiv (wrap64 ((wrap64 ((wrap64 ((wrap64 ((wrap64 (rd s0_0 (Int.tmod (wrap64 ((wrap64 (s0_1 + 1)) - 1)) (s0_0.length:Int)))) * 131)) + (wrap64 ((wrap64 (rd s0_0 (Int.tmod (wrap64 ((wrap64 ((wrap64 ((wrap64 (s0_1 + 1)) - 1)) * 7)) + 3)) (s0_0.length:Int)))) * 1117)))) + (wrap64 ((wrap64 ((wrap64 (s0_1 + 1)) - 1)) * 29)))) + (wrap64 ((wrap64 (Int.tdiv (wrap64 ((wrap64 (s0_1 + 1)) - 1)) (s0_0.length:Int))) * 53)))) 64))) a1,wrap64 (s0_1 + 1)))) else (none)) else (none)) else (none)) else (none))))
set_option maxHeartbeats 8000000 in
set_option maxRecDepth 100000 in
theorem spec_l12Rd_pick.calls (g:Nat) (s0_0:List Int) (s0_1:Int) (a1:Int) (r1:Int) (r2:Int) (w0 w:World) (hI:IsS99 w0 w g s0_0 s0_1) (hB:Below w0.heap.size w0 w) (h:spec_l12Rd_pick.f s0_0 s0_1 a1=some (r1,r2)) :
  Calls Tryd.prog 65 #[.pointer (some ⟨g,0,none⟩),.int .i64 a1] w fun e w'=>e=.returned (.int .i64 r1)∧IsS99 w0 w' g s0_0 r2∧Below w0.heap.size w0 w'∧KeepBut w w' g none:=by
 have HI0:=Aside0.mk hI
 have HK:=Aside0.mk (KeepBut.refl w g none)
 have HL:=Aside0.mk hB.size
 clear hI
 have HW0:=Aside0.mk hB.size
 have HB:=Aside0.mk hB
 clear hB
 have H:(if a1 < 1 then (some (0,wrap64 (s0_1 + 1))) else (if (s0_0.length:Int)=0 then (some (0,wrap64 (s0_1 + 1))) else (if (wrap64 ((wrap64 (s0_1 + 1)) - 1)) < (s0_0.length:Int) then (if 0≤(wrap64 ((wrap64 (s0_1 + 1)) - 1)) then (if a1=0 then (none) else (some (Int.tmod (wrap64 (rd s0_0 (wrap64 ((wrap64 (s0_1 + 1)) - 1)))) a1,wrap64 (s0_1 + 1)))) else (none)) else (if 0≤(Int.tmod (wrap64 ((wrap64 (s0_1 + 1)) - 1)) (s0_0.length:Int)) then (if (Int.tmod (wrap64 ((wrap64 (s0_1 + 1)) - 1)) (s0_0.length:Int)) < (s0_0.length:Int) then (if 0≤(Int.tmod (wrap64 ((wrap64 ((wrap64 ((wrap64 (s0_1 + 1)) - 1)) * 7)) + 3)) (s0_0.length:Int)) then (if (Int.tmod (wrap64 ((wrap64 ((wrap64 ((wrap64 (s0_1 + 1)) - 1)) * 7)) + 3)) (s0_0.length:Int)) < (s0_0.length:Int) then (if a1=0 then (none) else (some (Int.tmod (Go.bits .xor .i64 (wrap64 ((wrap64 ((wrap64 ((wrap64 ((wrap64 (rd s0_0 (Int.tmod (wrap64 ((wrap64 (s0_1 + 1)) - 1)) (s0_0.length:Int)))) * 131)) + (wrap64 ((wrap64 (rd s0_0 (Int.tmod (wrap64 ((wrap64 ((wrap64 ((wrap64 (s0_1 + 1)) - 1)) * 7)) + 3)) (s0_0.length:Int)))) * 1117)))) + (wrap64 ((wrap64 ((wrap64 (s0_1 + 1)) - 1)) * 29)))) + (wrap64 ((wrap64 (Int.tdiv (wrap64 ((wrap64 (s0_1 + 1)) - 1)) (s0_0.length:Int))) * 53)))) (wrap64 (Int.tdiv (wrap64 ((wrap64 ((wrap64 ((wrap64 ((wrap64 (rd s0_0 (Int.tmod (wrap64 ((wrap64 (s0_1 + 1)) - 1)) (s0_0.length:Int)))) * 131)) + (wrap64 ((wrap64 (rd s0_0 (Int.tmod (wrap64 ((wrap64 ((wrap64 ((wrap64 (s0_1 + 1)) - 1)) * 7)) + 3)) (s0_0.length:Int)))) * 1117)))) + (wrap64 ((wrap64 ((wrap64 (s0_1 + 1)) - 1)) * 29)))) + (wrap64 ((wrap64 (Int.tdiv (wrap64 ((wrap64 (s0_1 + 1)) - 1)) (s0_0.length:Int))) * 53)))) 64))) a1,wrap64 (s0_1 + 1)))) else (none)) else (none)) else (none)) else (none)))))=some (r1,r2):=h
 clear h
 by_cases c3:a1 < 1
 ·rw [if_pos c3] at H
  have c3b0:decide (a1 < 1)=true:=decide_eq_true c3
  clear c3
  simp only [Option.some.injEq,Prod.mk.injEq] at H
  obtain ⟨rfl,rfl⟩:=H
  obtain ⟨ASz4_0,cSz4_0,HGz4,hgz4,HSz4_0⟩:=HI0.out
  have hcz4_0:=cellS99_0 HGz4
  have hcz4_1:=cellS99_1 HGz4
  have hfz4_1:=blk_frozen HGz4 1
  clear HGz4 hgz4
  go_enter Tryd.func65,Tryd.ntmps65
  go_wp2
  repeat (go_quiet (fail);try go_wp2)
  go_ret
  exact ⟨by first|rfl|(simp [errW_none,errW_some] <;> rfl)|(simp [*,errW_none,errW_some] <;> rfl),zi99,zg99,zhk⟩
 ·rw [if_neg c3] at H
  have c3b0:decide (a1 < 1)=false:=decide_eq_false c3
  clear c3
  by_cases c5:(s0_0.length:Int)=0
  ·rw [if_pos c5] at H
   have c5b0:((s0_0.length:Int) == 0)=true:=beq_iff_eq.mpr c5
   have c5b1:((s0_0.length:Int) != 0)=false:=bne_eq_false_iff_eq.mpr c5
   clear c5
   simp only [Option.some.injEq,Prod.mk.injEq] at H
   obtain ⟨rfl,rfl⟩:=H
   obtain ⟨ASz6_0,cSz6_0,HGz6,hgz6,HSz6_0⟩:=HI0.out
   have hcz6_0:=cellS99_0 HGz6
   have hcz6_1:=cellS99_1 HGz6
   have hfz6_1:=blk_frozen HGz6 1
   clear HGz6 hgz6
   go_enter Tryd.func65,Tryd.ntmps65
   go_wp2
   repeat (go_quiet (fail);try go_wp2)
   go_ret
   exact ⟨by first|rfl|(simp [errW_none,errW_some] <;> rfl)|(simp [*,errW_none,errW_some] <;> rfl),zi99,zg99,zhk⟩
  ·rw [if_neg c5] at H
   have c5b0:((s0_0.length:Int) == 0)=false:=beq_eq_false_iff_ne.mpr c5
   have c5b1:((s0_0.length:Int) != 0)=true:=bne_iff_ne.mpr c5
   have c5b2 : ¬ (s0_0 = []):=fun h_=>c5 (by rw [h_];rfl)
   by_cases c7:(wrap64 ((wrap64 (s0_1 + 1)) - 1)) < (s0_0.length:Int)
   ·rw [if_pos c7] at H
    have c7b0:decide ((wrap64 ((wrap64 (s0_1 + 1)) - 1)) < (s0_0.length:Int))=true:=decide_eq_true c7
    clear c7
    obtain ⟨ji8,hji8⟩ : ∃ j_:Int,(wrap64 ((wrap64 (s0_1 + 1)) - 1))=j_:=⟨_,rfl⟩
    replace H:(if 0≤(ji8) then (if a1=0 then (none) else (some (Int.tmod (wrap64 (rd s0_0 (ji8))) a1,wrap64 (s0_1 + 1)))) else (none))=some (r1,r2):=by first|(rw [hji8] at H;exact H)|(simp only [hji8] at H ⊢;exact H)
    (try rw [hji8] at c7b0)
    have hji8w:(IntKind.i64.wrap ((wrap64 (s0_1 + 1)) - 1))=ji8:=(i64_w _).trans hji8
    by_cases c9:0≤(ji8)
    ·rw [if_pos c9] at H
     have c9b0:decide (0≤(ji8))=true:=decide_eq_true c9
     clear c9
     by_cases c10:a1=0
     ·rw [if_pos c10] at H
      exact absurd H (by simp)
     ·rw [if_neg c10] at H
      have c10b0:(a1 == 0)=false:=beq_eq_false_iff_ne.mpr c10
      have c10b1:(a1 != 0)=true:=bne_iff_ne.mpr c10
      simp only [Option.some.injEq,Prod.mk.injEq] at H
      obtain ⟨rfl,rfl⟩:=H
      obtain ⟨ASz11_0,cSz11_0,HGz11,hgz11,HSz11_0⟩:=HI0.out
      have hcz11_0:=cellS99_0 HGz11
      have hcz11_1:=cellS99_1 HGz11
      have hfz11_1:=blk_frozen HGz11 1
      clear HGz11 hgz11
      have p141:0≤((ji8):Int):=zod
      have q141:(ji8) < (s0_0.length:Int):=zod
      obtain ⟨ad141,e141,hx141_0⟩:=Kd.at_int HSz11_0 (ji8) p141 q141
      cases e141
      have hn141_0:ad141.block≠g:=Nat.ne_of_lt (Nat.lt_of_lt_of_le (by have:=World.block_lt_of_cell? _ _ hx141_0;first|rwa [add_block] at this|exact this) (IsS99.ge HI0.out))
      replace hx141_0:=pw_cell_below HB.out hx141_0
      replace hx141_0:=(cell_far (p:=⟨g,1,none⟩) (by first|(rw [add_block];exact hn141_0)|(show (Addr.add _ _).block≠_;rw [add_block];exact hn141_0)|exact hn141_0) (.int .i64 (wrap64 (s0_1 + 1)))).trans hx141_0
      (try have hy141_0:=fun (n_:Nat)=>(show (((w.drewN n_).setCell ⟨g,1,none⟩ (.int .i64 (wrap64 (s0_1 + 1))))).cell? _=some _ from hx141_0))
      clear hn141_0
      replace p141:=eq_true p141
      replace q141:=eq_true q141
      go_enter Tryd.func65,Tryd.ntmps65
      go_wp2
      repeat (go_quiet (fail);try go_wp2)
      go_ret
      exact ⟨by first|rfl|(simp [errW_none,errW_some] <;> rfl)|(simp only [← hji8];first|rfl|(simp [errW_none,errW_some] <;> rfl))|(simp [*,errW_none,errW_some] <;> rfl),zi99,zg99,zhk⟩
    ·rw [if_neg c9] at H
     exact absurd H (by simp)
   ·rw [if_neg c7] at H
    have c7b0:decide ((wrap64 ((wrap64 (s0_1 + 1)) - 1)) < (s0_0.length:Int))=false:=decide_eq_false c7
    clear c7
    obtain ⟨ji12,hji12⟩ : ∃ j_:Int,(Int.tmod (wrap64 ((wrap64 (s0_1 + 1)) - 1)) (s0_0.length:Int))=j_:=⟨_,rfl⟩
    replace H:(if 0≤(ji12) then (if (ji12) < (s0_0.length:Int) then (if 0≤(Int.tmod (wrap64 ((wrap64 ((wrap64 ((wrap64 (s0_1 + 1)) - 1)) * 7)) + 3)) (s0_0.length:Int)) then (if (Int.tmod (wrap64 ((wrap64 ((wrap64 ((wrap64 (s0_1 + 1)) - 1)) * 7)) + 3)) (s0_0.length:Int)) < (s0_0.length:Int) then (if a1=0 then (none) else (some (Int.tmod (Go.bits .xor .i64 (wrap64 ((wrap64 ((wrap64 ((wrap64 ((wrap64 (rd s0_0 (ji12))) * 131)) + (wrap64 ((wrap64 (rd s0_0 (Int.tmod (wrap64 ((wrap64 ((wrap64 ((wrap64 (s0_1 + 1)) - 1)) * 7)) + 3)) (s0_0.length:Int)))) * 1117)))) + (wrap64 ((wrap64 ((wrap64 (s0_1 + 1)) - 1)) * 29)))) + (wrap64 ((wrap64 (Int.tdiv (wrap64 ((wrap64 (s0_1 + 1)) - 1)) (s0_0.length:Int))) * 53)))) (wrap64 (Int.tdiv (wrap64 ((wrap64 ((wrap64 ((wrap64 ((wrap64 (rd s0_0 (ji12))) * 131)) + (wrap64 ((wrap64 (rd s0_0 (Int.tmod (wrap64 ((wrap64 ((wrap64 ((wrap64 (s0_1 + 1)) - 1)) * 7)) + 3)) (s0_0.length:Int)))) * 1117)))) + (wrap64 ((wrap64 ((wrap64 (s0_1 + 1)) - 1)) * 29)))) + (wrap64 ((wrap64 (Int.tdiv (wrap64 ((wrap64 (s0_1 + 1)) - 1)) (s0_0.length:Int))) * 53)))) 64))) a1,wrap64 (s0_1 + 1)))) else (none)) else (none)) else (none)) else (none))=some (r1,r2):=by first|(rw [hji12] at H;exact H)|(simp only [hji12] at H ⊢;exact H)
    by_cases c13:0≤(ji12)
    ·rw [if_pos c13] at H
     have c13b0:decide (0≤(ji12))=true:=decide_eq_true c13
     clear c13
     by_cases c14:(ji12) < (s0_0.length:Int)
     ·rw [if_pos c14] at H
      have c14b0:decide ((ji12) < (s0_0.length:Int))=true:=decide_eq_true c14
      clear c14
      obtain ⟨ji15,hji15⟩ : ∃ j_:Int,(Int.tmod (wrap64 ((wrap64 ((wrap64 ((wrap64 (s0_1 + 1)) - 1)) * 7)) + 3)) (s0_0.length:Int))=j_:=⟨_,rfl⟩
      replace H:(if 0≤(ji15) then (if (ji15) < (s0_0.length:Int) then (if a1=0 then (none) else (some (Int.tmod (Go.bits .xor .i64 (wrap64 ((wrap64 ((wrap64 ((wrap64 ((wrap64 (rd s0_0 (ji12))) * 131)) + (wrap64 ((wrap64 (rd s0_0 (ji15))) * 1117)))) + (wrap64 ((wrap64 ((wrap64 (s0_1 + 1)) - 1)) * 29)))) + (wrap64 ((wrap64 (Int.tdiv (wrap64 ((wrap64 (s0_1 + 1)) - 1)) (s0_0.length:Int))) * 53)))) (wrap64 (Int.tdiv (wrap64 ((wrap64 ((wrap64 ((wrap64 ((wrap64 (rd s0_0 (ji12))) * 131)) + (wrap64 ((wrap64 (rd s0_0 (ji15))) * 1117)))) + (wrap64 ((wrap64 ((wrap64 (s0_1 + 1)) - 1)) * 29)))) + (wrap64 ((wrap64 (Int.tdiv (wrap64 ((wrap64 (s0_1 + 1)) - 1)) (s0_0.length:Int))) * 53)))) 64))) a1,wrap64 (s0_1 + 1)))) else (none)) else (none))=some (r1,r2):=by first|(rw [hji15] at H;exact H)|(simp only [hji15] at H ⊢;exact H)
      by_cases c16:0≤(ji15)
      ·rw [if_pos c16] at H
       have c16b0:decide (0≤(ji15))=true:=decide_eq_true c16
       clear c16
       by_cases c17:(ji15) < (s0_0.length:Int)
       ·rw [if_pos c17] at H
        have c17b0:decide ((ji15) < (s0_0.length:Int))=true:=decide_eq_true c17
        clear c17
        by_cases c18:a1=0
        ·rw [if_pos c18] at H
         exact absurd H (by simp)
        ·rw [if_neg c18] at H
         have c18b0:(a1 == 0)=false:=beq_eq_false_iff_ne.mpr c18
         have c18b1:(a1 != 0)=true:=bne_iff_ne.mpr c18
         simp only [Option.some.injEq,Prod.mk.injEq] at H
         obtain ⟨rfl,rfl⟩:=H
         obtain ⟨ASz19_0,cSz19_0,HGz19,hgz19,HSz19_0⟩:=HI0.out
         have hcz19_0:=cellS99_0 HGz19
         have hcz19_1:=cellS99_1 HGz19
         have hfz19_1:=blk_frozen HGz19 1
         clear HGz19 hgz19
         have p142:0≤((ji12):Int):=zod
         have q142:(ji12) < (s0_0.length:Int):=zod
         obtain ⟨ad142,e142,hx142_0⟩:=Kd.at_int HSz19_0 (ji12) p142 q142
         cases e142
         have hn142_0:ad142.block≠g:=Nat.ne_of_lt (Nat.lt_of_lt_of_le (by have:=World.block_lt_of_cell? _ _ hx142_0;first|rwa [add_block] at this|exact this) (IsS99.ge HI0.out))
         replace hx142_0:=pw_cell_below HB.out hx142_0
         replace hx142_0:=(cell_far (p:=⟨g,1,none⟩) (by first|(rw [add_block];exact hn142_0)|(show (Addr.add _ _).block≠_;rw [add_block];exact hn142_0)|exact hn142_0) (.int .i64 (wrap64 (s0_1 + 1)))).trans hx142_0
         (try have hy142_0:=fun (n_:Nat)=>(show (((w.drewN n_).setCell ⟨g,1,none⟩ (.int .i64 (wrap64 (s0_1 + 1))))).cell? _=some _ from hx142_0))
         clear hn142_0
         replace p142:=eq_true p142
         replace q142:=eq_true q142
         have p143:0≤((ji15):Int):=zod
         have q143:(ji15) < (s0_0.length:Int):=zod
         obtain ⟨ad143,e143,hx143_0⟩:=Kd.at_int HSz19_0 (ji15) p143 q143
         obtain rfl:ad142=ad143:=(by injection e143)
         have hn143_0:ad142.block≠g:=Nat.ne_of_lt (Nat.lt_of_lt_of_le (by have:=World.block_lt_of_cell? _ _ hx143_0;first|rwa [add_block] at this|exact this) (IsS99.ge HI0.out))
         replace hx143_0:=pw_cell_below HB.out hx143_0
         replace hx143_0:=(cell_far (p:=⟨g,1,none⟩) (by first|(rw [add_block];exact hn143_0)|(show (Addr.add _ _).block≠_;rw [add_block];exact hn143_0)|exact hn143_0) (.int .i64 (wrap64 (s0_1 + 1)))).trans hx143_0
         (try have hy143_0:=fun (n_:Nat)=>(show (((w.drewN n_).setCell ⟨g,1,none⟩ (.int .i64 (wrap64 (s0_1 + 1))))).cell? _=some _ from hx143_0))
         clear hn143_0
         replace p143:=eq_true p143
         replace q143:=eq_true q143
         go_enter Tryd.func65,Tryd.ntmps65
         go_wp2
         repeat (go_quiet (fail);try go_wp2)
         go_ret
         exact ⟨by first|rfl|(simp [errW_none,errW_some] <;> rfl)|(simp only [← hji12,← hji15];first|rfl|(simp [errW_none,errW_some] <;> rfl))|(simp [*,errW_none,errW_some] <;> rfl),zi99,zg99,zhk⟩
       ·rw [if_neg c17] at H
        exact absurd H (by simp)
      ·rw [if_neg c16] at H
       exact absurd H (by simp)
     ·rw [if_neg c14] at H
      exact absurd H (by simp)
    ·rw [if_neg c13] at H
     exact absurd H (by simp)

/-! ### spec_l12Rd_num: function 87 -/
def spec_l12Rd_num.f (s0_0:List Int) (s0_1:Int) (l1:List Int):Option (Int × Int):=(spec_l12Rd_pick.f s0_0 s0_1 (l1.length:Int)).bind fun bt144=>(if 0≤bt144.1 then (if bt144.1 < (l1.length:Int) then (some (rd l1 bt144.1,bt144.2)) else (none)) else (none))
set_option maxHeartbeats 8000000 in
set_option maxRecDepth 100000 in
theorem spec_l12Rd_num.calls (g:Nat) (s0_0:List Int) (s0_1:Int) (A1:Option Addr) (c1:Nat) (l1:List Int) (r1:Int) (r2:Int) (w0 w:World) (hI:IsS99 w0 w g s0_0 s0_1) (hB:Below w0.heap.size w0 w) (hr1:Kd.C (Kd.int .i64) w A1 l1.length l1) (hc1:l1.length≤c1) (hf1 : ∀ ad,A1=some ad→0 < l1.length→ad.block≠g) (h:spec_l12Rd_num.f s0_0 s0_1 l1=some (r1,r2)) :
  Calls Tryd.prog 87 #[.pointer (some ⟨g,0,none⟩),.slice A1 l1.length c1] w fun e w'=>e=.returned (.int .i64 r1)∧IsS99 w0 w' g s0_0 r2∧Below w0.heap.size w0 w'∧KeepBut w w' g none:=by
 have HR1:=Aside0.mk hr1
 have HC1:=Aside0.mk hc1
 clear hr1 hc1
 have HI0:=Aside0.mk hI
 have HK:=Aside0.mk (KeepBut.refl w g none)
 have HL:=Aside0.mk hB.size
 clear hI
 have HW0:=Aside0.mk hB.size
 have HB:=Aside0.mk hB
 clear hB
 have H:((spec_l12Rd_pick.f s0_0 s0_1 (l1.length:Int)).bind fun bt144=>(if 0≤bt144.1 then (if bt144.1 < (l1.length:Int) then (some (rd l1 bt144.1,bt144.2)) else (none)) else (none)))=some (r1,r2):=h
 clear h
 replace H:=Option.bind_eq_some_iff.mp H
 obtain ⟨⟨t144,t145⟩,A30,H⟩:=H
 (try dsimp only at H)
 have A3:=Aside0.mk A30
 clear A30
 by_cases c4:0≤t144
 ·rw [if_pos c4] at H
  have c4b0:decide (0≤t144)=true:=decide_eq_true c4
  clear c4
  by_cases c5:t144 < (l1.length:Int)
  ·rw [if_pos c5] at H
   have c5b0:decide (t144 < (l1.length:Int))=true:=decide_eq_true c5
   clear c5
   simp only [Option.some.injEq,Prod.mk.injEq] at H
   obtain ⟨rfl,rfl⟩:=H
   go_enter Tryd.func87,Tryd.ntmps87
   go_wp2_with (first|((with_reducible refine gate_callee (f:=65) rfl ?_);refine goesL_ (some 9) rfl rfl Tryd.func65 (by kernel_rfl) rfl #[.pointer (some ⟨g,0,none⟩),.int .i64 (l1.length:Int)] rfl zar ?_;(with_reducible refine (spec_l12Rd_pick.calls g s0_0 s0_1 (l1.length:Int) t144 t145 w0 _ ?side1 ?side2 A3.out).mono ?_);(case side1=>exact zi99);(case side2=>exact zg99);rintro e w6 ⟨rfl,hi,hb,hk⟩;refine ⟨_,rfl,?_⟩;have n0_:=Aside0.mk (KeepBut.trans zhk hk (.inl rfl));have n1_:=Aside0.mk (hb);have n2_:=Aside0.mk (hi);clear HK;clear HB;clear HI0;have HK:=n0_;have HB:=n1_;have HI0:=n2_;clear n0_ n1_ n2_;(try clear hb);(try clear hb2);(try clear hk);(try clear hi);have p146:0≤(t144:Int):=zod;have q146:t144 < (l1.length:Int):=zod;obtain ⟨ad146,e146,hx146_0⟩:=Kd.at_int HR1.out t144 p146 q146;cases e146;replace hx146_0:=keep_cell HK.out hx146_0 (by first|(rw [add_block];exact hf1 _ rfl (by omega))|exact hf1 _ rfl (by omega)|exact hf1 ad146 rfl (by omega));replace p146:=eq_true p146;replace q146:=eq_true q146))
   go_ret
   exact ⟨by first|rfl|(simp [errW_none,errW_some] <;> rfl)|(simp [*,errW_none,errW_some] <;> rfl),zi99,zg99,zhk⟩
  ·rw [if_neg c5] at H
   exact absurd H (by simp)
 ·rw [if_neg c4] at H
  exact absurd H (by simp)

/-! ### spec_l1Row: function 86 -/
def spec_l1Row.l0:Nat→Int→List Int→Int→List Int→Int→Option (List Int × Int)
 | 0,_,_,_,_,_=>none
 | k + 1,x1,x5,x6,x1000,x1001=>if x6 < x1 then ((spec_l12Rd_num.f x1000 x1001 (([0,1,2,3,1,2,(-1),5]:List Int))).bind fun bt153=>(if x5.length < 17592186044416 then (spec_l1Row.l0 k x1 (x5 ++ [bt153.1]) (wrap64 (x6 + 1)) x1000 bt153.2) else (none))) else (some (x5,x1001))
def spec_l1Row.f (k:Nat) (s0_0:List Int) (s0_1:Int) (a1:Int):Option (List Int × Int):=spec_l1Row.l0 k a1 (([]:List Int)) 0 s0_0 s0_1
theorem spec_l1Row.mono_l : ∀ k,(∀ y0 y1 y2 y3 y4,LeO (spec_l1Row.l0 k y0 y1 y2 y3 y4) (spec_l1Row.l0 (k + 1) y0 y1 y2 y3 y4))
 | 0=>fun _ _ _ _ _ r h=>by simp [spec_l1Row.l0] at h
 | k + 1=>by
  have ih0:=spec_l1Row.mono_l k
  ·intro y0 y1 y2 y3 y4
   unfold spec_l1Row.l0
   repeat' first
   | (with_reducible exact ih0 _ _ _ _ _)
   | (with_reducible exact LeO.refl _)
   | (with_reducible exact LeO.none _)
   | (with_reducible refine LeO.ite ?_ ?_)
   | (with_reducible refine LeO.bind ?_ (fun _=>?_))
   | exact LeO.none _
   | refine LeO.ite ?_ ?_
   | refine LeO.bind ?_ (fun _=>?_)
theorem spec_l1Row.mono : ∀ a0 a1 a2 k,LeO (spec_l1Row.f k a0 a1 a2) (spec_l1Row.f (k + 1) a0 a1 a2):=by
 intro a0 a1 a2 k
 have ih0:=spec_l1Row.mono_l k
 unfold spec_l1Row.f
 repeat' first
   | (with_reducible exact ih0 _ _ _ _ _)
   | (with_reducible exact LeO.refl _)
   | (with_reducible exact LeO.none _)
   | (with_reducible refine LeO.ite ?_ ?_)
   | (with_reducible refine LeO.bind ?_ (fun _=>?_))
   | exact LeO.none _
   | refine LeO.ite ?_ ?_
   | refine LeO.bind ?_ (fun _=>?_)
set_option maxHeartbeats 8000000 in
set_option maxRecDepth 100000 in
theorem spec_l1Row.calls (k:Nat) (g:Nat) (s0_0:List Int) (s0_1:Int) (a1:Int) (r1:List Int) (r2:Int) (w0 w:World) (hI:IsS99 w0 w g s0_0 s0_1) (hB:Below w0.heap.size w0 w) (h:spec_l1Row.f k s0_0 s0_1 a1=some (r1,r2)) :
  Calls Tryd.prog 86 #[.pointer (some ⟨g,0,none⟩),.int .i64 a1] w fun e w'=>∃ v0_:Value,e=.returned (v0_)∧Kd.R (Kd.int .i64) 3 w' w.heap.size (fun _=>True) v0_ r1∧IsS99 w0 w' g s0_0 r2∧Below w0.heap.size w0 w'∧KeepBut w w' g none:=by
 have HI0:=Aside0.mk hI
 have HK:=Aside0.mk (KeepBut.refl w g none)
 have HL:=Aside0.mk hB.size
 clear hI
 have HW0:=Aside0.mk hB.size
 have HB:=Aside0.mk hB
 clear hB
 have H:(spec_l1Row.l0 k a1 (([]:List Int)) 0 s0_0 s0_1)=some (r1,r2):=h
 clear h
 obtain ⟨y147,hy147⟩ : ∃ y_:List Int,y_=(([]:List Int)):=⟨_,rfl⟩
 replace H:(spec_l1Row.l0 k a1 y147 0 s0_0 s0_1)=some (r1,r2):=by first|(rw [hy147];with_reducible exact H)|(have H2_:=(Option.bind_some _ _).symm.trans H;rw [hy147];with_reducible exact H2_)|(have H2_:=(Option.bind_some _ _).symm.trans H;with_reducible exact H2_)|with_reducible exact H|(rw [hy147];exact H)|exact H
 have Ny147:=Aside0.mk hy147
 clear hy147
 have H':=Aside0.mk H
 clear H
 go_enter Tryd.func86,Tryd.ntmps86
 go_wp2_with (first|((with_reducible refine gate_dst (N:=7) rfl ?_);refine Kd.R_lit (Kd.int .i64) _ 3 ?hg (N:=7) ?hd (xs:=([]:List Int)) (inner:=[]) (ok:=fun _=>True) (okp:=fun _=>True) ?hr ?hp (fun _ hk=>hk) trivial (Below.refl _ _) (Nat.le_refl _) (by simp) ?_;(case hd=>rfl);(case hg=>rfl);(case hr=>first|(go_simp;done)|(go_simp;rfl));(case hp=>exact (Reps.none _ _));intro v148 w3 ho4 hb hg_ hnew_;clear hg_ hnew_;(first|rw [← Ny147.out] at ho4|(simp only [Int.reduceToNat] at ho4;rw [← Ny147.out] at ho4));have n0_:=Aside0.mk (Kd.R_lower ho4 (keep_size (w:=w) (g:=g) (row:=none) zhk));have n1_:=Aside0.mk (IsS99.below zi99 hb);have n2_:=Aside0.mk (KeepBut.trans zhk (KeepBut.of_below hb g none) (.inl rfl));have n3_:=Aside0.mk (below_step zg99 hb);clear HI0;clear HK;clear HB;have HO149:=n0_;have HI0:=n1_;have HK:=n2_;have HB:=n3_;clear n0_ n1_ n2_ n3_;clear hb ho4))
 go_loopg [5,6] k (fun kq v5 v6 w'=>∃ (x5_1:List Int) (x6_1:Int) (x1001_1:Int),v6=.int .i64 x6_1∧Aside0 (spec_l1Row.l0 kq a1 x5_1 x6_1 s0_0 x1001_1=some (r1,r2))∧Aside0 (kq≤k)∧Aside0 (Kd.R (Kd.int .i64) 3 w' w.heap.size (fun _=>True) v5 x5_1)∧Aside0 (IsS99 w0 w' g s0_0 x1001_1)∧Aside0 (KeepBut w w' g none)∧Aside0 (Below w0.heap.size w0 w'))
 case atStart=>exact ⟨(y147),(0),(s0_1),(by first|rfl|(simp;done)|(simp [*];done)),H',⟨Nat.le_refl _⟩,⟨by (with_reducible repeat (first|apply Kd.R_alloc|apply Kd.R_drewN|apply Kd.R_drew));exact HO149.out⟩,⟨zi99⟩,⟨zhk⟩,⟨zg99⟩⟩
 case round =>
  clear H'
  try clear p2
  obtain ⟨x5_1,x6_1,x1001_1,rfl,HA,HK1,HO_5,HI0,HK,HB⟩:=hrel
  cases gk with
  | zero=>exact absurd HA.out (by simp [spec_l1Row.l0])
  | succ k1 =>
   have H:=HA.out
   clear HA
   simp only [spec_l1Row.l0] at H
   by_cases c5:x6_1 < a1
   ·rw [if_pos c5] at H
    have c5b0:decide (x6_1 < a1)=true:=decide_eq_true c5
    clear c5
    obtain ⟨y150,hy150⟩ : ∃ y_:List Int,y_=(([0,1,2,3,1,2,(-1),5]:List Int)):=⟨_,rfl⟩
    replace H:((spec_l12Rd_num.f s0_0 x1001_1 y150).bind fun bt153=>(if x5_1.length < 17592186044416 then (spec_l1Row.l0 k1 a1 (x5_1 ++ [bt153.1]) (wrap64 (x6_1 + 1)) s0_0 bt153.2) else (none)))=some (r1,r2):=by first|(rw [hy150];with_reducible exact H)|(have H2_:=(Option.bind_some _ _).symm.trans H;rw [hy150];with_reducible exact H2_)|(have H2_:=(Option.bind_some _ _).symm.trans H;with_reducible exact H2_)|with_reducible exact H|(rw [hy150];exact H)|exact H
    have Ny150:=Aside0.mk hy150
    clear hy150
    replace H:=Option.bind_eq_some_iff.mp H
    obtain ⟨⟨t153,t154⟩,A60,H⟩:=H
    (try dsimp only at H)
    have A6:=Aside0.mk A60
    clear A60
    by_cases c7:x5_1.length < 17592186044416
    ·rw [if_pos c7] at H
     have LMc7:=Aside0.mk c7
     clear c7
     obtain ⟨y155,hy155⟩ : ∃ y_:List Int,y_=(x5_1 ++ [t153]):=⟨_,rfl⟩
     replace H:(spec_l1Row.l0 k1 a1 y155 (wrap64 (x6_1 + 1)) s0_0 t154)=some (r1,r2):=by first|(rw [hy155];with_reducible exact H)|(have H2_:=(Option.bind_some _ _).symm.trans H;rw [hy155];with_reducible exact H2_)|(have H2_:=(Option.bind_some _ _).symm.trans H;with_reducible exact H2_)|with_reducible exact H|(rw [hy155];exact H)|exact H
     have Ny155:=Aside0.mk hy155
     clear hy155
     have H':=Aside0.mk H
     clear H
     go_wp2_with (first|((with_reducible refine gate_dst (N:=15) rfl ?_);refine Kd.R_lit (Kd.int .i64) _ 3 ?hg (N:=15) ?hd (xs:=([0,1,2,3,1,2,(-1),5]:List Int)) (inner:=[.int .i64 0,.int .i64 1,.int .i64 2,.int .i64 3,.int .i64 1,.int .i64 2,.int .i64 (-1),.int .i64 5]) (ok:=fun _=>True) (okp:=fun _=>True) ?hr ?hp (fun _ hk=>hk) trivial (Below.refl _ _) (Nat.le_refl _) (by simp) ?_;(case hd=>rfl);(case hg=>rfl);(case hr=>first|(go_simp;done)|(go_simp;rfl));(case hp=>exact (Reps.one (show Kd.M (Kd.int .i64) _ _ _ 0 [.int .i64 0] from rfl) (Reps.one (show Kd.M (Kd.int .i64) _ _ _ 1 [.int .i64 1] from rfl) (Reps.one (show Kd.M (Kd.int .i64) _ _ _ 2 [.int .i64 2] from rfl) (Reps.one (show Kd.M (Kd.int .i64) _ _ _ 3 [.int .i64 3] from rfl) (Reps.one (show Kd.M (Kd.int .i64) _ _ _ 1 [.int .i64 1] from rfl) (Reps.one (show Kd.M (Kd.int .i64) _ _ _ 2 [.int .i64 2] from rfl) (Reps.one (show Kd.M (Kd.int .i64) _ _ _ (-1) [.int .i64 (-1)] from rfl) (Reps.one (show Kd.M (Kd.int .i64) _ _ _ 5 [.int .i64 5] from rfl) (Reps.none _ _))))))))));intro v151 w8 ho9 hb hg_ hnew_;clear hg_ hnew_;(first|rw [← Ny150.out] at ho9|(simp only [Int.reduceToNat] at ho9;rw [← Ny150.out] at ho9));have n0_:=Aside0.mk (Kd.R_elder' (by (with_reducible repeat (first|apply Kd.R_alloc|apply Kd.R_drewN|apply Kd.R_drew));exact HO_5.out) (Kd.R_base ho9) hb);have n1_:=Aside0.mk (Kd.R_lower (Kd.R_new' ho9 (Kd.R_lt (by (with_reducible repeat (first|apply Kd.R_alloc|apply Kd.R_drewN|apply Kd.R_drew));exact HO_5.out))) (keep_size (w:=w) (g:=g) (row:=none) zhk));have n2_:=Aside0.mk (IsS99.below zi99 hb);have n3_:=Aside0.mk (KeepBut.trans zhk (KeepBut.of_below hb g none) (.inl rfl));have n4_:=Aside0.mk (below_step zg99 hb);clear HO_5;clear HI0;clear HK;clear HB;have HO_5:=n0_;have HO152:=n1_;have HI0:=n2_;have HK:=n3_;have HB:=n4_;clear n0_ n1_ n2_ n3_ n4_;clear hb ho9;obtain ⟨Ao10,co10,eo10⟩:=Kd.R_slice HO152.out;subst eo10)|((with_reducible refine gate_callee (f:=87) rfl ?_);refine goesL_ (some 16) rfl rfl Tryd.func87 (by kernel_rfl) rfl #[.pointer (some ⟨g,0,none⟩),.slice Ao10 y150.length co10] rfl zar ?_;(with_reducible refine (spec_l12Rd_num.calls g s0_0 x1001_1 _ _ y150 t153 t154 w0 _ ?side1 ?side2 ?side3 ?side4 ?side5 A6.out).mono ?_);(case side1=>exact zi99);(case side2=>exact zg99);(case side3=>repeat (first|exact (Kd.R_reads' HO152.out).2.2|(with_reducible refine Kd.C_alloc ?_ _)|(with_reducible refine Kd.C_drewN ?_ _)|(with_reducible refine Kd.C_drew ?_)));(case side4=>exact (Kd.R_reads' HO152.out).2.1);(case side5=>exact far_slice (IsS99.own_ne HI0.out HO152.out (by decide)));rintro e w11 ⟨rfl,hi,hb,hk⟩;refine ⟨_,rfl,?_⟩;have n0_:=Aside0.mk (Kd.R_mono (Kd.R_keep (IsS99.apart (show IsS99 w0 _ g s0_0 x1001_1 from zi99) (by (with_reducible repeat (first|apply Kd.R_alloc|apply Kd.R_drewN|apply Kd.R_drew));exact HO_5.out) (by decide)) hk (fun _ h=>h.2)) (fun _ h=>h.1));have n1_:=Aside0.mk (Kd.R_mono (Kd.R_keep (IsS99.apart (show IsS99 w0 _ g s0_0 x1001_1 from zi99) (by (with_reducible repeat (first|apply Kd.R_alloc|apply Kd.R_drewN|apply Kd.R_drew));exact HO152.out) (by decide)) hk (fun _ h=>h.2)) (fun _ h=>h.1));have n2_:=Aside0.mk (KeepBut.trans zhk hk (.inl rfl));have n3_:=Aside0.mk (hb);have n4_:=Aside0.mk (hi);clear HO_5;clear HO152;clear HK;clear HB;clear HI0;have HO_5:=n0_;have HO152:=n1_;have HK:=n2_;have HB:=n3_;have HI0:=n4_;clear n0_ n1_ n2_ n3_ n4_;(try clear hb);(try clear hb2);(try clear hk);(try clear hi))|((with_reducible refine gate_builtin (b:=.append) (xs:=#[.tmp 13,.tmp 17]) rfl ?_);at_builtin;refine Kd.R_append (Kd.int .i64) w.heap.size rfl (.tmp 13) (.tmp 17) 28 3 (.int .i64 0) 8 rfl Tryd.underlying28 info3 rfl (by decide) (by omega) u5 x5_1 t153 [.int .i64 t153] (fun k_=>some k_≠(.slice Ao10 y150.length co10:Value).ownBlock) (fun _=>False) rfl rfl ?aP (fun _ hk=>hk.elim) ?aF ?aO (Below.refl _ _) ?aS ?aL ?_;(case aP=>exact rfl);(case aF=>exact (fun k_ hk=>Kd.fresh' (Kd.R_lt (by (with_reducible repeat (first|apply Kd.R_alloc|apply Kd.R_drewN|apply Kd.R_drew));exact HO152.out)) k_ hk));(case aO=>exact (by (with_reducible repeat (first|apply Kd.R_alloc|apply Kd.R_drewN|apply Kd.R_drew));exact Kd.R_mono HO_5.out (fun _ hk=>hk.2)));(case aS=>exact (keep_size (w:=w) (g:=g) (row:=none) zhk));(case aL=>have:=LMc7.out;omega);intro v156 w12 ho hb hg hat;rw [← Ny155.out] at ho;have n0_:=Aside0.mk (IsS99.grown zi99 hg (IsS99.own_ne HI0.out HO_5.out (by decide)));have n1_:=Aside0.mk (Kd.R_after (ok:=(fun _=>True)) (by (with_reducible repeat (first|apply Kd.R_alloc|apply Kd.R_drewN|apply Kd.R_drew));exact HO152.out) hg hat);have n2_:=Aside0.mk (below_weaken zg99 HL.out hb);have n3_:=Aside0.mk (KeepBut.trans zhk (KeepBut.of_grown hg g) (Kd.R_base2 HO_5.out));have n4_:=Aside0.mk (ho);clear HI0;clear HO152;clear HB;clear HK;clear HO_5;have HI0:=n0_;have HO152:=n1_;have HB:=n2_;have HK:=n3_;have HO157:=n4_;clear n0_ n1_ n2_ n3_ n4_;clear ho hb hg hat))
     go_roundg k1
     case measure=>have:=HK1.out;omega
     case rel=>exact ⟨(y155),(wrap64 (x6_1 + 1)),(t154),(by first|rfl|(simp;done)|(simp [*];done)),H',⟨by have:=HK1.out;omega⟩,⟨by (with_reducible repeat (first|apply Kd.R_alloc|apply Kd.R_drewN|apply Kd.R_drew));exact Kd.R_mono HO157.out (fun _ hk=>trivial)⟩,⟨zi99⟩,⟨zhk⟩,⟨zg99⟩⟩
    ·rw [if_neg c7] at H
     exact absurd H (by simp)
   ·rw [if_neg c5] at H
    have c5b0:decide (x6_1 < a1)=false:=decide_eq_false c5
    clear c5
    simp only [Option.some.injEq,Prod.mk.injEq] at H
    obtain ⟨rfl,rfl⟩:=H
    go_wp2
    go_ret
    exact ⟨_,by first|rfl|(simp [errW_none,errW_some] <;> rfl)|(simp [*,errW_none,errW_some] <;> rfl),by (with_reducible repeat (first|apply Kd.R_alloc|apply Kd.R_drewN|apply Kd.R_drew));exact HO_5.out,zi99,zg99,zhk⟩

/-! ### spec_l1Bent: function 58 -/
def spec_l1Bent.f (k:Nat) (s0_0:List Int) (s0_1:Int):Option (List Int × Int):=(spec_l12Rd_pick.f s0_0 s0_1 4).bind fun bt158=>((spec_l1Row.f k s0_0 bt158.2 (wrap64 (1 + bt158.1))).bind fun bt160=>((spec_l12Rd_pick.f s0_0 bt160.2 30).bind fun bt164=>(if bt164.1=0 then (some ((([]:List Int)),bt164.2)) else (if bt164.1=1 then ((spec_l12Rd_num.f s0_0 bt164.2 (([1000000000,1000000001,(-1000000000),(-1000000001)]:List Int))).bind fun bt172=>(if 0 < (bt160.1.length:Int) then (some ((bt160.1.set (0:Int).toNat bt172.1),bt172.2)) else (none))) else (if bt164.1=2 then ((spec_l12Rd_num.f s0_0 bt164.2 (([6,7]:List Int))).bind fun bt178=>((spec_l1Row.f k s0_0 bt178.2 bt178.1).bind fun bt180=>(some (bt180.1,bt180.2)))) else (some (bt160.1,bt164.2)))))))
theorem spec_l1Bent.mono : ∀ a0 a1 k,LeO (spec_l1Bent.f k a0 a1) (spec_l1Bent.f (k + 1) a0 a1):=by
 intro a0 a1 k
 unfold spec_l1Bent.f
 repeat' first
   | (with_reducible exact spec_l1Row.mono _ _ _ _)
   | (with_reducible exact LeO.refl _)
   | (with_reducible exact LeO.none _)
   | (with_reducible refine LeO.ite ?_ ?_)
   | (with_reducible refine LeO.bind ?_ (fun _=>?_))
   | exact LeO.none _
   | refine LeO.ite ?_ ?_
   | refine LeO.bind ?_ (fun _=>?_)
set_option maxHeartbeats 8000000 in
set_option maxRecDepth 100000 in
theorem spec_l1Bent.calls (k:Nat) (g:Nat) (s0_0:List Int) (s0_1:Int) (r1:List Int) (r2:Int) (w0 w:World) (hI:IsS99 w0 w g s0_0 s0_1) (hB:Below w0.heap.size w0 w) (h:spec_l1Bent.f k s0_0 s0_1=some (r1,r2)) :
  Calls Tryd.prog 58 #[.pointer (some ⟨g,0,none⟩)] w fun e w'=>∃ v0_:Value,e=.returned (v0_)∧Kd.R (Kd.int .i64) 3 w' w.heap.size (fun _=>True) v0_ r1∧IsS99 w0 w' g s0_0 r2∧Below w0.heap.size w0 w'∧KeepBut w w' g none:=by
 have HI0:=Aside0.mk hI
 have HK:=Aside0.mk (KeepBut.refl w g none)
 have HL:=Aside0.mk hB.size
 clear hI
 have HW0:=Aside0.mk hB.size
 have HB:=Aside0.mk hB
 clear hB
 have H:((spec_l12Rd_pick.f s0_0 s0_1 4).bind fun bt158=>((spec_l1Row.f k s0_0 bt158.2 (wrap64 (1 + bt158.1))).bind fun bt160=>((spec_l12Rd_pick.f s0_0 bt160.2 30).bind fun bt164=>(if bt164.1=0 then (some ((([]:List Int)),bt164.2)) else (if bt164.1=1 then ((spec_l12Rd_num.f s0_0 bt164.2 (([1000000000,1000000001,(-1000000000),(-1000000001)]:List Int))).bind fun bt172=>(if 0 < (bt160.1.length:Int) then (some ((bt160.1.set (0:Int).toNat bt172.1),bt172.2)) else (none))) else (if bt164.1=2 then ((spec_l12Rd_num.f s0_0 bt164.2 (([6,7]:List Int))).bind fun bt178=>((spec_l1Row.f k s0_0 bt178.2 bt178.1).bind fun bt180=>(some (bt180.1,bt180.2)))) else (some (bt160.1,bt164.2))))))))=some (r1,r2):=h
 clear h
 replace H:=Option.bind_eq_some_iff.mp H
 obtain ⟨⟨t158,t159⟩,A20,H⟩:=H
 (try dsimp only at H)
 have A2:=Aside0.mk A20
 clear A20
 replace H:=Option.bind_eq_some_iff.mp H
 obtain ⟨⟨t160,t163⟩,A30,H⟩:=H
 (try dsimp only at H)
 have A3:=Aside0.mk A30
 clear A30
 replace H:=Option.bind_eq_some_iff.mp H
 obtain ⟨⟨t164,t165⟩,A40,H⟩:=H
 (try dsimp only at H)
 have A4:=Aside0.mk A40
 clear A40
 by_cases c5:t164=0
 ·rw [if_pos c5] at H
  have c5b0:(t164 == 0)=true:=beq_iff_eq.mpr c5
  have c5b1:(t164 != 0)=false:=bne_eq_false_iff_eq.mpr c5
  clear c5
  obtain ⟨y166,hy166⟩ : ∃ y_:List Int,y_=(([]:List Int)):=⟨_,rfl⟩
  replace H:(some (y166,t165))=some (r1,r2):=by first|(rw [hy166];with_reducible exact H)|(have H2_:=(Option.bind_some _ _).symm.trans H;rw [hy166];with_reducible exact H2_)|(have H2_:=(Option.bind_some _ _).symm.trans H;with_reducible exact H2_)|with_reducible exact H|(rw [hy166];exact H)|exact H
  have Ny166:=Aside0.mk hy166
  clear hy166
  simp only [Option.some.injEq,Prod.mk.injEq] at H
  obtain ⟨rfl,rfl⟩:=H
  go_enter Tryd.func58,Tryd.ntmps58
  go_wp2_with (first|((with_reducible refine gate_callee (f:=65) rfl ?_);refine goesL_ (some 6) rfl rfl Tryd.func65 (by kernel_rfl) rfl #[.pointer (some ⟨g,0,none⟩),.int .i64 4] rfl zar ?_;(with_reducible refine (spec_l12Rd_pick.calls g s0_0 s0_1 4 t158 t159 w0 _ ?side1 ?side2 A2.out).mono ?_);(case side1=>exact zi99);(case side2=>exact zg99);rintro e w6 ⟨rfl,hi,hb,hk⟩;refine ⟨_,rfl,?_⟩;have n0_:=Aside0.mk (KeepBut.trans zhk hk (.inl rfl));have n1_:=Aside0.mk (hb);have n2_:=Aside0.mk (hi);clear HK;clear HB;clear HI0;have HK:=n0_;have HB:=n1_;have HI0:=n2_;clear n0_ n1_ n2_;(try clear hb);(try clear hb2);(try clear hk);(try clear hi))|((with_reducible refine gate_callee (f:=86) rfl ?_);refine goesL_ (some 8) rfl rfl Tryd.func86 (by kernel_rfl) rfl #[.pointer (some ⟨g,0,none⟩),.int .i64 (wrap64 (1 + t158))] rfl zar ?_;(with_reducible refine (spec_l1Row.calls k g s0_0 t159 (wrap64 (1 + t158)) t160 t163 w0 _ ?side1 ?side2 A3.out).mono ?_);(case side1=>exact zi99);(case side2=>exact zg99);rintro e w7 ⟨v161,rfl,ho0,hi,hb,hk⟩;refine ⟨_,rfl,?_⟩;have n0_:=Aside0.mk (Kd.R_lower ho0 (keep_size (w:=w) (g:=g) (row:=none) zhk));have n1_:=Aside0.mk (KeepBut.trans zhk hk (.inl rfl));have n2_:=Aside0.mk (hb);have n3_:=Aside0.mk (hi);clear HK;clear HB;clear HI0;have HO162:=n0_;have HK:=n1_;have HB:=n2_;have HI0:=n3_;clear n0_ n1_ n2_ n3_;(try clear hb);(try clear hb2);(try clear hk);(try clear hi);(try clear ho0))|((with_reducible refine gate_callee (f:=65) rfl ?_);refine goesL_ (some 10) rfl rfl Tryd.func65 (by kernel_rfl) rfl #[.pointer (some ⟨g,0,none⟩),.int .i64 30] rfl zar ?_;(with_reducible refine (spec_l12Rd_pick.calls g s0_0 t163 30 t164 t165 w0 _ ?side1 ?side2 A4.out).mono ?_);(case side1=>exact zi99);(case side2=>exact zg99);rintro e w8 ⟨rfl,hi,hb,hk⟩;refine ⟨_,rfl,?_⟩;have n0_:=Aside0.mk (Kd.R_mono (Kd.R_keep (IsS99.apart (show IsS99 w0 _ g s0_0 t163 from zi99) (by (with_reducible repeat (first|apply Kd.R_alloc|apply Kd.R_drewN|apply Kd.R_drew));exact HO162.out) (by decide)) hk (fun _ h=>h.2)) (fun _ h=>h.1));have n1_:=Aside0.mk (KeepBut.trans zhk hk (.inl rfl));have n2_:=Aside0.mk (hb);have n3_:=Aside0.mk (hi);clear HO162;clear HK;clear HB;clear HI0;have HO162:=n0_;have HK:=n1_;have HB:=n2_;have HI0:=n3_;clear n0_ n1_ n2_ n3_;(try clear hb);(try clear hb2);(try clear hk);(try clear hi))|((with_reducible refine gate_dst (N:=13) rfl ?_);refine Kd.R_lit (Kd.int .i64) _ 3 ?hg (N:=13) ?hd (xs:=([]:List Int)) (inner:=[]) (ok:=fun _=>True) (okp:=fun _=>True) ?hr ?hp (fun _ hk=>hk) trivial (Below.refl _ _) (Nat.le_refl _) (by simp) ?_;(case hd=>rfl);(case hg=>rfl);(case hr=>first|(go_simp;done)|(go_simp;rfl));(case hp=>exact (Reps.none _ _));intro v167 w9 ho10 hb hg_ hnew_;clear hg_ hnew_;(first|rw [← Ny166.out] at ho10|(simp only [Int.reduceToNat] at ho10;rw [← Ny166.out] at ho10));have n0_:=Aside0.mk (Kd.R_elder' (by (with_reducible repeat (first|apply Kd.R_alloc|apply Kd.R_drewN|apply Kd.R_drew));exact HO162.out) (Kd.R_base ho10) hb);have n1_:=Aside0.mk (Kd.R_lower (Kd.R_new' ho10 (Kd.R_lt (by (with_reducible repeat (first|apply Kd.R_alloc|apply Kd.R_drewN|apply Kd.R_drew));exact HO162.out))) (keep_size (w:=w) (g:=g) (row:=none) zhk));have n2_:=Aside0.mk (IsS99.below zi99 hb);have n3_:=Aside0.mk (KeepBut.trans zhk (KeepBut.of_below hb g none) (.inl rfl));have n4_:=Aside0.mk (below_step zg99 hb);clear HO162;clear HI0;clear HK;clear HB;have HO162:=n0_;have HO168:=n1_;have HI0:=n2_;have HK:=n3_;have HB:=n4_;clear n0_ n1_ n2_ n3_ n4_;clear hb ho10))
  go_ret
  exact ⟨_,by first|rfl|(simp [errW_none,errW_some] <;> rfl)|(simp [*,errW_none,errW_some] <;> rfl),by (with_reducible repeat (first|apply Kd.R_alloc|apply Kd.R_drewN|apply Kd.R_drew));exact Kd.R_mono HO168.out (fun _ hk=>trivial),zi99,zg99,zhk⟩
 ·rw [if_neg c5] at H
  have c5b0:(t164 == 0)=false:=beq_eq_false_iff_ne.mpr c5
  have c5b1:(t164 != 0)=true:=bne_iff_ne.mpr c5
  by_cases c11:t164=1
  ·rw [if_pos c11] at H
   have c11b0:(t164 == 1)=true:=beq_iff_eq.mpr c11
   have c11b1:(t164 != 1)=false:=bne_eq_false_iff_eq.mpr c11
   clear c11
   obtain ⟨y169,hy169⟩ : ∃ y_:List Int,y_=(([1000000000,1000000001,(-1000000000),(-1000000001)]:List Int)):=⟨_,rfl⟩
   replace H:((spec_l12Rd_num.f s0_0 t165 y169).bind fun bt172=>(if 0 < (t160.length:Int) then (some ((t160.set (0:Int).toNat bt172.1),bt172.2)) else (none)))=some (r1,r2):=by first|(rw [hy169];with_reducible exact H)|(have H2_:=(Option.bind_some _ _).symm.trans H;rw [hy169];with_reducible exact H2_)|(have H2_:=(Option.bind_some _ _).symm.trans H;with_reducible exact H2_)|with_reducible exact H|(rw [hy169];exact H)|exact H
   have Ny169:=Aside0.mk hy169
   clear hy169
   replace H:=Option.bind_eq_some_iff.mp H
   obtain ⟨⟨t172,t173⟩,A120,H⟩:=H
   (try dsimp only at H)
   have A12:=Aside0.mk A120
   clear A120
   by_cases c13:0 < (t160.length:Int)
   ·rw [if_pos c13] at H
    have c13b0:decide (0 < (t160.length:Int))=true:=decide_eq_true c13
    have c13b1:decide (0 < t160.length)=true:=decide_eq_true (by omega)
    clear c13
    obtain ⟨y174,hy174⟩ : ∃ y_:List Int,y_=(t160.set (0:Int).toNat t172):=⟨_,rfl⟩
    replace H:(some (y174,t173))=some (r1,r2):=by first|(rw [hy174];with_reducible exact H)|(have H2_:=(Option.bind_some _ _).symm.trans H;rw [hy174];with_reducible exact H2_)|(have H2_:=(Option.bind_some _ _).symm.trans H;with_reducible exact H2_)|with_reducible exact H|(rw [hy174];exact H)|exact H
    have Ny174:=Aside0.mk hy174
    clear hy174
    simp only [Option.some.injEq,Prod.mk.injEq] at H
    obtain ⟨rfl,rfl⟩:=H
    go_enter Tryd.func58,Tryd.ntmps58
    go_wp2_with (first|((with_reducible refine gate_callee (f:=65) rfl ?_);refine goesL_ (some 6) rfl rfl Tryd.func65 (by kernel_rfl) rfl #[.pointer (some ⟨g,0,none⟩),.int .i64 4] rfl zar ?_;(with_reducible refine (spec_l12Rd_pick.calls g s0_0 s0_1 4 t158 t159 w0 _ ?side1 ?side2 A2.out).mono ?_);(case side1=>exact zi99);(case side2=>exact zg99);rintro e w15 ⟨rfl,hi,hb,hk⟩;refine ⟨_,rfl,?_⟩;have n0_:=Aside0.mk (KeepBut.trans zhk hk (.inl rfl));have n1_:=Aside0.mk (hb);have n2_:=Aside0.mk (hi);clear HK;clear HB;clear HI0;have HK:=n0_;have HB:=n1_;have HI0:=n2_;clear n0_ n1_ n2_;(try clear hb);(try clear hb2);(try clear hk);(try clear hi))|((with_reducible refine gate_callee (f:=86) rfl ?_);refine goesL_ (some 8) rfl rfl Tryd.func86 (by kernel_rfl) rfl #[.pointer (some ⟨g,0,none⟩),.int .i64 (wrap64 (1 + t158))] rfl zar ?_;(with_reducible refine (spec_l1Row.calls k g s0_0 t159 (wrap64 (1 + t158)) t160 t163 w0 _ ?side1 ?side2 A3.out).mono ?_);(case side1=>exact zi99);(case side2=>exact zg99);rintro e w16 ⟨v161,rfl,ho0,hi,hb,hk⟩;refine ⟨_,rfl,?_⟩;have n0_:=Aside0.mk (Kd.R_lower ho0 (keep_size (w:=w) (g:=g) (row:=none) zhk));have n1_:=Aside0.mk (KeepBut.trans zhk hk (.inl rfl));have n2_:=Aside0.mk (hb);have n3_:=Aside0.mk (hi);clear HK;clear HB;clear HI0;have HO162:=n0_;have HK:=n1_;have HB:=n2_;have HI0:=n3_;clear n0_ n1_ n2_ n3_;(try clear hb);(try clear hb2);(try clear hk);(try clear hi);(try clear ho0))|((with_reducible refine gate_callee (f:=65) rfl ?_);refine goesL_ (some 10) rfl rfl Tryd.func65 (by kernel_rfl) rfl #[.pointer (some ⟨g,0,none⟩),.int .i64 30] rfl zar ?_;(with_reducible refine (spec_l12Rd_pick.calls g s0_0 t163 30 t164 t165 w0 _ ?side1 ?side2 A4.out).mono ?_);(case side1=>exact zi99);(case side2=>exact zg99);rintro e w17 ⟨rfl,hi,hb,hk⟩;refine ⟨_,rfl,?_⟩;have n0_:=Aside0.mk (Kd.R_mono (Kd.R_keep (IsS99.apart (show IsS99 w0 _ g s0_0 t163 from zi99) (by (with_reducible repeat (first|apply Kd.R_alloc|apply Kd.R_drewN|apply Kd.R_drew));exact HO162.out) (by decide)) hk (fun _ h=>h.2)) (fun _ h=>h.1));have n1_:=Aside0.mk (KeepBut.trans zhk hk (.inl rfl));have n2_:=Aside0.mk (hb);have n3_:=Aside0.mk (hi);clear HO162;clear HK;clear HB;clear HI0;have HO162:=n0_;have HK:=n1_;have HB:=n2_;have HI0:=n3_;clear n0_ n1_ n2_ n3_;(try clear hb);(try clear hb2);(try clear hk);(try clear hi))|((with_reducible refine gate_dst (N:=18) rfl ?_);refine Kd.R_lit (Kd.int .i64) _ 3 ?hg (N:=18) ?hd (xs:=([1000000000,1000000001,(-1000000000),(-1000000001)]:List Int)) (inner:=[.int .i64 1000000000,.int .i64 1000000001,.int .i64 (-1000000000),.int .i64 (-1000000001)]) (ok:=fun _=>True) (okp:=fun _=>True) ?hr ?hp (fun _ hk=>hk) trivial (Below.refl _ _) (Nat.le_refl _) (by simp) ?_;(case hd=>rfl);(case hg=>rfl);(case hr=>first|(go_simp;done)|(go_simp;rfl));(case hp=>exact (Reps.one (show Kd.M (Kd.int .i64) _ _ _ 1000000000 [.int .i64 1000000000] from rfl) (Reps.one (show Kd.M (Kd.int .i64) _ _ _ 1000000001 [.int .i64 1000000001] from rfl) (Reps.one (show Kd.M (Kd.int .i64) _ _ _ (-1000000000) [.int .i64 (-1000000000)] from rfl) (Reps.one (show Kd.M (Kd.int .i64) _ _ _ (-1000000001) [.int .i64 (-1000000001)] from rfl) (Reps.none _ _))))));intro v170 w18 ho19 hb hg_ hnew_;clear hg_ hnew_;(first|rw [← Ny169.out] at ho19|(simp only [Int.reduceToNat] at ho19;rw [← Ny169.out] at ho19));have n0_:=Aside0.mk (Kd.R_elder' (by (with_reducible repeat (first|apply Kd.R_alloc|apply Kd.R_drewN|apply Kd.R_drew));exact HO162.out) (Kd.R_base ho19) hb);have n1_:=Aside0.mk (Kd.R_lower (Kd.R_new' ho19 (Kd.R_lt (by (with_reducible repeat (first|apply Kd.R_alloc|apply Kd.R_drewN|apply Kd.R_drew));exact HO162.out))) (keep_size (w:=w) (g:=g) (row:=none) zhk));have n2_:=Aside0.mk (IsS99.below zi99 hb);have n3_:=Aside0.mk (KeepBut.trans zhk (KeepBut.of_below hb g none) (.inl rfl));have n4_:=Aside0.mk (below_step zg99 hb);clear HO162;clear HI0;clear HK;clear HB;have HO162:=n0_;have HO171:=n1_;have HI0:=n2_;have HK:=n3_;have HB:=n4_;clear n0_ n1_ n2_ n3_ n4_;clear hb ho19;obtain ⟨Ao20,co20,eo20⟩:=Kd.R_slice HO171.out;subst eo20)|((with_reducible refine gate_callee (f:=87) rfl ?_);refine goesL_ (some 19) rfl rfl Tryd.func87 (by kernel_rfl) rfl #[.pointer (some ⟨g,0,none⟩),.slice Ao20 y169.length co20] rfl zar ?_;(with_reducible refine (spec_l12Rd_num.calls g s0_0 t165 _ _ y169 t172 t173 w0 _ ?side1 ?side2 ?side3 ?side4 ?side5 A12.out).mono ?_);(case side1=>exact zi99);(case side2=>exact zg99);(case side3=>repeat (first|exact (Kd.R_reads' HO171.out).2.2|(with_reducible refine Kd.C_alloc ?_ _)|(with_reducible refine Kd.C_drewN ?_ _)|(with_reducible refine Kd.C_drew ?_)));(case side4=>exact (Kd.R_reads' HO171.out).2.1);(case side5=>exact far_slice (IsS99.own_ne HI0.out HO171.out (by decide)));rintro e w21 ⟨rfl,hi,hb,hk⟩;refine ⟨_,rfl,?_⟩;have n0_:=Aside0.mk (Kd.R_mono (Kd.R_keep (IsS99.apart (show IsS99 w0 _ g s0_0 t165 from zi99) (by (with_reducible repeat (first|apply Kd.R_alloc|apply Kd.R_drewN|apply Kd.R_drew));exact HO162.out) (by decide)) hk (fun _ h=>h.2)) (fun _ h=>h.1));have n1_:=Aside0.mk (Kd.R_mono (Kd.R_keep (IsS99.apart (show IsS99 w0 _ g s0_0 t165 from zi99) (by (with_reducible repeat (first|apply Kd.R_alloc|apply Kd.R_drewN|apply Kd.R_drew));exact HO171.out) (by decide)) hk (fun _ h=>h.2)) (fun _ h=>h.1));have n2_:=Aside0.mk (KeepBut.trans zhk hk (.inl rfl));have n3_:=Aside0.mk (hb);have n4_:=Aside0.mk (hi);clear HO162;clear HO171;clear HK;clear HB;clear HI0;have HO162:=n0_;have HO171:=n1_;have HK:=n2_;have HB:=n3_;have HI0:=n4_;clear n0_ n1_ n2_ n3_ n4_;(try clear hb);(try clear hb2);(try clear hk);(try clear hi);have p14:0≤(0:Int):=(by omega);have q14:(0:Int) < ((t160.length:Int):Int):=zod;have qi14:(0 < t160.length)=True:=eq_true (by omega);obtain ⟨go14,co14,eo14,gb14,gl14,cl14,HG14⟩:=Kd.R_form HO162.out (by omega);(first|cases eo14|(injection eo14 with ea_ en_ ec_;(first|subst ea_|(injection ea_ with ea_;subst ea_));subst ec_;clear en_));have GB14:=Aside0.mk gb14;have GG14:=Aside0.mk HG14;clear gb14 gl14 HG14;obtain ⟨hx14_0,hf14_0⟩:=Kd.R_celln 0 HO162.out (0:Int) p14 q14;(try rw [show ((0:Int)).toNat=0 from rfl] at hx14_0);(try simp only [Nat.reduceMul,Nat.zero_mul,Nat.zero_add,Nat.reduceAdd] at hx14_0);(try rw [show ((0:Int)).toNat=0 from rfl] at hf14_0);(try simp only [Nat.reduceMul,Nat.zero_mul,Nat.zero_add,Nat.reduceAdd] at hf14_0);replace p14:=eq_true p14;replace q14:=eq_true q14;have n_:=Aside0.mk (Kd.R_mono (ok':=(fun k_=>some k_≠(.slice Ao20 y169.length co20:Value).ownBlock)) HO162.out (fun k_ hk=>hk.2));clear HO162;have HO162:=n_;clear n_;obtain ⟨hy22_,hz22_⟩:=Kd.R_celln 0 HO162.out (0:Int) (by omega) (zod);(try simp only [Int.reduceToNat,Int.toNat_zero,Int.toNat_ofNat,Nat.reduceMul,Nat.zero_mul,Nat.zero_add] at hy22_ hz22_);(try rw [show ((0:Int)).toNat=0 from rfl] at hy22_);(try rw [show ((0:Int)).toNat=0 from rfl] at hz22_);have HP22:=Kd.R_putg HO162.out (0:Int) t172)|((with_reducible refine gate_store (t:=3) (p:=20) rfl ?_);refine store_event (t:=3) (p:=20) (v:=?vo_w23) (w1:=(w21.setCell ⟨go14,(0:Int).toNat,none⟩ (.int .i64 t172))) ?hg ?ho ?hn ?hr ?_;(case ho=>rfl);(case hg=>rfl);(case hn=>rfl);(case hr=>first|(go_simp;done)|(go_simp;rfl));intro w23 hw;have hg:w21.grownBy w23 (some go14):=(by rw [hw];exact HP22.2);have hp_:Kd.R (Kd.int .i64) 3 w23 w.heap.size (fun k_=>some k_≠(.slice Ao20 y169.length co20:Value).ownBlock) (.slice (some ⟨go14,0,none⟩) t160.length co14) y174:=(by rw [hw,Ny174.out];exact HP22.1);clear HP22;have n0_:=Aside0.mk (IsS99.grown zi99 hg (IsS99.own_ne HI0.out HO162.out (by decide)));have n1_:=Aside0.mk (hp_);have n2_:=Aside0.mk (Kd.R_after (v:=(.slice (some ⟨go14,0,none⟩) t160.length co14)) (v1:=(.slice (some ⟨go14,0,none⟩) t160.length co14)) (ok:=(fun _=>True)) (by (with_reducible repeat (first|apply Kd.R_alloc|apply Kd.R_drewN|apply Kd.R_drew));exact HO171.out) hg (.inl rfl));have n3_:=Aside0.mk ((by rw [hw];exact below_set (HB.out) (Nat.le_trans HL.out GB14.out):Below w0.heap.size w0 w23));have n4_:=Aside0.mk (KeepBut.trans zhk (KeepBut.of_grown hg g) (Kd.R_base2 HO162.out));clear HI0;clear HO162;clear HO171;clear HB;clear HK;have HI0:=n0_;have HO162:=n1_;have HO171:=n2_;have HB:=n3_;have HK:=n4_;clear n0_ n1_ n2_ n3_ n4_;clear hg hw hp_))
    go_ret
    exact ⟨_,by first|rfl|(simp [errW_none,errW_some] <;> rfl)|(simp [*,errW_none,errW_some] <;> rfl),by (with_reducible repeat (first|apply Kd.R_alloc|apply Kd.R_drewN|apply Kd.R_drew));exact Kd.R_mono HO162.out (fun _ hk=>trivial),zi99,zg99,zhk⟩
   ·rw [if_neg c13] at H
    exact absurd H (by simp)
  ·rw [if_neg c11] at H
   have c11b0:(t164 == 1)=false:=beq_eq_false_iff_ne.mpr c11
   have c11b1:(t164 != 1)=true:=bne_iff_ne.mpr c11
   by_cases c24:t164=2
   ·rw [if_pos c24] at H
    have c24b0:(t164 == 2)=true:=beq_iff_eq.mpr c24
    have c24b1:(t164 != 2)=false:=bne_eq_false_iff_eq.mpr c24
    clear c24
    obtain ⟨y175,hy175⟩ : ∃ y_:List Int,y_=(([6,7]:List Int)):=⟨_,rfl⟩
    replace H:((spec_l12Rd_num.f s0_0 t165 y175).bind fun bt178=>((spec_l1Row.f k s0_0 bt178.2 bt178.1).bind fun bt180=>(some (bt180.1,bt180.2))))=some (r1,r2):=by first|(rw [hy175];with_reducible exact H)|(have H2_:=(Option.bind_some _ _).symm.trans H;rw [hy175];with_reducible exact H2_)|(have H2_:=(Option.bind_some _ _).symm.trans H;with_reducible exact H2_)|with_reducible exact H|(rw [hy175];exact H)|exact H
    have Ny175:=Aside0.mk hy175
    clear hy175
    replace H:=Option.bind_eq_some_iff.mp H
    obtain ⟨⟨t178,t179⟩,A250,H⟩:=H
    (try dsimp only at H)
    have A25:=Aside0.mk A250
    clear A250
    replace H:=Option.bind_eq_some_iff.mp H
    obtain ⟨⟨t180,t183⟩,A260,H⟩:=H
    (try dsimp only at H)
    have A26:=Aside0.mk A260
    clear A260
    simp only [Option.some.injEq,Prod.mk.injEq] at H
    obtain ⟨rfl,rfl⟩:=H
    go_enter Tryd.func58,Tryd.ntmps58
    go_wp2_with (first|((with_reducible refine gate_callee (f:=65) rfl ?_);refine goesL_ (some 6) rfl rfl Tryd.func65 (by kernel_rfl) rfl #[.pointer (some ⟨g,0,none⟩),.int .i64 4] rfl zar ?_;(with_reducible refine (spec_l12Rd_pick.calls g s0_0 s0_1 4 t158 t159 w0 _ ?side1 ?side2 A2.out).mono ?_);(case side1=>exact zi99);(case side2=>exact zg99);rintro e w27 ⟨rfl,hi,hb,hk⟩;refine ⟨_,rfl,?_⟩;have n0_:=Aside0.mk (KeepBut.trans zhk hk (.inl rfl));have n1_:=Aside0.mk (hb);have n2_:=Aside0.mk (hi);clear HK;clear HB;clear HI0;have HK:=n0_;have HB:=n1_;have HI0:=n2_;clear n0_ n1_ n2_;(try clear hb);(try clear hb2);(try clear hk);(try clear hi))|((with_reducible refine gate_callee (f:=86) rfl ?_);refine goesL_ (some 8) rfl rfl Tryd.func86 (by kernel_rfl) rfl #[.pointer (some ⟨g,0,none⟩),.int .i64 (wrap64 (1 + t158))] rfl zar ?_;(with_reducible refine (spec_l1Row.calls k g s0_0 t159 (wrap64 (1 + t158)) t160 t163 w0 _ ?side1 ?side2 A3.out).mono ?_);(case side1=>exact zi99);(case side2=>exact zg99);rintro e w28 ⟨v161,rfl,ho0,hi,hb,hk⟩;refine ⟨_,rfl,?_⟩;have n0_:=Aside0.mk (Kd.R_lower ho0 (keep_size (w:=w) (g:=g) (row:=none) zhk));have n1_:=Aside0.mk (KeepBut.trans zhk hk (.inl rfl));have n2_:=Aside0.mk (hb);have n3_:=Aside0.mk (hi);clear HK;clear HB;clear HI0;have HO162:=n0_;have HK:=n1_;have HB:=n2_;have HI0:=n3_;clear n0_ n1_ n2_ n3_;(try clear hb);(try clear hb2);(try clear hk);(try clear hi);(try clear ho0))|((with_reducible refine gate_callee (f:=65) rfl ?_);refine goesL_ (some 10) rfl rfl Tryd.func65 (by kernel_rfl) rfl #[.pointer (some ⟨g,0,none⟩),.int .i64 30] rfl zar ?_;(with_reducible refine (spec_l12Rd_pick.calls g s0_0 t163 30 t164 t165 w0 _ ?side1 ?side2 A4.out).mono ?_);(case side1=>exact zi99);(case side2=>exact zg99);rintro e w29 ⟨rfl,hi,hb,hk⟩;refine ⟨_,rfl,?_⟩;have n0_:=Aside0.mk (Kd.R_mono (Kd.R_keep (IsS99.apart (show IsS99 w0 _ g s0_0 t163 from zi99) (by (with_reducible repeat (first|apply Kd.R_alloc|apply Kd.R_drewN|apply Kd.R_drew));exact HO162.out) (by decide)) hk (fun _ h=>h.2)) (fun _ h=>h.1));have n1_:=Aside0.mk (KeepBut.trans zhk hk (.inl rfl));have n2_:=Aside0.mk (hb);have n3_:=Aside0.mk (hi);clear HO162;clear HK;clear HB;clear HI0;have HO162:=n0_;have HK:=n1_;have HB:=n2_;have HI0:=n3_;clear n0_ n1_ n2_ n3_;(try clear hb);(try clear hb2);(try clear hk);(try clear hi))|((with_reducible refine gate_dst (N:=25) rfl ?_);refine Kd.R_lit (Kd.int .i64) _ 3 ?hg (N:=25) ?hd (xs:=([6,7]:List Int)) (inner:=[.int .i64 6,.int .i64 7]) (ok:=fun _=>True) (okp:=fun _=>True) ?hr ?hp (fun _ hk=>hk) trivial (Below.refl _ _) (Nat.le_refl _) (by simp) ?_;(case hd=>rfl);(case hg=>rfl);(case hr=>first|(go_simp;done)|(go_simp;rfl));(case hp=>exact (Reps.one (show Kd.M (Kd.int .i64) _ _ _ 6 [.int .i64 6] from rfl) (Reps.one (show Kd.M (Kd.int .i64) _ _ _ 7 [.int .i64 7] from rfl) (Reps.none _ _))));intro v176 w30 ho31 hb hg_ hnew_;clear hg_ hnew_;(first|rw [← Ny175.out] at ho31|(simp only [Int.reduceToNat] at ho31;rw [← Ny175.out] at ho31));have n0_:=Aside0.mk (Kd.R_elder' (by (with_reducible repeat (first|apply Kd.R_alloc|apply Kd.R_drewN|apply Kd.R_drew));exact HO162.out) (Kd.R_base ho31) hb);have n1_:=Aside0.mk (Kd.R_lower (Kd.R_new' ho31 (Kd.R_lt (by (with_reducible repeat (first|apply Kd.R_alloc|apply Kd.R_drewN|apply Kd.R_drew));exact HO162.out))) (keep_size (w:=w) (g:=g) (row:=none) zhk));have n2_:=Aside0.mk (IsS99.below zi99 hb);have n3_:=Aside0.mk (KeepBut.trans zhk (KeepBut.of_below hb g none) (.inl rfl));have n4_:=Aside0.mk (below_step zg99 hb);clear HO162;clear HI0;clear HK;clear HB;have HO162:=n0_;have HO177:=n1_;have HI0:=n2_;have HK:=n3_;have HB:=n4_;clear n0_ n1_ n2_ n3_ n4_;clear hb ho31;obtain ⟨Ao32,co32,eo32⟩:=Kd.R_slice HO177.out;subst eo32)|((with_reducible refine gate_callee (f:=87) rfl ?_);refine goesL_ (some 26) rfl rfl Tryd.func87 (by kernel_rfl) rfl #[.pointer (some ⟨g,0,none⟩),.slice Ao32 y175.length co32] rfl zar ?_;(with_reducible refine (spec_l12Rd_num.calls g s0_0 t165 _ _ y175 t178 t179 w0 _ ?side1 ?side2 ?side3 ?side4 ?side5 A25.out).mono ?_);(case side1=>exact zi99);(case side2=>exact zg99);(case side3=>repeat (first|exact (Kd.R_reads' HO177.out).2.2|(with_reducible refine Kd.C_alloc ?_ _)|(with_reducible refine Kd.C_drewN ?_ _)|(with_reducible refine Kd.C_drew ?_)));(case side4=>exact (Kd.R_reads' HO177.out).2.1);(case side5=>exact far_slice (IsS99.own_ne HI0.out HO177.out (by decide)));rintro e w33 ⟨rfl,hi,hb,hk⟩;refine ⟨_,rfl,?_⟩;have n0_:=Aside0.mk (Kd.R_mono (Kd.R_keep (IsS99.apart (show IsS99 w0 _ g s0_0 t165 from zi99) (by (with_reducible repeat (first|apply Kd.R_alloc|apply Kd.R_drewN|apply Kd.R_drew));exact HO162.out) (by decide)) hk (fun _ h=>h.2)) (fun _ h=>h.1));have n1_:=Aside0.mk (Kd.R_mono (Kd.R_keep (IsS99.apart (show IsS99 w0 _ g s0_0 t165 from zi99) (by (with_reducible repeat (first|apply Kd.R_alloc|apply Kd.R_drewN|apply Kd.R_drew));exact HO177.out) (by decide)) hk (fun _ h=>h.2)) (fun _ h=>h.1));have n2_:=Aside0.mk (KeepBut.trans zhk hk (.inl rfl));have n3_:=Aside0.mk (hb);have n4_:=Aside0.mk (hi);clear HO162;clear HO177;clear HK;clear HB;clear HI0;have HO162:=n0_;have HO177:=n1_;have HK:=n2_;have HB:=n3_;have HI0:=n4_;clear n0_ n1_ n2_ n3_ n4_;(try clear hb);(try clear hb2);(try clear hk);(try clear hi))|((with_reducible refine gate_callee (f:=86) rfl ?_);refine goesL_ (some 27) rfl rfl Tryd.func86 (by kernel_rfl) rfl #[.pointer (some ⟨g,0,none⟩),.int .i64 t178] rfl zar ?_;(with_reducible refine (spec_l1Row.calls k g s0_0 t179 t178 t180 t183 w0 _ ?side1 ?side2 A26.out).mono ?_);(case side1=>exact zi99);(case side2=>exact zg99);rintro e w34 ⟨v181,rfl,ho0,hi,hb,hk⟩;refine ⟨_,rfl,?_⟩;have n0_:=Aside0.mk (Kd.R_mono (Kd.R_told (Kd.R_oldK (IsS99.apart (show IsS99 w0 _ g s0_0 t179 from zi99) (by (with_reducible repeat (first|apply Kd.R_alloc|apply Kd.R_drewN|apply Kd.R_drew));exact HO162.out) (by decide)) hk) (Kd.R_base ho0)) (fun _ h_=>h_.1));have n1_:=Aside0.mk (Kd.R_mono (Kd.R_told (Kd.R_oldK (IsS99.apart (show IsS99 w0 _ g s0_0 t179 from zi99) (by (with_reducible repeat (first|apply Kd.R_alloc|apply Kd.R_drewN|apply Kd.R_drew));exact HO177.out) (by decide)) hk) (Kd.R_base ho0)) (fun _ h_=>h_.1));have n2_:=Aside0.mk (Kd.R_lower (Kd.R_new' (Kd.R_new' ho0 (Kd.R_lt (by (with_reducible repeat (first|apply Kd.R_alloc|apply Kd.R_drewN|apply Kd.R_drew));exact HO162.out))) (Kd.R_lt (by (with_reducible repeat (first|apply Kd.R_alloc|apply Kd.R_drewN|apply Kd.R_drew));exact HO177.out))) (keep_size (w:=w) (g:=g) (row:=none) zhk));have n3_:=Aside0.mk (KeepBut.trans zhk hk (.inl rfl));have n4_:=Aside0.mk (hb);have n5_:=Aside0.mk (hi);clear HO162;clear HO177;clear HK;clear HB;clear HI0;have HO162:=n0_;have HO177:=n1_;have HO182:=n2_;have HK:=n3_;have HB:=n4_;have HI0:=n5_;clear n0_ n1_ n2_ n3_ n4_ n5_;(try clear hb);(try clear hb2);(try clear hk);(try clear hi);(try clear ho0)))
    go_ret
    exact ⟨_,by first|rfl|(simp [errW_none,errW_some] <;> rfl)|(simp [*,errW_none,errW_some] <;> rfl),by (with_reducible repeat (first|apply Kd.R_alloc|apply Kd.R_drewN|apply Kd.R_drew));exact Kd.R_mono HO182.out (fun _ hk=>trivial),zi99,zg99,zhk⟩
   ·rw [if_neg c24] at H
    have c24b0:(t164 == 2)=false:=beq_eq_false_iff_ne.mpr c24
    have c24b1:(t164 != 2)=true:=bne_iff_ne.mpr c24
    simp only [Option.some.injEq,Prod.mk.injEq] at H
    obtain ⟨rfl,rfl⟩:=H
    go_enter Tryd.func58,Tryd.ntmps58
    go_wp2_with (first|((with_reducible refine gate_callee (f:=65) rfl ?_);refine goesL_ (some 6) rfl rfl Tryd.func65 (by kernel_rfl) rfl #[.pointer (some ⟨g,0,none⟩),.int .i64 4] rfl zar ?_;(with_reducible refine (spec_l12Rd_pick.calls g s0_0 s0_1 4 t158 t159 w0 _ ?side1 ?side2 A2.out).mono ?_);(case side1=>exact zi99);(case side2=>exact zg99);rintro e w35 ⟨rfl,hi,hb,hk⟩;refine ⟨_,rfl,?_⟩;have n0_:=Aside0.mk (KeepBut.trans zhk hk (.inl rfl));have n1_:=Aside0.mk (hb);have n2_:=Aside0.mk (hi);clear HK;clear HB;clear HI0;have HK:=n0_;have HB:=n1_;have HI0:=n2_;clear n0_ n1_ n2_;(try clear hb);(try clear hb2);(try clear hk);(try clear hi))|((with_reducible refine gate_callee (f:=86) rfl ?_);refine goesL_ (some 8) rfl rfl Tryd.func86 (by kernel_rfl) rfl #[.pointer (some ⟨g,0,none⟩),.int .i64 (wrap64 (1 + t158))] rfl zar ?_;(with_reducible refine (spec_l1Row.calls k g s0_0 t159 (wrap64 (1 + t158)) t160 t163 w0 _ ?side1 ?side2 A3.out).mono ?_);(case side1=>exact zi99);(case side2=>exact zg99);rintro e w36 ⟨v161,rfl,ho0,hi,hb,hk⟩;refine ⟨_,rfl,?_⟩;have n0_:=Aside0.mk (Kd.R_lower ho0 (keep_size (w:=w) (g:=g) (row:=none) zhk));have n1_:=Aside0.mk (KeepBut.trans zhk hk (.inl rfl));have n2_:=Aside0.mk (hb);have n3_:=Aside0.mk (hi);clear HK;clear HB;clear HI0;have HO162:=n0_;have HK:=n1_;have HB:=n2_;have HI0:=n3_;clear n0_ n1_ n2_ n3_;(try clear hb);(try clear hb2);(try clear hk);(try clear hi);(try clear ho0))|((with_reducible refine gate_callee (f:=65) rfl ?_);refine goesL_ (some 10) rfl rfl Tryd.func65 (by kernel_rfl) rfl #[.pointer (some ⟨g,0,none⟩),.int .i64 30] rfl zar ?_;(with_reducible refine (spec_l12Rd_pick.calls g s0_0 t163 30 t164 t165 w0 _ ?side1 ?side2 A4.out).mono ?_);(case side1=>exact zi99);(case side2=>exact zg99);rintro e w37 ⟨rfl,hi,hb,hk⟩;refine ⟨_,rfl,?_⟩;have n0_:=Aside0.mk (Kd.R_mono (Kd.R_keep (IsS99.apart (show IsS99 w0 _ g s0_0 t163 from zi99) (by (with_reducible repeat (first|apply Kd.R_alloc|apply Kd.R_drewN|apply Kd.R_drew));exact HO162.out) (by decide)) hk (fun _ h=>h.2)) (fun _ h=>h.1));have n1_:=Aside0.mk (KeepBut.trans zhk hk (.inl rfl));have n2_:=Aside0.mk (hb);have n3_:=Aside0.mk (hi);clear HO162;clear HK;clear HB;clear HI0;have HO162:=n0_;have HK:=n1_;have HB:=n2_;have HI0:=n3_;clear n0_ n1_ n2_ n3_;(try clear hb);(try clear hb2);(try clear hk);(try clear hi)))
    go_ret
    exact ⟨_,by first|rfl|(simp [errW_none,errW_some] <;> rfl)|(simp [*,errW_none,errW_some] <;> rfl),by (with_reducible repeat (first|apply Kd.R_alloc|apply Kd.R_drewN|apply Kd.R_drew));exact HO162.out,zi99,zg99,zhk⟩

/-! ### spec_l12Open: function 59 -/
def spec_l12Open.f (l0:List Int):Option (List Int × Int):=if (l0.length:Int) > 2000 then (if 2000≤(l0.length:Int) then (some (l0.take 2000,0)) else (none)) else (some (l0,0))
set_option maxHeartbeats 8000000 in
set_option maxRecDepth 100000 in
theorem spec_l12Open.calls (A0:Option Addr) (c0:Nat) (l0:List Int) (r1:List Int) (r2:Int) (w0 w:World) (hB:Below w0.heap.size w0 w) (hr0:Kd.C (Kd.int .u8) w0 A0 l0.length l0) (hc0:l0.length≤c0) (h:spec_l12Open.f l0=some (r1,r2)) :
  Calls Tryd.prog 59 #[.slice A0 l0.length c0] w fun e w'=>∃ g_:Nat,e=.returned (.pointer (some ⟨g_,0,none⟩))∧IsS99 w0 w' g_ r1 r2∧Below w0.heap.size w0 w'∧Below w.heap.size w w':=by
 have hu99:=Tryd.underlying99
 have HR0:=Aside0.mk hr0
 have HC0:=Aside0.mk hc0
 clear hr0 hc0
 have HBW:=Aside0.mk (Below.refl w.heap.size w)
 have HW0:=Aside0.mk hB.size
 have HB:=Aside0.mk hB
 clear hB
 have H:(if (l0.length:Int) > 2000 then (if 2000≤(l0.length:Int) then (some (l0.take 2000,0)) else (none)) else (some (l0,0)))=some (r1,r2):=h
 clear h
 by_cases c2:(l0.length:Int) > 2000
 ·rw [if_pos c2] at H
  have c2b0:decide (2000 < (l0.length:Int))=true:=decide_eq_true c2
  have c2b1:decide (2000 < l0.length)=true:=decide_eq_true (by omega)
  clear c2
  by_cases c3:2000≤(l0.length:Int)
  ·rw [if_pos c3] at H
   have c3b0:=eq_true c3
   have c3b1:decide (2000≤(l0.length:Int))=true:=decide_eq_true c3
   clear c3
   simp only [Option.some.injEq,Prod.mk.injEq] at H
   obtain ⟨rfl,rfl⟩:=H
   obtain ⟨i04,hi04,_,hsz4,_⟩:=info_parts info5
   obtain ⟨hcut4,hA4,hC4⟩:=print_take_of (P:=Tryd.prog) (Value.int .u8) 0 38 5 .i64 Tryd.underlying38 hi04 hsz4 A0 c0 l0 2000 (by omega) (zod) HC0.out
   have HR184:=Aside0.mk (Kd.C_of_reads (h1:=fun _=>rfl) (hA4 _ (Kd.reads_of_C HR0.out)))
   have HC184:=Aside0.mk hC4
   clear hA4 hC4 hi04 hsz4
   go_enter Tryd.func59,Tryd.ntmps59
   go_wp2_with (first|((with_reducible refine gate_dst (N:=10) rfl ?_);refine box_event ?hg (N:=10) ?hd (cs:=#[.slice A0 (l0.take 2000).length c0,.int .i64 0]) (t:=99) ?hr ?_;(case hd=>rfl);(case hg=>rfl);(case hr=>first|(go_simp;done)|(go_simp;rfl));intro gb185 hg w5 hbox hb;have n0_:=Aside0.mk (below_step HBW.out hb);have n1_:=Aside0.mk (below_step zhb hb);have n2_:=Aside0.mk (hbox);have n3_:=Aside0.mk ((by rw [hg];exact (below_size (by repeat (first|(with_reducible first|exact HBW.out|apply below_alloc|apply pw_below_drewN|apply below_drew1)|exact HBW.out))):w.heap.size≤gb185));have n4_:=Aside0.mk ((Nat.le_trans HW0.out (by rw [hg];exact (below_size (by repeat (first|(with_reducible first|exact HBW.out|apply below_alloc|apply pw_below_drewN|apply below_drew1)|exact HBW.out))):w.heap.size≤gb185):w0.heap.size≤gb185));clear HBW;clear HB;have HBW:=n0_;have HB:=n1_;have BK185:=n2_;have GW185:=n3_;have GE185:=n4_;clear n0_ n1_ n2_ n3_ n4_;clear hb hbox hg))
   go_ret
   exact ⟨_,rfl,(show IsS99 w0 _ gb185 (l0.take 2000) 0 from ⟨_,_,by (with_reducible repeat (first|refine blk_drewN ?_ _|refine blk_drew ?_|refine blk_alloc ?_ _));exact BK185.out,GE185.out,HR184.out⟩),by repeat (first|(with_reducible first|exact HB.out|apply below_alloc|apply pw_below_drewN|apply below_drew1|refine below_set ?_ GE185.out)|exact HB.out),by repeat (first|(with_reducible first|exact HBW.out|apply below_alloc|apply pw_below_drewN|apply below_drew1|refine below_set ?_ GW185.out)|exact HBW.out)⟩
  ·rw [if_neg c3] at H
   exact absurd H (by simp)
 ·rw [if_neg c2] at H
  have c2b0:decide (2000 < (l0.length:Int))=false:=decide_eq_false c2
  have c2b1:decide (2000 < l0.length)=false:=decide_eq_false (by omega)
  clear c2
  simp only [Option.some.injEq,Prod.mk.injEq] at H
  obtain ⟨rfl,rfl⟩:=H
  go_enter Tryd.func59,Tryd.ntmps59
  go_wp2_with (first|((with_reducible refine gate_dst (N:=10) rfl ?_);refine box_event ?hg (N:=10) ?hd (cs:=#[.slice A0 l0.length c0,.int .i64 0]) (t:=99) ?hr ?_;(case hd=>rfl);(case hg=>rfl);(case hr=>first|(go_simp;done)|(go_simp;rfl));intro gb186 hg w6 hbox hb;have n0_:=Aside0.mk (below_step HBW.out hb);have n1_:=Aside0.mk (below_step zhb hb);have n2_:=Aside0.mk (hbox);have n3_:=Aside0.mk ((by rw [hg];exact (below_size (by repeat (first|(with_reducible first|exact HBW.out|apply below_alloc|apply pw_below_drewN|apply below_drew1)|exact HBW.out))):w.heap.size≤gb186));have n4_:=Aside0.mk ((Nat.le_trans HW0.out (by rw [hg];exact (below_size (by repeat (first|(with_reducible first|exact HBW.out|apply below_alloc|apply pw_below_drewN|apply below_drew1)|exact HBW.out))):w.heap.size≤gb186):w0.heap.size≤gb186));clear HBW;clear HB;have HBW:=n0_;have HB:=n1_;have BK186:=n2_;have GW186:=n3_;have GE186:=n4_;clear n0_ n1_ n2_ n3_ n4_;clear hb hbox hg))
  go_ret
  exact ⟨_,rfl,(show IsS99 w0 _ gb186 l0 0 from ⟨_,_,by (with_reducible repeat (first|refine blk_drewN ?_ _|refine blk_drew ?_|refine blk_alloc ?_ _));exact BK186.out,GE186.out,HR0.out⟩),by repeat (first|(with_reducible first|exact HB.out|apply below_alloc|apply pw_below_drewN|apply below_drew1|refine below_set ?_ GE186.out)|exact HB.out),by repeat (first|(with_reducible first|exact HBW.out|apply below_alloc|apply pw_below_drewN|apply below_drew1|refine below_set ?_ GW186.out)|exact HBW.out)⟩

/-! ### spec_DrawRowText: function 31 -/
def spec_DrawRowText.f (k:Nat) (l0:List Int):Option (List Int):=(spec_l12Open.f l0).bind fun bt187=>((spec_l1Bent.f k bt187.1 bt187.2).bind fun bt190=>(some bt190.1))
theorem spec_DrawRowText.mono : ∀ a0 k,LeO (spec_DrawRowText.f k a0) (spec_DrawRowText.f (k + 1) a0):=by
 intro a0 k
 unfold spec_DrawRowText.f
 repeat' first
   | (with_reducible exact spec_l1Bent.mono _ _ _)
   | (with_reducible exact LeO.refl _)
   | (with_reducible exact LeO.none _)
   | (with_reducible refine LeO.ite ?_ ?_)
   | (with_reducible refine LeO.bind ?_ (fun _=>?_))
   | exact LeO.none _
   | refine LeO.ite ?_ ?_
   | refine LeO.bind ?_ (fun _=>?_)
set_option maxHeartbeats 8000000 in
set_option maxRecDepth 100000 in
theorem spec_DrawRowText.calls (k:Nat) (A0:Option Addr) (c0:Nat) (l0:List Int) (r:List Int) (w:World) (hr0:Kd.C (Kd.int .u8) w A0 l0.length l0) (hc0:l0.length≤c0) (h:spec_DrawRowText.f k l0=some r) :
  Calls Tryd.prog 31 #[.slice A0 l0.length c0] w fun e w'=>∃ v0_:Value,e=.returned (v0_)∧Kd.R (Kd.int .i64) 3 w' w.heap.size (fun _=>True) v0_ r∧Below w.heap.size w w':=by
 have HR0:=Aside0.mk hr0
 have HC0:=Aside0.mk hc0
 clear hr0 hc0
 have HB:=Aside0.mk (Below.refl w.heap.size w)
 have H:((spec_l12Open.f l0).bind fun bt187=>((spec_l1Bent.f k bt187.1 bt187.2).bind fun bt190=>(some bt190.1)))=some r:=h
 clear h
 replace H:=Option.bind_eq_some_iff.mp H
 obtain ⟨⟨t187,t188⟩,A20,H⟩:=H
 (try dsimp only at H)
 have A2:=Aside0.mk A20
 clear A20
 replace H:=Option.bind_eq_some_iff.mp H
 obtain ⟨⟨t190,t193⟩,A30,H⟩:=H
 (try dsimp only at H)
 have A3:=Aside0.mk A30
 clear A30
 obtain rfl:=Option.some.inj H
 go_enter Tryd.func31,Tryd.ntmps31
 go_wp2_with (first|((with_reducible refine gate_callee (f:=59) rfl ?_);refine goesL_ (some 4) rfl rfl Tryd.func59 (by kernel_rfl) rfl #[.slice A0 l0.length c0] rfl zar ?_;(with_reducible refine (spec_l12Open.calls _ _ l0 t187 t188 w _ ?side1 ?side2 ?side3 A2.out).mono ?_);(case side1=>exact zhb);(case side2=>exact HR0.out);(case side3=>exact HC0.out);rintro e w4 ⟨g189,rfl,hi,hb,hb2⟩;refine ⟨_,rfl,?_⟩;have n0_:=Aside0.mk (hb);have n1_:=Aside0.mk (hi);clear HB;have HB:=n0_;have HI189:=n1_;clear n0_ n1_;(try clear hb);(try clear hb2);(try clear hk);(try clear hi))|((with_reducible refine gate_callee (f:=58) rfl ?_);refine goesL_ (some 5) rfl rfl Tryd.func58 (by kernel_rfl) rfl #[.pointer (some ⟨g189,0,none⟩)] rfl zar ?_;(with_reducible refine (spec_l1Bent.calls k g189 t187 t188 t190 t193 w _ ?side1 ?side2 A3.out).mono ?_);(case side1=>repeat (first|(with_reducible first|exact HI189.out|apply IsS99.alloc|apply IsS99.drewN|apply IsS99.drew|apply IsS99.set_1)|exact HI189.out));(case side2=>repeat (first|(with_reducible first|exact HB.out|apply below_alloc|apply pw_below_drewN|apply below_drew1|refine below_set ?_ (IsS99.ge HI189.out))|exact HB.out));rintro e w5 ⟨v191,rfl,ho0,hi,hb,hk⟩;refine ⟨_,rfl,?_⟩;have n0_:=Aside0.mk (Kd.R_lower ho0 (below_size (by repeat (first|(with_reducible first|exact HB.out|apply below_alloc|apply pw_below_drewN|apply below_drew1|refine below_set ?_ (IsS99.ge HI189.out))|exact HB.out))));have n1_:=Aside0.mk (hb);have n2_:=Aside0.mk (hi);clear HB;clear HI189;have HO192:=n0_;have HB:=n1_;have HI189:=n2_;clear n0_ n1_ n2_;(try clear hb);(try clear hb2);(try clear hk);(try clear hi);(try clear ho0)))
 go_ret
 exact ⟨_,by first|rfl|(simp [errW_none,errW_some] <;> rfl)|(simp [*,errW_none,errW_some] <;> rfl),by (with_reducible repeat (first|apply Kd.R_alloc|apply Kd.R_drewN|apply Kd.R_drew));exact HO192.out,by repeat (first|(with_reducible first|exact HB.out|apply below_alloc|apply pw_below_drewN|apply below_drew1|refine below_set ?_ (IsS99.ge HI189.out))|exact HB.out)⟩

/-! ### slices_Equal_int_int: function 64 -/
def slices_Equal_int_int.l0:Nat→List Int→List Int→Int→Int→Option (Bool)
 | 0,_,_,_,_=>none
 | k + 1,x0,x1,x12,x13=>if x13 < x12 then (if 0≤x13 then (if x13 < (x0.length:Int) then (if x13 < (x1.length:Int) then (if (rd x0 x13)=(rd x1 x13) then (slices_Equal_int_int.l0 k x0 x1 x12 (wrap64 (x13 + 1))) else (some false)) else (none)) else (none)) else (none)) else (some true)
def slices_Equal_int_int.f (k:Nat) (l0:List Int) (l1:List Int):Option (Bool):=if (l0.length:Int)=(l1.length:Int) then (slices_Equal_int_int.l0 k l0 l1 (l0.length:Int) 0) else (some false)
theorem slices_Equal_int_int.mono_l : ∀ k,(∀ y0 y1 y2 y3,LeO (slices_Equal_int_int.l0 k y0 y1 y2 y3) (slices_Equal_int_int.l0 (k + 1) y0 y1 y2 y3))
 | 0=>fun _ _ _ _ r h=>by simp [slices_Equal_int_int.l0] at h
 | k + 1=>by
  have ih0:=slices_Equal_int_int.mono_l k
  ·intro y0 y1 y2 y3
   unfold slices_Equal_int_int.l0
   repeat' first
   | (with_reducible exact ih0 _ _ _ _)
   | (with_reducible exact LeO.refl _)
   | (with_reducible exact LeO.none _)
   | (with_reducible refine LeO.ite ?_ ?_)
   | (with_reducible refine LeO.bind ?_ (fun _=>?_))
   | exact LeO.none _
   | refine LeO.ite ?_ ?_
   | refine LeO.bind ?_ (fun _=>?_)
theorem slices_Equal_int_int.mono : ∀ a0 a1 k,LeO (slices_Equal_int_int.f k a0 a1) (slices_Equal_int_int.f (k + 1) a0 a1):=by
 intro a0 a1 k
 have ih0:=slices_Equal_int_int.mono_l k
 unfold slices_Equal_int_int.f
 repeat' first
   | (with_reducible exact ih0 _ _ _ _)
   | (with_reducible exact LeO.refl _)
   | (with_reducible exact LeO.none _)
   | (with_reducible refine LeO.ite ?_ ?_)
   | (with_reducible refine LeO.bind ?_ (fun _=>?_))
   | exact LeO.none _
   | refine LeO.ite ?_ ?_
   | refine LeO.bind ?_ (fun _=>?_)
set_option maxHeartbeats 8000000 in
set_option maxRecDepth 100000 in
theorem slices_Equal_int_int.calls (k:Nat) (A0:Option Addr) (c0:Nat) (l0:List Int) (A1:Option Addr) (c1:Nat) (l1:List Int) (r:Bool) (w:World) (hr0:Kd.C (Kd.int .i64) w A0 l0.length l0) (hc0:l0.length≤c0) (hr1:Kd.C (Kd.int .i64) w A1 l1.length l1) (hc1:l1.length≤c1) (h:slices_Equal_int_int.f k l0 l1=some r) :
  Calls Tryd.prog 64 #[.slice A0 l0.length c0,.slice A1 l1.length c1] w fun e w'=>e=.returned (.bool r)∧Drawn0 w w':=by
 have HR0:=Aside0.mk hr0
 have HC0:=Aside0.mk hc0
 clear hr0 hc0
 have HR1:=Aside0.mk hr1
 have HC1:=Aside0.mk hc1
 clear hr1 hc1
 have H:(if (l0.length:Int)=(l1.length:Int) then (slices_Equal_int_int.l0 k l0 l1 (l0.length:Int) 0) else (some false))=some r:=h
 clear h
 by_cases c3:(l0.length:Int)=(l1.length:Int)
 ·rw [if_pos c3] at H
  have c3b0:((l0.length:Int) == (l1.length:Int))=true:=beq_iff_eq.mpr c3
  have c3b1:((l0.length:Int) != (l1.length:Int))=false:=bne_eq_false_iff_eq.mpr c3
  have c3b2:(l0.length == l1.length)=true:=by first|simpa using c3|(simp at c3 ⊢;omega)
  clear c3
  have H':=Aside0.mk H
  clear H
  go_enter Tryd.func64,Tryd.ntmps64
  go_wp2
  repeat (go_quiet (fail);try go_wp2)
  go_loopg [13] k (fun kq v13 w'=>∃ (x13_1:Int),v13=.int .i64 x13_1∧Aside0 (slices_Equal_int_int.l0 kq l0 l1 (l0.length:Int) x13_1=some r)∧Aside0 (kq≤k)∧Drawn0 w w')
  case atStart=>exact ⟨(0),(by first|rfl|(simp;done)|(simp [*];done)),H',⟨Nat.le_refl _⟩,zdw⟩
  case round =>
   clear H'
   try clear c1
   try clear p2
   try clear c3
   try clear c3b0
   try clear c3b1
   try clear c3b2
   obtain ⟨x13_1,rfl,HA,HK1,⟨m1,rfl⟩⟩:=hrel
   cases gk with
   | zero=>exact absurd HA.out (by simp [slices_Equal_int_int.l0])
   | succ k1 =>
    have H:=HA.out
    clear HA
    simp only [slices_Equal_int_int.l0] at H
    by_cases c4:x13_1 < (l0.length:Int)
    ·rw [if_pos c4] at H
     have c4b0:decide (x13_1 < (l0.length:Int))=true:=decide_eq_true c4
     clear c4
     by_cases c5:0≤x13_1
     ·rw [if_pos c5] at H
      have c5b0:decide (0≤x13_1)=true:=decide_eq_true c5
      clear c5
      by_cases c6:x13_1 < (l0.length:Int)
      ·rw [if_pos c6] at H
       have c6b0:decide (x13_1 < (l0.length:Int))=true:=decide_eq_true c6
       clear c6
       by_cases c7:x13_1 < (l1.length:Int)
       ·rw [if_pos c7] at H
        have c7b0:decide (x13_1 < (l1.length:Int))=true:=decide_eq_true c7
        clear c7
        by_cases c8:(rd l0 x13_1)=(rd l1 x13_1)
        ·rw [if_pos c8] at H
         have c8b0:((rd l0 x13_1) == (rd l1 x13_1))=true:=beq_iff_eq.mpr c8
         have c8b1:((rd l0 x13_1) != (rd l1 x13_1))=false:=bne_eq_false_iff_eq.mpr c8
         clear c8
         have H':=Aside0.mk H
         clear H
         have p194:0≤(x13_1:Int):=zod
         have q194:x13_1 < (l0.length:Int):=zod
         obtain ⟨ad194,e194,hx194_0⟩:=Kd.at_int HR0.out x13_1 p194 q194
         cases e194
         replace p194:=eq_true p194
         replace q194:=eq_true q194
         have p195:0≤(x13_1:Int):=zod
         have q195:x13_1 < (l1.length:Int):=zod
         obtain ⟨ad195,e195,hx195_0⟩:=Kd.at_int HR1.out x13_1 p195 q195
         cases e195
         replace p195:=eq_true p195
         replace q195:=eq_true q195
         go_wp2
         repeat (go_quiet (fail);try go_wp2)
         go_roundg k1
         case measure=>have:=HK1.out;omega
         case rel=>exact ⟨(wrap64 (x13_1 + 1)),(by first|rfl|(simp;done)|(simp [*];done)),H',⟨by have:=HK1.out;omega⟩,zdw⟩
        ·rw [if_neg c8] at H
         have c8b0:((rd l0 x13_1) == (rd l1 x13_1))=false:=beq_eq_false_iff_ne.mpr c8
         have c8b1:((rd l0 x13_1) != (rd l1 x13_1))=true:=bne_iff_ne.mpr c8
         obtain rfl:=Option.some.inj H
         have p194:0≤(x13_1:Int):=zod
         have q194:x13_1 < (l0.length:Int):=zod
         obtain ⟨ad194,e194,hx194_0⟩:=Kd.at_int HR0.out x13_1 p194 q194
         cases e194
         replace p194:=eq_true p194
         replace q194:=eq_true q194
         have p195:0≤(x13_1:Int):=zod
         have q195:x13_1 < (l1.length:Int):=zod
         obtain ⟨ad195,e195,hx195_0⟩:=Kd.at_int HR1.out x13_1 p195 q195
         cases e195
         replace p195:=eq_true p195
         replace q195:=eq_true q195
         go_wp2
         repeat (go_quiet (fail);try go_wp2)
         go_ret
         exact ⟨by first|rfl|(simp;done)|(simp [*];done),zdw⟩
       ·rw [if_neg c7] at H
        exact absurd H (by simp)
      ·rw [if_neg c6] at H
       exact absurd H (by simp)
     ·rw [if_neg c5] at H
      exact absurd H (by simp)
    ·rw [if_neg c4] at H
     have c4b0:decide (x13_1 < (l0.length:Int))=false:=decide_eq_false c4
     clear c4
     obtain rfl:=Option.some.inj H
     go_wp2
     repeat (go_quiet (fail);try go_wp2)
     go_ret
     exact ⟨by first|rfl|(simp;done)|(simp [*];done),zdw⟩
 ·rw [if_neg c3] at H
  have c3b0:((l0.length:Int) == (l1.length:Int))=false:=beq_eq_false_iff_ne.mpr c3
  have c3b1:((l0.length:Int) != (l1.length:Int))=true:=bne_iff_ne.mpr c3
  have c3b2:(l0.length == l1.length)=false:=by first|simpa using c3|(simp at c3 ⊢;omega)
  obtain rfl:=Option.some.inj H
  go_enter Tryd.func64,Tryd.ntmps64
  go_wp2
  repeat (go_quiet (fail);try go_wp2)
  go_ret
  exact ⟨by first|rfl|(simp;done)|(simp [*];done),zdw⟩

/-! ### impl_RowSame: function 34 -/
def impl_RowSame.f (k:Nat) (l0:List Int) (l1:List Int):Option (Bool):=(slices_Equal_int_int.f k l0 l1).bind fun t196=>(some t196)
theorem impl_RowSame.mono : ∀ a0 a1 k,LeO (impl_RowSame.f k a0 a1) (impl_RowSame.f (k + 1) a0 a1):=by
 intro a0 a1 k
 unfold impl_RowSame.f
 repeat' first
   | (with_reducible exact slices_Equal_int_int.mono _ _ _)
   | (with_reducible exact LeO.refl _)
   | (with_reducible exact LeO.none _)
   | (with_reducible refine LeO.ite ?_ ?_)
   | (with_reducible refine LeO.bind ?_ (fun _=>?_))
   | exact LeO.none _
   | refine LeO.ite ?_ ?_
   | refine LeO.bind ?_ (fun _=>?_)
set_option maxHeartbeats 8000000 in
set_option maxRecDepth 100000 in
theorem impl_RowSame.calls (k:Nat) (A0:Option Addr) (c0:Nat) (l0:List Int) (A1:Option Addr) (c1:Nat) (l1:List Int) (r:Bool) (w:World) (hr0:Kd.C (Kd.int .i64) w A0 l0.length l0) (hc0:l0.length≤c0) (hr1:Kd.C (Kd.int .i64) w A1 l1.length l1) (hc1:l1.length≤c1) (h:impl_RowSame.f k l0 l1=some r) :
  Calls Tryd.prog 34 #[.slice A0 l0.length c0,.slice A1 l1.length c1] w fun e w'=>e=.returned (.bool r)∧Drawn0 w w':=by
 have HR0:=Aside0.mk hr0
 have HC0:=Aside0.mk hc0
 clear hr0 hc0
 have HR1:=Aside0.mk hr1
 have HC1:=Aside0.mk hc1
 clear hr1 hc1
 have H:((slices_Equal_int_int.f k l0 l1).bind fun t196=>(some t196))=some r:=h
 clear h
 replace H:=Option.bind_eq_some_iff.mp H
 obtain ⟨t196,A30,H⟩:=H
 (try dsimp only at H)
 have A3:=Aside0.mk A30
 clear A30
 obtain rfl:=Option.some.inj H
 go_enter Tryd.func34,Tryd.ntmps34
 go_wp2_with (first|((with_reducible refine gate_callee (f:=64) rfl ?_);refine goesL_ (some 7) rfl rfl Tryd.func64 (by kernel_rfl) rfl #[.slice A0 l0.length c0,.slice A1 l1.length c1] rfl zar ?_;(with_reducible refine (slices_Equal_int_int.calls k _ _ l0 _ _ l1 t196 _ ?side1 ?side2 ?side3 ?side4 A3.out).mono ?_);(case side1=>exact zC HR0.out);(case side2=>exact HC0.out);(case side3=>exact zC HR1.out);(case side4=>exact HC1.out);rintro e w' ⟨rfl,⟨nd,rfl⟩⟩;refine ⟨_,rfl,?_⟩))
 go_ret
 exact ⟨by first|rfl|(simp;done)|(simp [*];done),zdw⟩

/-! ### spec_l12Rd_of: function 66 -/
def spec_l12Rd_of.f (s0_0:List Int) (s0_1:Int) (l1:List ByteArray):Option (ByteArray × Int):=(spec_l12Rd_pick.f s0_0 s0_1 (l1.length:Int)).bind fun bt197=>(if 0≤bt197.1 then (if bt197.1 < (l1.length:Int) then (some (rdOf ByteArray.empty l1 bt197.1,bt197.2)) else (none)) else (none))
set_option maxHeartbeats 8000000 in
set_option maxRecDepth 100000 in
theorem spec_l12Rd_of.calls (g:Nat) (s0_0:List Int) (s0_1:Int) (A1:Option Addr) (c1:Nat) (l1:List ByteArray) (r1:ByteArray) (r2:Int) (w0 w:World) (hI:IsS99 w0 w g s0_0 s0_1) (hB:Below w0.heap.size w0 w) (hr1:Kd.C Kd.string w A1 l1.length l1) (hc1:l1.length≤c1) (hf1 : ∀ ad,A1=some ad→0 < l1.length→ad.block≠g) (h:spec_l12Rd_of.f s0_0 s0_1 l1=some (r1,r2)) :
  Calls Tryd.prog 66 #[.pointer (some ⟨g,0,none⟩),.slice A1 l1.length c1] w fun e w'=>e=.returned (.string r1)∧IsS99 w0 w' g s0_0 r2∧Below w0.heap.size w0 w'∧KeepBut w w' g none:=by
 have HR1:=Aside0.mk hr1
 have HC1:=Aside0.mk hc1
 clear hr1 hc1
 have HI0:=Aside0.mk hI
 have HK:=Aside0.mk (KeepBut.refl w g none)
 have HL:=Aside0.mk hB.size
 clear hI
 have HW0:=Aside0.mk hB.size
 have HB:=Aside0.mk hB
 clear hB
 have H:((spec_l12Rd_pick.f s0_0 s0_1 (l1.length:Int)).bind fun bt197=>(if 0≤bt197.1 then (if bt197.1 < (l1.length:Int) then (some (rdOf ByteArray.empty l1 bt197.1,bt197.2)) else (none)) else (none)))=some (r1,r2):=h
 clear h
 replace H:=Option.bind_eq_some_iff.mp H
 obtain ⟨⟨t197,t198⟩,A30,H⟩:=H
 (try dsimp only at H)
 have A3:=Aside0.mk A30
 clear A30
 by_cases c4:0≤t197
 ·rw [if_pos c4] at H
  have c4b0:decide (0≤t197)=true:=decide_eq_true c4
  clear c4
  by_cases c5:t197 < (l1.length:Int)
  ·rw [if_pos c5] at H
   have c5b0:decide (t197 < (l1.length:Int))=true:=decide_eq_true c5
   clear c5
   simp only [Option.some.injEq,Prod.mk.injEq] at H
   obtain ⟨rfl,rfl⟩:=H
   go_enter Tryd.func66,Tryd.ntmps66
   go_wp2_with (first|((with_reducible refine gate_callee (f:=65) rfl ?_);refine goesL_ (some 9) rfl rfl Tryd.func65 (by kernel_rfl) rfl #[.pointer (some ⟨g,0,none⟩),.int .i64 (l1.length:Int)] rfl zar ?_;(with_reducible refine (spec_l12Rd_pick.calls g s0_0 s0_1 (l1.length:Int) t197 t198 w0 _ ?side1 ?side2 A3.out).mono ?_);(case side1=>exact zi99);(case side2=>exact zg99);rintro e w6 ⟨rfl,hi,hb,hk⟩;refine ⟨_,rfl,?_⟩;have n0_:=Aside0.mk (KeepBut.trans zhk hk (.inl rfl));have n1_:=Aside0.mk (hb);have n2_:=Aside0.mk (hi);clear HK;clear HB;clear HI0;have HK:=n0_;have HB:=n1_;have HI0:=n2_;clear n0_ n1_ n2_;(try clear hb);(try clear hb2);(try clear hk);(try clear hi);have p199:0≤(t197:Int):=zod;have q199:t197 < (l1.length:Int):=zod;obtain ⟨ad199,e199,hx199_0⟩:=Kd.at_string HR1.out t197 p199 q199;cases e199;replace hx199_0:=keep_cell HK.out hx199_0 (by first|(rw [add_block];exact hf1 _ rfl (by omega))|exact hf1 _ rfl (by omega)|exact hf1 ad199 rfl (by omega));replace p199:=eq_true p199;replace q199:=eq_true q199))
   go_ret
   exact ⟨by first|rfl|(simp [errW_none,errW_some] <;> rfl)|(simp [*,errW_none,errW_some] <;> rfl),zi99,zg99,zhk⟩
  ·rw [if_neg c5] at H
   exact absurd H (by simp)
 ·rw [if_neg c4] at H
  exact absurd H (by simp)

end Go.Proofs.YtgcplipimcbhlaaDoor.PFnRow
