-- Written by wip/tools/pp.py, a program of this session over the kit's printer: not the kit's own print
import Derived.Test.YtlknceioincaeaaDoorPFnJoinx0
import Derived.Test.YtlknceioincaeaaDoorPFnJoinx4
import Derived.Test.YtlknceioincaeaaDoorPFnJoinx5
import Derived.Test.YtlknceioincaeaaDoorPFnJoinx6
namespace Go.Proofs.YtlknceioincaeaaDoor.PFnJoin
open Go.RowKit Go.Proofs.YtlknceioincaeaaDoorW.PrintWords Go.Proofs.YtlknceioincaeaaDoorW.PrintLast Go.Proofs.YtlknceioincaeaaDoorW.PrintMore
attribute [local go_sem] max2_int min2_int max_two min_two max_three min_three max_four min_four   -- for this text's walks alone
set_option linter.unusedVariables false
set_option linter.unusedSimpArgs false

/-! ### impl_JoinOf: function 8 (by hand) -/

/-- slices.Compare -/
def Hp.lexc:List Int→List Int→Int
 | [],[]=>0
 | [],_ :: _=>-1
 | _ :: _,[]=>1
 | a :: x,b :: y=>if a < b then -1 else if b < a then 1 else Hp.lexc x y
theorem Hp.lexc_swap : ∀ a b:List Int,Hp.lexc b a = - Hp.lexc a b:=by
 intro a
 induction a with
 | nil=>intro b;cases b <;> rfl
 | cons x a ih =>
  intro b
  cases b with
  | nil=>rfl
  | cons y b =>
   simp only [Hp.lexc]
   by_cases h1:x < y
   ·rw [if_pos h1,if_neg (by omega),if_pos h1];rfl
   ·rw [if_neg h1]
    by_cases h2:y < x
    ·rw [if_pos h2,if_neg h1,if_pos h2]
    ·rw [if_neg h2,if_neg h1,if_neg h2,ih]
theorem Hp.lexc_zero : ∀ a b:List Int,Hp.lexc a b=0 ↔ a=b:=by
 intro a
 induction a with
 | nil=>intro b;cases b <;> simp [Hp.lexc]
 | cons x a ih =>
  intro b
  cases b with
  | nil=>simp [Hp.lexc]
  | cons y b =>
   simp only [Hp.lexc]
   by_cases h1:x < y
   ·rw [if_pos h1];simp;omega
   ·rw [if_neg h1]
    by_cases h2:y < x
    ·rw [if_pos h2];simp;omega
    ·rw [if_neg h2,ih]
     obtain rfl:x=y:=by omega
     simp
theorem Hp.lexc_trans : ∀ a b c:List Int,Hp.lexc a b < 0→Hp.lexc b c < 0→Hp.lexc a c < 0:=by
 intro a
 induction a with
 | nil =>
  intro b c h1 h2
  cases b with
  | nil=>simp [Hp.lexc] at h1
  | cons y b =>
   cases c with
   | nil=>simp [Hp.lexc] at h2
   | cons z c=>simp [Hp.lexc]
 | cons x a ih =>
  intro b c h1 h2
  cases b with
  | nil=>simp [Hp.lexc] at h1
  | cons y b =>
   cases c with
   | nil=>simp [Hp.lexc] at h2
   | cons z c =>
    simp only [Hp.lexc] at h1 h2 ⊢
    by_cases c1:x < z
    ·rw [if_pos c1];decide
    rw [if_neg c1]
    by_cases d1:x < y
    ·rw [if_neg (by omega)] at h2
     rw [if_pos (by omega)] at h2
     simp at h2
    rw [if_neg d1] at h1
    by_cases d2:y < x
    ·rw [if_pos d2] at h1;simp at h1
    rw [if_neg d2] at h1
    obtain rfl:x=y:=by omega
    rw [if_neg c1] at h2
    by_cases c2:z < x
    ·rw [if_pos c2] at h2;simp at h2
    rw [if_neg c2] at h2 ⊢
    exact ih b c h1 h2
theorem Hp.ext_item {x y:S31} (h0:x.f0=y.f0) (h1:x.f1=y.f1):x=y:=by cases x;cases y;simp_all
/-- the weight of a row, or 0 -/
def Hp.wOf (r:List Int):List (S31)→Int
 | []=>0
 | x :: z=>if x.f0=r then x.f1 else Hp.wOf r z
/-! weighted lists in order -/
theorem Hp.lexc_irr (a:List Int):Hp.lexc a a=0:=(Hp.lexc_zero a a).2 rfl
theorem Hp.lexc_gt {a b:List Int} (h1 : ¬ Hp.lexc a b < 0) (h2:a≠b):Hp.lexc b a < 0:=by
 have:=Hp.lexc_swap a b
 have h3:Hp.lexc a b≠0:=fun e=>h2 ((Hp.lexc_zero a b).1 e)
 omega
/-- rows in order, and no weight of 0 -/
structure Hp.Canon (z:List (S31)):Prop where
 ord:z.Pairwise (fun x y=>Hp.lexc x.f0 y.f0 < 0)
 nz : ∀ x ∈ z,x.f1≠0
theorem Hp.Canon.nil:Hp.Canon []:=⟨.nil,by simp⟩
theorem Hp.Canon.tail {x:S31} {z:List (S31)} (h:Hp.Canon (x :: z)):Hp.Canon z:=⟨(List.pairwise_cons.1 h.ord).2,fun y hy=>h.nz y (List.mem_cons_of_mem _ hy)⟩
theorem Hp.Canon.head {x:S31} {z:List (S31)} (h:Hp.Canon (x :: z)) : ∀ y ∈ z,Hp.lexc x.f0 y.f0 < 0:=(List.pairwise_cons.1 h.ord).1
theorem Hp.canon_cons {x:S31} {z:List (S31)} (h:Hp.Canon z) (h0:x.f1≠0) (h1 : ∀ y ∈ z,Hp.lexc x.f0 y.f0 < 0):Hp.Canon (x :: z) :=
 ⟨List.pairwise_cons.2 ⟨h1,h.ord⟩,fun y hy=>(List.mem_cons.1 hy).elim (fun e=>by rw [e];exact h0) (fun e=>h.nz y e)⟩
theorem Hp.wOf_below {r:List Int} : ∀ {z:List (S31)},(∀ y ∈ z,Hp.lexc r y.f0 < 0)→Hp.wOf r z=0:=by
 intro z
 induction z with
 | nil=>intro _;rfl
 | cons x z ih =>
  intro h
  have hx:=h x List.mem_cons_self
  unfold Hp.wOf
  rw [if_neg (fun e=>by rw [e,Hp.lexc_irr] at hx;omega)]
  exact ih (fun y hy=>h y (List.mem_cons_of_mem _ hy))
theorem Hp.wOf_mem : ∀ {z:List (S31)} {x:S31},Hp.Canon z→x ∈ z→Hp.wOf x.f0 z=x.f1:=by
 intro z
 induction z with
 | nil=>intro x _ h;cases h
 | cons y z ih =>
  intro x hc hx
  unfold Hp.wOf
  rcases List.mem_cons.1 hx with e|e
  ·subst e;rw [if_pos rfl]
  ·have:=hc.head x e
   rw [if_neg (fun e2=>by rw [e2,Hp.lexc_irr] at this;omega)]
   exact ih hc.tail e
theorem Hp.wOf_ne : ∀ {z:List (S31)} {r:List Int},Hp.wOf r z≠0→∃ x ∈ z,x.f0=r:=by
 intro z
 induction z with
 | nil=>intro r h;exact absurd rfl h
 | cons y z ih =>
  intro r h
  unfold Hp.wOf at h
  by_cases e:y.f0=r
  ·exact ⟨y,List.mem_cons_self,e⟩
  ·rw [if_neg e] at h
   obtain ⟨x,hx,hr⟩:=ih h
   exact ⟨x,List.mem_cons_of_mem _ hx,hr⟩
theorem wOf_mem' {x y:S31} {b:List (S31)} (hb:Hp.Canon (y :: b)) (e:x.f0=y.f0):Hp.wOf x.f0 (y :: b)=y.f1:=by rw [e];exact Hp.wOf_mem hb List.mem_cons_self
theorem Hp.canon_ext : ∀ {a b:List (S31)},Hp.Canon a→Hp.Canon b→(∀ r,Hp.wOf r a=Hp.wOf r b)→a=b:=by
 intro a
 induction a with
 | nil =>
  intro b _ hb h
  cases b with
  | nil=>rfl
  | cons y b =>
   have:=h y.f0
   rw [Hp.wOf_mem hb List.mem_cons_self] at this
   exact absurd this.symm (hb.nz y List.mem_cons_self)
 | cons x a ih =>
  intro b ha hb h
  cases b with
  | nil =>
   have:=h x.f0
   rw [Hp.wOf_mem ha List.mem_cons_self] at this
   exact absurd this (ha.nz x List.mem_cons_self)
  | cons y b =>
   have hx:=h x.f0
   rw [Hp.wOf_mem ha List.mem_cons_self] at hx
   have hy:=h y.f0
   rw [Hp.wOf_mem hb List.mem_cons_self] at hy
   have e0:x.f0=y.f0:=by
    obtain ⟨u,hu,hur⟩:=Hp.wOf_ne (z:=y :: b) (r:=x.f0) (by rw [← hx];exact ha.nz x List.mem_cons_self)
    obtain ⟨v,hv,hvr⟩:=Hp.wOf_ne (z:=x :: a) (r:=y.f0) (by rw [hy];exact hb.nz y List.mem_cons_self)
    rcases List.mem_cons.1 hu with e|e
    ·rw [← hur,e]
    rcases List.mem_cons.1 hv with e2|e2
    ·rw [← hvr,e2]
    have h1:=hb.head u e
    have h2:=ha.head v e2
    rw [hur] at h1
    rw [hvr] at h2
    have:=Hp.lexc_swap x.f0 y.f0
    omega
   have e1:x.f1=y.f1:=by rw [hx,wOf_mem' hb e0]
   obtain rfl:x=y:=Hp.ext_item e0 e1
   congr 1
   refine ih ha.tail hb.tail (fun r=>?_)
   have:=h r
   unfold Hp.wOf at this
   by_cases e:x.f0=r
   ·subst e
    rw [Hp.wOf_below ha.head,Hp.wOf_below hb.head]
   rw [if_neg e,if_neg e] at this
   exact this
/-- spec's l2Put -/
def Hp.putL (r:List Int) (w:Int):List (S31)→List (S31)
 | []=>if w=0 then [] else [⟨r,w⟩]
 | x :: z=>if Hp.lexc x.f0 r < 0 then x :: Hp.putL r w z else if x.f0=r then (if x.f1 + w=0 then z else ⟨x.f0,x.f1 + w⟩ :: z) else if w=0 then x :: z else ⟨r,w⟩ :: x :: z
theorem Hp.putL_rows (r:List Int) (w:Int) : ∀ (z:List (S31)),∀ y ∈ Hp.putL r w z,y.f0=r∨∃ x ∈ z,x.f0=y.f0:=by
 intro z
 induction z with
 | nil=>intro y hy;unfold Hp.putL at hy;split at hy <;> simp at hy;left;rw [hy]
 | cons x z ih =>
  intro y hy
  unfold Hp.putL at hy
  split at hy
  ·rcases List.mem_cons.1 hy with e|e
   ·exact .inr ⟨x,List.mem_cons_self,by rw [e]⟩
   ·rcases ih y e with h|⟨u,hu,h⟩
    ·exact .inl h
    ·exact .inr ⟨u,List.mem_cons_of_mem _ hu,h⟩
  ·split at hy
   ·split at hy
    ·exact .inr ⟨y,List.mem_cons_of_mem _ hy,rfl⟩
    ·rcases List.mem_cons.1 hy with e|e
     ·exact .inr ⟨x,List.mem_cons_self,by rw [e]⟩
     ·exact .inr ⟨y,List.mem_cons_of_mem _ e,rfl⟩
   ·split at hy
    ·exact .inr ⟨y,hy,rfl⟩
    ·rcases List.mem_cons.1 hy with e|e
     ·exact .inl (by rw [e])
     ·exact .inr ⟨y,e,rfl⟩
theorem Hp.putL_canon (r:List Int) (w:Int) : ∀ (z:List (S31)),Hp.Canon z→Hp.Canon (Hp.putL r w z):=by
 intro z
 induction z with
 | nil =>
  intro _
  unfold Hp.putL
  split
  ·exact Hp.Canon.nil
  exact ⟨.cons (by simp) .nil,by simpa using ‹¬ w=0›⟩
 | cons x z ih =>
  intro hc
  unfold Hp.putL
  split
  ·next h1 =>
   refine Hp.canon_cons (ih hc.tail) (hc.nz x List.mem_cons_self) (fun y hy=>?_)
   rcases Hp.putL_rows r w z y hy with h|⟨u,hu,h⟩
   ·rw [h];exact h1
   rw [← h];exact hc.head u hu
  next h1 =>
  split
  ·split
   ·exact hc.tail
   next h3=>exact Hp.canon_cons hc.tail h3 hc.head
  next h2 =>
  split
  ·exact hc
  next h3 =>
  have h4:=Hp.lexc_gt h1 h2
  refine Hp.canon_cons hc h3 (fun y hy=>?_)
  rcases List.mem_cons.1 hy with e|e
  ·rw [e];exact h4
  exact Hp.lexc_trans _ _ _ h4 (hc.head y e)
theorem Hp.putL_wOf (r:List Int) (w:Int) (s:List Int) : ∀ (z:List (S31)),Hp.Canon z→Hp.wOf s (Hp.putL r w z)=Hp.wOf s z + if s=r then w else 0:=by
 intro z
 induction z with
 | nil =>
  intro _
  unfold Hp.putL
  split
  ·next h=>subst h;simp [Hp.wOf]
  simp only [Hp.wOf]
  by_cases e:r=s
  ·rw [if_pos e,if_pos e.symm];omega
  rw [if_neg e,if_neg (Ne.symm e)];omega
 | cons x z ih =>
  intro hc
  unfold Hp.putL
  split
  ·next h1 =>
   unfold Hp.wOf
   by_cases e:x.f0=s
   rotate_left
   ·rw [if_neg e,if_neg e];exact ih hc.tail
   rw [if_pos e,if_pos e,if_neg (fun e2=>by rw [e,e2,Hp.lexc_irr] at h1;omega)];omega
  next h1 =>
  split
  ·next h2 =>
   split
   ·next h3 =>
    by_cases e:x.f0=s
    ·subst e
     rw [Hp.wOf_below hc.head,if_pos h2,Hp.wOf,if_pos rfl];omega
    rw [if_neg (fun e2=>e (by rw [e2,h2])),Hp.wOf,if_neg e];omega
   by_cases e:x.f0=s
   ·rw [Hp.wOf,Hp.wOf,if_pos e,if_pos e,if_pos (by rw [← e,h2])]
   rw [Hp.wOf,Hp.wOf,if_neg e,if_neg e,if_neg (fun e2=>e (by rw [e2,h2]))];omega
  next h2 =>
  split
  ·next h3=>subst h3;split <;> omega
  next h3 =>
  have h4:=Hp.lexc_gt h1 h2
  by_cases e:s=r
  rotate_left
  ·rw [if_neg e,Hp.wOf,if_neg (show ¬ (⟨r,w⟩:S31).f0=s from fun e2=>e e2.symm)];omega
  subst e
  have:Hp.wOf s (x :: z)=0:=Hp.wOf_below (fun y hy=>by
   rcases List.mem_cons.1 hy with e|e
   ·rw [e];exact h4
   ·exact Hp.lexc_trans _ _ _ h4 (hc.head y e))
  rw [this,if_pos rfl,Hp.wOf,if_pos rfl];show w=0 + w;omega
theorem Hp.putL_len (r:List Int) (w:Int) : ∀ (z:List (S31)),(Hp.putL r w z).length≤z.length + 1:=by
 intro z
 induction z with
 | nil=>unfold Hp.putL;split <;> simp
 | cons x z ih =>
  unfold Hp.putL
  repeat' split
  all_goals simp <;> omega
/-- many, one by one -/
def Hp.addL (a b:List (S31)):List (S31):=b.foldl (fun o x=>Hp.putL x.f0 x.f1 o) a
theorem Hp.addL_canon : ∀ (b a:List (S31)),Hp.Canon a→Hp.Canon (Hp.addL a b):=by
 intro b
 induction b with
 | nil=>intro a h;exact h
 | cons x b ih=>intro a h;exact ih _ (Hp.putL_canon _ _ _ h)
/-- the sum of the weights of a row -/
def Hp.sumW (r:List Int):List (S31)→Int
 | []=>0
 | x :: z=>(if x.f0=r then x.f1 else 0) + Hp.sumW r z
theorem Hp.sumW_canon (r:List Int) : ∀ (z:List (S31)),Hp.Canon z→Hp.sumW r z=Hp.wOf r z:=by
 intro z
 induction z with
 | nil=>intro _;rfl
 | cons x z ih =>
  intro h
  unfold Hp.sumW Hp.wOf
  rw [ih h.tail]
  by_cases e:x.f0=r
  ·subst e;rw [if_pos rfl,if_pos rfl,Hp.wOf_below h.head];omega
  ·rw [if_neg e,if_neg e];omega
theorem Hp.addL_sum (r:List Int) : ∀ (b a:List (S31)),Hp.Canon a→Hp.wOf r (Hp.addL a b)=Hp.wOf r a + Hp.sumW r b:=by
 intro b
 induction b with
 | nil=>intro a _;simp [Hp.addL,Hp.sumW]
 | cons x b ih =>
  intro a h
  show Hp.wOf r (Hp.addL (Hp.putL x.f0 x.f1 a) b)=_
  rw [ih _ (Hp.putL_canon _ _ _ h),Hp.putL_wOf _ _ _ _ h,Hp.sumW]
  by_cases e:x.f0=r
  ·rw [if_pos e,if_pos e.symm];omega
  ·rw [if_neg e,if_neg (Ne.symm e)];omega
/-- a row stands in the list -/
def Hp.isIn (r:List Int) (L:List (S31)):Prop:=∃ x ∈ L,x.f0=r
theorem Hp.sumW_app (r:List Int) (x:S31) : ∀ L:List (S31),Hp.sumW r (L ++ [x])=Hp.sumW r L + if x.f0=r then x.f1 else 0:=by
 intro L
 induction L with
 | nil=>simp [Hp.sumW]
 | cons y L ih=>rw [List.cons_append,Hp.sumW,ih,Hp.sumW];omega
theorem Hp.sumW_no {r:List Int} : ∀ {L:List (S31)},¬ Hp.isIn r L→Hp.sumW r L=0:=by
 intro L
 induction L with
 | nil=>intro _;rfl
 | cons y L ih =>
  intro h
  rw [Hp.sumW,ih (fun ⟨x,hx,hr⟩=>h ⟨x,List.mem_cons_of_mem _ hx,hr⟩),if_neg (fun e=>h ⟨y,List.mem_cons_self,e⟩)]
  rfl
theorem Hp.isIn_app {r:List Int} {x:S31} {L:List (S31)}:Hp.isIn r (L ++ [x]) ↔ Hp.isIn r L∨x.f0=r:=by
 constructor
 ·rintro ⟨y,hy,e⟩
  rcases List.mem_append.1 hy with h|h
  ·exact .inl ⟨y,h,e⟩
  ·rw [List.mem_singleton.1 h] at e;exact .inr e
 ·rintro (⟨y,hy,e⟩|e)
  ·exact ⟨y,List.mem_append_left _ hy,e⟩
  ·exact ⟨x,List.mem_append_right _ List.mem_cons_self,e⟩
/-- what is sorted, of different rows, and holds just each row's sum where it is not 0, is what the reference's way leaves -/
theorem Hp.sorted_is {L d:List (S31)} (hs:d.Pairwise (fun x y=>¬ Hp.lexc y.f0 x.f0 < 0)) (hn:d.Pairwise (fun x y=>x.f0≠y.f0)) (hm : ∀ r v,(⟨r,v⟩:S31) ∈ d ↔ (Hp.isIn r L∧v=Hp.sumW r L∧v≠0)):d=Hp.addL [] L:=by
 have hc:Hp.Canon d:=⟨(hs.and hn).imp (fun {x y} h=>Hp.lexc_gt h.1 (fun e=>h.2 e.symm)),fun x hx=>((hm x.f0 x.f1).1 (by cases x;exact hx)).2.2⟩
 refine Hp.canon_ext hc (Hp.addL_canon L [] Hp.Canon.nil) (fun r=>?_)
 rw [Hp.addL_sum r L [] Hp.Canon.nil]
 have e0:Hp.wOf r ([]:List (S31))=0:=rfl
 rw [e0,Int.zero_add]
 by_cases h:Hp.wOf r d=0
 ·rw [h]
  by_cases hi:Hp.isIn r L
  ·by_cases h0:Hp.sumW r L=0
   ·rw [h0]
   ·have hx:=(hm r (Hp.sumW r L)).2 ⟨hi,rfl,h0⟩
    have:=Hp.wOf_mem hc hx
    rw [show (⟨r,Hp.sumW r L⟩:S31).f0=r from rfl,h] at this
    exact absurd this.symm h0
  ·rw [Hp.sumW_no hi]
 ·obtain ⟨x,hx,hr⟩:=Hp.wOf_ne h
  have h1:=Hp.wOf_mem hc hx
  rw [hr] at h1
  have h2:=(hm x.f0 x.f1).1 (by cases x;exact hx)
  rw [h1,h2.2.1,hr]
/-- the cell of a row at a place -/
def Hp.cellAt (p:S31) (x:Int):Int:=p.f0.getD x.toNat 0
/-- what is Hp.joined with a row -/
def Hp.mates (x y:Int) (b:List (S31)) (p:S31):List (S31):=b.filter fun q=>decide (Hp.cellAt q y=Hp.cellAt p x)
def Hp.joined (p q:S31):S31:=⟨p.f0 ++ q.f0,p.f1 * q.f1⟩
def Hp.pairsOf (x y:Int) (a b:List (S31)):List (S31):=a.flatMap fun p=>(Hp.mates x y b p).map (Hp.joined p)
def Hp.wideAll (x:Int) (z:List (S31)):Bool:=z.all fun p=>decide (0≤x) && decide (x < p.f0.length)
theorem Hp.pairsOf_mem {x y:Int} {a b:List (S31)} {u:S31} (h:u ∈ Hp.pairsOf x y a b) : ∃ p ∈ a,∃ q ∈ b,u=Hp.joined p q:=by
 obtain ⟨p,hp,h⟩:=List.mem_flatMap.1 h
 obtain ⟨q,hq,e⟩:=List.mem_map.1 h
 exact ⟨p,hp,q,(List.mem_filter.1 hq).1,e.symm⟩

/-- what a walk of a join leans on; all of it follows where both lists are right, from some number of rounds on -/
def fineJ (k:Nat) (l0 l1:List (S31)):Prop :=
 l0.length≤100∧l1.length≤100∧(∀ p ∈ l0,p.f0.length≤6∧(∀ c ∈ p.f0,okI c=true)∧-10000≤p.f1∧p.f1≤10000)∧(∀ p ∈ l1,p.f0.length≤6∧(∀ c ∈ p.f0,okI c=true)∧-10000≤p.f1∧p.f1≤10000) ∧
 (∀ p ∈ l0,∀ q ∈ l1,impl_RowJoin.f k p.f0 q.f0=some (p.f0 ++ q.f0)) ∧
 (∀ p ∈ l0,∀ q ∈ l1,∀ p' ∈ l0,∀ q' ∈ l1,slices_Compare_int_int.f k (p.f0 ++ q.f0) (p'.f0 ++ q'.f0)=some (Hp.lexc (p.f0 ++ q.f0) (p'.f0 ++ q'.f0))∧(rowB (p.f0 ++ q.f0)=rowB (p'.f0 ++ q'.f0)→p.f0 ++ q.f0=p'.f0 ++ q'.f0))
instance (k:Nat) (l0 l1:List (S31)):Decidable (fineJ k l0 l1):=by unfold fineJ;infer_instance
def impl_JoinOf.f (k:Nat) (l0 l1:List (S31)) (a2 a3:Int):Option (List (S31) × Bool) :=
 (impl_ZOk.f k l0).bind fun t1=>if t1=true then ((impl_ZOk.f k l1).bind fun t2=>if t2=true then (if 0≤a2∧a2 < 6 then (if 0≤a3∧a3 < 6 then (if fineJ k l0 l1 then (if l0 = []∨l1 = []∨(Hp.wideAll a2 l0=true∧Hp.wideAll a3 l1=true) then (impl_told.f k (Hp.addL [] (Hp.pairsOf a2 a3 l0 l1))) else some ([],false)) else none) else some ([],false)) else some ([],false)) else some ([],false)) else some ([],false)
theorem fineJ_mono {k:Nat} {l0 l1:List (S31)} (h:fineJ k l0 l1):fineJ (k + 1) l0 l1:=by
 obtain ⟨h1,h2,h3,h4,h5,h6⟩:=h
 exact ⟨h1,h2,h3,h4,fun p hp q hq=>impl_RowJoin.mono _ _ _ _ (h5 p hp q hq),fun p hp q hq p' hp' q' hq'=>⟨slices_Compare_int_int.mono _ _ _ _ (h6 p hp q hq p' hp' q' hq').1,(h6 p hp q hq p' hp' q' hq').2⟩⟩
theorem LeO.ite_right {α:Type} {c d:Prop} [Decidable c] [Decidable d] {x y:Option α} (hcd:c→d) (h:LeO x y):LeO (if c then x else none) (if d then y else none):=by
 by_cases hc:c
 ·rw [if_pos hc,if_pos (hcd hc)];exact h
 ·rw [if_neg hc];intro r hr;cases hr
theorem impl_JoinOf.mono : ∀ a0 a1 a2 a3 k,LeO (impl_JoinOf.f k a0 a1 a2 a3) (impl_JoinOf.f (k + 1) a0 a1 a2 a3):=by
 intro a0 a1 a2 a3 k
 unfold impl_JoinOf.f
 refine LeO.bind (impl_ZOk.mono _ _) (fun _=>?_)
 refine LeO.ite ?_ (LeO.refl _)
 refine LeO.bind (impl_ZOk.mono _ _) (fun _=>?_)
 refine LeO.ite ?_ (LeO.refl _)
 refine LeO.ite ?_ (LeO.refl _)
 refine LeO.ite ?_ (LeO.refl _)
 refine LeO.ite_right fineJ_mono ?_
 refine LeO.ite ?_ (LeO.refl _)
 exact impl_told.mono _ _
/-- how an item's value reads among a map's elements: by itself -/
def itR (v:Value):Option (DataW Value × List MemPlace) :=
 match v with
 | .agg cs=>(match cs.toList with | [.slice _ _ _,.int .i64 _]=>some (.held (.agg cs),[]) | _=>none)
 | _=>none
def slR (v:Value):Option (DataW Value × List MemPlace) :=
 match v with
 | .slice A n c=>some (.held (.slice A n c),[])
 | _=>none
theorem itR_inv {v:Value} {z:DataW Value × List MemPlace} (h:itR v=some z):z=(.held v,[])∧∃ (A:Option Addr) (n c:Nat) (x:Int),v=.agg #[.slice A n c,.int .i64 x]:=by
 unfold itR at h
 split at h
 ·next cs =>
  split at h
  ·next A n c x e =>
   refine ⟨(Option.some.inj h).symm,A,n,c,x,?_⟩
   congr 1
   apply Array.toList_inj.1
   exact e
  ·cases h
 ·cases h
theorem slR_inv {v:Value} {z:DataW Value × List MemPlace} (h:slR v=some z):z=(.held v,[])∧∃ (A:Option Addr) (n c:Nat),v=.slice A n c:=by
 unfold slR at h
 split at h
 ·exact ⟨(Option.some.inj h).symm,_,_,_,rfl⟩
 ·cases h
theorem look_run {P:Program} {k t e b n:Nat} {R:Value→Option (DataW Value × List MemPlace)} {w:World} {D:DataW Value} {z:Value} (hown:w.ownsMap P k R b n D) (K:Go.Maps.Keyed P k) (ht:P.underlying t=some (.map k e)) (hz:(zeroValue e).run P w=.ok z w)
  (hR : ∀ v y,R v=some y→y=(.held v,[])) (hzR:R z=some (.held z,[])) {key:Value} {kl:Lit} (hkey:keyOf P k key=some kl) :
  ∃ v,(Instr.lookup t (.map (some b)) key false).run P w=.ok v w∧D.atKey kl (.held z)=.held v∧R v=some (.held v,[]):=by
 obtain ⟨v,ps,hrun,hv⟩:=hown.lookup K ht hz hzR hkey
 have h1:=hR v _ hv
 rw [h1] at hv
 injection h1 with h1 _
 exact ⟨v,hrun,h1,hv⟩
theorem look_at {P:Program} {k t e b n:Nat} {R:Value→Option (DataW Value × List MemPlace)} {w:World} {D:DataW Value} {z v:Value} (hown:w.ownsMap P k R b n D) (K:Go.Maps.Keyed P k) (ht:P.underlying t=some (.map k e)) (hz:(zeroValue e).run P w=.ok z w)
  (hR : ∀ v y,R v=some y→y=(.held v,[])) (hzR:R z=some (.held z,[])) {key:Value} {kl:Lit} (hkey:keyOf P k key=some kl) (hat:D.atKey kl (.held z)=.held v) :
  (Instr.lookup t (.map (some b)) key false).run P w=.ok v w:=by
 obtain ⟨v',hrun,h1,_⟩:=look_run hown K ht hz hR hzR hkey
 rw [hat] at h1
 injection h1 with h1
 rw [hrun,h1]
theorem look_op {P:Program} (w:World) {ops:Array Oper} {rest:List Oper} {o:Oper} {a:Act} {Q:Exit→Act→World→Prop} (hg:o.guard=none) (m x:Operand) (t:TypeId) (hop:o.op=Op.lookup t m x false) (b:Nat) (key v:Value)
  (hm:a.eval m=.map (some b)) (hx:a.eval x=key) (hrun:(Instr.lookup t (.map (some b)) key false).run P w=.ok v w) (hK:wpList P ops Q rest (a.put o.dst v) w):wpList P ops Q (o :: rest) a w:=by
 refine wpList_plain hg fun K' hK'=>?_
 unfold Oper.wp
 simp [execOp,hop,hm,hx,hrun,Result.andThen]
 exact hK' _ _ hK
theorem upd_step {P:Program} {W:World} {ops:Array Oper} {o:Oper} {a:Act} {Q:Exit→Act→World→Prop} {Kc:Act→World→Prop} (hw:Region.wanted o (yielded ops a.tmps)=true) (m x v:Operand) (t:TypeId) (hop:o.op=Op.mapUpdate t m x v) (hdst:o.dst=none)
  (k e:TypeId) (K:Go.Maps.Keyed P k) (ht:P.underlying t=some (.map k e)) (R:Value→Option (DataW Value × List MemPlace)) (b n:Nat) (D:DataW Value)
  (hm:a.eval m=.map (some b)) (hown:W.ownsMap P k R b n D) (hn:n < maxLen) (key val:Value) (kl:Lit) (hx:a.eval x=key) (hv:a.eval v=val) (hkey:keyOf P k key=some kl) (d:DataW Value) (ps:List MemPlace) (hval:R val=some (d,ps))
  (h : ∀ w',w'.ownsMap P k R b (n + 1) (D.put kl d)→W.grownBy w' (some b)→Kc (a.put o.dst undef) w') :
  if Region.wanted o (yielded ops a.tmps)=true then Oper.wp P o a W Kc Q else Kc (a.put o.dst undef) W:=by
 rw [if_pos hw]
 obtain ⟨w',hrun,r1,r2⟩:=hown.update K ht hn hkey hval
 unfold Oper.wp
 simp [execOp,hop,hm,hx,hv,hrun,Result.andThen]
 exact h w' r1 r2
/-- what the heap of rows with weights holds: key by key -/
structure HeapOf (rd:S31→List Value→Prop) (L:List (S31)) (D:DataW Value):Prop where
 map:Go.Maps.IsMap D
 only : ∀ kl,Go.Maps.has D kl=true→∃ r,Hp.isIn r L∧kl=.string (rowB r)
 at_ : ∀ r,Hp.isIn r L→∃ cs,rd ⟨r,Hp.sumW r L⟩ cs∧∀ z,D.atKey (.string (rowB r)) z=.held (.agg cs.toArray)
 there : ∀ r,Hp.isIn r L→Go.Maps.has D (.string (rowB r))=true
theorem HeapOf.start (rd:S31→List Value→Prop):HeapOf rd [] (.map []):=by
 refine ⟨Go.Maps.isMap_empty,fun kl h=>?_,fun r h=>?_,fun r h=>?_⟩
 ·simp [Go.Maps.has] at h
 ·obtain ⟨x,hx,_⟩:=h
  cases hx
 ·obtain ⟨x,hx,_⟩:=h
  cases hx
theorem HeapOf.imp {rd rd':S31→List Value→Prop} {L:List (S31)} {D:DataW Value} (h:HeapOf rd L D) (hi : ∀ x cs,rd x cs→rd' x cs):HeapOf rd' L D :=
 ⟨h.map,h.only,fun r hr=>by obtain ⟨cs,h1,h2⟩:=h.at_ r hr;exact ⟨cs,hi _ _ h1,h2⟩,h.there⟩
theorem HeapOf.no {rd:S31→List Value→Prop} {L:List (S31)} {D:DataW Value} (h:HeapOf rd L D) {r:List Int} (hinj : ∀ s,Hp.isIn s L→rowB s=rowB r→s=r) (hr : ¬ Hp.isIn r L) (z:DataW Value):D.atKey (.string (rowB r)) z=z:=by
 refine Go.Maps.atKey_of_not_has (Bool.eq_false_iff.2 (fun e=>?_)) z
 obtain ⟨s,hs,e2⟩:=h.only _ e
 injection e2 with e2
 rw [hinj s hs e2.symm] at hs
 exact hr hs
theorem HeapOf.step {rd:S31→List Value→Prop} {L:List (S31)} {D:DataW Value} (h:HeapOf rd L D) {r:List Int} {x:Int} {cs:List Value} (hinj : ∀ s,Hp.isIn s L→rowB s=rowB r→s=r) (hcs:rd ⟨r,Hp.sumW r L + x⟩ cs) :
  HeapOf rd (L ++ [⟨r,x⟩]) (D.put (.string (rowB r)) (.held (.agg cs.toArray))):=by
 have hsum:Hp.sumW r (L ++ [⟨r,x⟩])=Hp.sumW r L + x:=by rw [Hp.sumW_app,if_pos rfl]
 have hk:WideAt.IsKeyLit (.string (rowB r)):=trivial
 refine ⟨h.map.put _ _,fun kl hkl=>?_,fun s hs=>?_,fun s hs=>?_⟩
 ·by_cases e:kl=.string (rowB r)
  ·exact ⟨r,Hp.isIn_app.2 (.inr rfl),e⟩
  ·rw [Go.Maps.has_put_other e] at hkl
   obtain ⟨s,hs,e2⟩:=h.only kl hkl
   exact ⟨s,Hp.isIn_app.2 (.inl hs),e2⟩
 ·by_cases e:s=r
  ·subst e
   exact ⟨cs,by rw [hsum];exact hcs,fun z=>Go.Maps.atKey_put_same h.map hk _ z⟩
  ·rcases Hp.isIn_app.1 hs with hs|hs
   ·obtain ⟨c,h1,h2⟩:=h.at_ s hs
    refine ⟨c,?_,fun z=>?_⟩
    ·rw [Hp.sumW_app,if_neg (fun e2=>e e2.symm),Int.add_zero];exact h1
    ·rw [Go.Maps.atKey_put_other (fun e2=>e (hinj s hs (by injection e2)))];exact h2 z
   ·exact absurd hs.symm e
 ·by_cases e:s=r
  ·subst e
   exact Go.Maps.has_put_same h.map hk _
  ·rcases Hp.isIn_app.1 hs with hs|hs
   ·rw [Go.Maps.has_put_other (fun e2=>e (hinj s hs (by injection e2)))]
    exact h.there s hs
   ·exact absurd hs.symm e
theorem has1_calls (n:Int) (b:Nat) (A:Option Addr) (len c:Nat) (w:World) (hc:w.cell? ⟨b,0,none⟩=some (.slice A len c)) :
  Calls Tryd.prog 87 #[.int .i64 n,.pointer (some ⟨b,0,none⟩)] w fun e w'=>e=.returned (.bool (decide (n < 0) || decide ((len:Int)≤n)))∧Below w.heap.size w w':=by
 by_cases h0:n < 0
 ·have c0:decide (n < 0)=true:=decide_eq_true h0
  clear h0
  go_enter Tryd.func87,Tryd.ntmps87
  go_wp2
  go_ret
  exact ⟨by rw [c0];rfl,Below.refl _ _⟩
 ·have c0:decide (n < 0)=false:=decide_eq_false h0
  clear h0
  go_enter Tryd.func87,Tryd.ntmps87
  go_wp2
  go_ret
  exact ⟨by rw [c0];rfl,Below.refl _ _⟩
set_option maxHeartbeats 1000000 in
set_option maxRecDepth 100000 in
theorem idxInts_calls (g:Nat) (cb:Array Value) (pr:Int→Bool) (eg : ∀ args w,(callFunc g args).run Tryd.prog w=.ok (.enter g args) w) (A:Option Addr) (c:Nat) (l:List Int) (w:World) (hl:l.length≤1048576) (hr:Kd.C (Kd.int .i64) w A l.length l)
  (hcall : ∀ (W:World) (x:Int),Below w.heap.size w W→Calls Tryd.prog g (#[.int .i64 x] ++ cb) W fun e W'=>e=.returned (.bool (pr x))∧Below W.heap.size W W') :
  Calls Tryd.prog 85 #[.slice A l.length c,.func (.func g) #[] cb] w fun e w'=>(∃ r:Int,e=.returned (.int .i64 r)∧decide (0≤r)=l.any pr)∧Below w.heap.size w w':=by
 have HR:=Aside0.mk hr
 have HL:=Aside0.mk hl
 have HC:=Aside0.mk hcall
 clear hr hl hcall
 go_enter Tryd.func85,Tryd.ntmps85
 go_wp2
 go_loopw [8] (fun i wr=>∃ k:Nat,k≤l.length∧i=.int .i64 k∧(l.take k).any pr=false∧Below w.heap.size w wr) (fun i _=>l.length - (intOf i).toNat)
 case atStart=>exact ⟨0,Nat.zero_le _,rfl,rfl,Below.refl _ _⟩
 case round =>
  obtain ⟨k,hk,rfl,hany,hnx⟩:=hrel
  have HNX:=Aside0.mk hnx
  have HA:=Aside0.mk hany
  clear hnx hany
  by_cases hlt:k < l.length
  case neg =>
   have f0:decide ((k:Int) < (l.length:Int))=false:=decide_eq_false (by omega)
   have f1:decide (k < l.length)=false:=decide_eq_false (by omega)
   have HK:=Aside0.mk hk
   have HLT:=Aside0.mk hlt
   clear hk hlt
   go_wp2
   go_ret
   refine ⟨⟨-1,rfl,?_⟩,HNX.out⟩
   have h1:=HA.out
   rw [List.take_of_length_le (by have:=HLT.out;omega)] at h1
   rw [h1]
   rfl
  have f0:decide ((k:Int) < (l.length:Int))=true:=decide_eq_true (by omega)
  have f1:decide (k < l.length)=true:=decide_eq_true (by omega)
  obtain ⟨ad,rfl,hcell⟩:=Kd.at_int HR.out (k:Int) (by omega) (by omega)
  obtain ⟨x,hx⟩ : ∃ x,x=rd l (k:Int):=⟨_,rfl⟩
  rw [← hx] at hcell
  have hxl:x=l[k]:=by rw [hx];show l.getD k 0=_;rw [List.getD_eq_getElem?_getD,List.getElem?_eq_getElem hlt];rfl
  have hcell1:wr.cell? (ad.add k)=some (.int .i64 x):=by
   have h1:=HNX.out.cell (World.block_lt_of_cell? _ _ hcell)
   exact h1.trans hcell
  have HE:=Aside0.mk (show (l.take (k + 1)).any pr=pr x by rw [List.take_succ_eq_append_getElem hlt,List.any_append,HA.out,hxl];simp)
  have HX:=Aside0.mk (show pr x=true→l.any pr=true by intro h;rw [List.any_eq_true];exact ⟨x,by rw [hxl];exact List.getElem_mem hlt,h⟩)
  have HLT:=Aside0.mk hlt
  have HW:=Aside0.mk (show wrap64 ((k:Int) + 1)=((k + 1:Nat):Int) by have:=HL.out;unfold wrap64;omega)
  clear hcell hx hxl hk
  cases hp:pr x with
  | true =>
   have hc:=HC.out wr x HNX.out
   rw [hp] at hc
   have HP:=Aside0.mk hp
   clear hp
   go_wp2_with (refine hc.mono ?_;rintro e w1 ⟨rfl,hb⟩)
   have HB:=Aside0.mk (below_step HNX.out hb)
   clear hb hc
   go_wp2
   go_ret
   refine ⟨⟨k,rfl,?_⟩,HB.out⟩
   rw [HX.out HP.out]
   exact decide_eq_true (by omega)
  | false =>
   have hc:=HC.out wr x HNX.out
   rw [hp] at hc
   have HP:=Aside0.mk hp
   clear hp
   go_wp2_with (refine hc.mono ?_;rintro e w1 ⟨rfl,hb⟩)
   have HB:=Aside0.mk (below_step HNX.out hb)
   clear hb hc
   go_wp2
   go_roundw
   case rel=>exact ⟨k + 1,HLT.out,by rw [HW.out],by rw [HE.out,HP.out],HB.out⟩
   case measure=>have:=HLT.out;rw [HW.out];simp only [intOf];omega
theorem hasP_enters : ∀ args w,(callFunc 87 args).run Tryd.prog w=.ok (.enter 87 args) w:=enters_of Tryd.func87 (by kernel_rfl) rfl
theorem hasQ_enters : ∀ args w,(callFunc 75 args).run Tryd.prog w=.ok (.enter 75 args) w:=enters_of Tryd.func75 (by kernel_rfl) rfl
theorem conInts_calls (g:Nat) (cb:Array Value) (pr:Int→Bool) (eg : ∀ args w,(callFunc g args).run Tryd.prog w=.ok (.enter g args) w) (A:Option Addr) (c:Nat) (l:List Int) (w:World) (hl:l.length≤1048576) (hr:Kd.C (Kd.int .i64) w A l.length l)
  (hcall : ∀ (W:World) (x:Int),Below w.heap.size w W→Calls Tryd.prog g (#[.int .i64 x] ++ cb) W fun e W'=>e=.returned (.bool (pr x))∧Below W.heap.size W W') :
  Calls Tryd.prog 71 #[.slice A l.length c,.func (.func g) #[] cb] w fun e w'=>e=.returned (.bool (l.any pr))∧Below w.heap.size w w':=by
 have hc:=idxInts_calls g cb pr eg A c l w hl hr hcall
 clear hcall hr hl
 go_enter Tryd.func71,Tryd.ntmps71
 go_wp2_with (go_at_call 85;refine hc.mono ?_;rintro e w1 ⟨⟨r,rfl,hr⟩,hb⟩)
 have HB:=Aside0.mk hb
 clear hb hc
 go_ret
 exact ⟨rfl,HB.out⟩
def hasB (len:Nat) (n:Int):Bool:=decide (n < 0) || decide ((len:Int)≤n)
set_option maxHeartbeats 1000000 in
theorem has_calls (A:Option Addr) (len c:Nat) (B:Option Addr) (d:Nat) (pl:List Int) (w:World) (hl:pl.length≤1048576) (hr:Kd.C (Kd.int .i64) w B pl.length pl) :
  Calls Tryd.prog 76 #[.slice A len c,.slice B pl.length d] w fun e w'=>e=.returned (.bool (!pl.any (hasB len)))∧Below w.heap.size w w':=by
 have hc:=conInts_calls 87 #[.pointer (some ⟨w.heap.size,0,none⟩)] (hasB len) hasP_enters B d pl (w.alloc (.cells #[.slice A len c] 29)) hl (Kd.C_alloc hr _) (fun W x hb=>has1_calls x w.heap.size A len c W (by
  have h1:(w.alloc (.cells #[.slice A len c] 29)).cell? ⟨w.heap.size,0,none⟩=some (.slice A len c):=by go_simp
  exact (hb.cell (by simp)).trans h1))
 clear hr hl
 go_enter Tryd.func76,Tryd.ntmps76
 go_wp2_with (go_at_call 71;refine hc.mono ?_;rintro e w1 ⟨rfl,hb⟩)
 have HB:=Aside0.mk (below_step (below_alloc (Below.refl _ _) _) hb)
 clear hb hc
 go_ret
 exact ⟨rfl,HB.out⟩
set_option maxHeartbeats 1000000 in
set_option maxRecDepth 100000 in
theorem idxItems_calls (g:Nat) (cb:Array Value) (pr:S31→Bool) (eg : ∀ args w,(callFunc g args).run Tryd.prog w=.ok (.enter g args) w) (A:Option Addr) (c:Nat) (l:List (S31)) (w:World) (hl:l.length≤1048576) (hr:Kd.C k31 w A l.length l)
  (hcall : ∀ (W:World) (x:S31) (As:Option Addr) (cs:Nat),Below w.heap.size w W→Calls Tryd.prog g (#[.agg #[.slice As x.f0.length cs,.int .i64 x.f1]] ++ cb) W fun e W'=>e=.returned (.bool (pr x))∧Below W.heap.size W W') :
  Calls Tryd.prog 86 #[.slice A l.length c,.func (.func g) #[] cb] w fun e w'=>(∃ r:Int,e=.returned (.int .i64 r)∧decide (0≤r)=l.any pr)∧Below w.heap.size w w':=by
 have HR:=Aside0.mk hr
 have HL:=Aside0.mk hl
 have HC:=Aside0.mk hcall
 clear hr hl hcall
 go_enter Tryd.func86,Tryd.ntmps86
 go_wp2
 go_loopw [8] (fun i wr=>∃ k:Nat,k≤l.length∧i=.int .i64 k∧(l.take k).any pr=false∧Below w.heap.size w wr) (fun i _=>l.length - (intOf i).toNat)
 case atStart=>exact ⟨0,Nat.zero_le _,rfl,rfl,Below.refl _ _⟩
 case round =>
  obtain ⟨k,hk,rfl,hany,hnx⟩:=hrel
  have HNX:=Aside0.mk hnx
  have HA:=Aside0.mk hany
  clear hnx hany
  by_cases hlt:k < l.length
  case neg =>
   have f0:decide ((k:Int) < (l.length:Int))=false:=decide_eq_false (by omega)
   have f1:decide (k < l.length)=false:=decide_eq_false (by omega)
   have HK:=Aside0.mk hk
   have HLT:=Aside0.mk hlt
   clear hk hlt
   go_wp2
   go_ret
   refine ⟨⟨-1,rfl,?_⟩,HNX.out⟩
   have h1:=HA.out
   rw [List.take_of_length_le (by have:=HLT.out;omega)] at h1
   rw [h1]
   rfl
  have f0:decide ((k:Int) < (l.length:Int))=true:=decide_eq_true (by omega)
  have f1:decide (k < l.length)=true:=decide_eq_true (by omega)
  obtain ⟨ad,As,cs,rfl,hcell,hcell2,hrow⟩:=at_T31 HR.out (k:Int) (by omega) (by omega)
  obtain ⟨x,hx⟩ : ∃ x,x=rd_T31 l (k:Int):=⟨_,rfl⟩
  rw [← hx] at hcell hcell2
  have hxl:x=l[k]:=by rw [hx];show l.getD k _=_;rw [List.getD_eq_getElem?_getD,List.getElem?_eq_getElem hlt];rfl
  have hcellA:=(HNX.out.cell (World.block_lt_of_cell? _ _ hcell)).trans hcell
  have hcellB:=(HNX.out.cell (World.block_lt_of_cell? _ _ hcell2)).trans hcell2
  rw [Int.toNat_natCast] at hcellA hcellB
  have HE:=Aside0.mk (show (l.take (k + 1)).any pr=pr x by rw [List.take_succ_eq_append_getElem hlt,List.any_append,HA.out,hxl];simp)
  have HX:=Aside0.mk (show pr x=true→l.any pr=true by intro h;rw [List.any_eq_true];exact ⟨x,by rw [hxl];exact List.getElem_mem hlt,h⟩)
  have HLT:=Aside0.mk hlt
  have HW:=Aside0.mk (show wrap64 ((k:Int) + 1)=((k + 1:Nat):Int) by have:=HL.out;unfold wrap64;omega)
  clear hcell hcell2 hx hxl hk hrow
  cases hp:pr x with
  | true =>
   have hc:=HC.out wr x As cs HNX.out
   rw [hp] at hc
   have HP:=Aside0.mk hp
   clear hp
   go_wp2_with (refine hc.mono ?_;rintro e w1 ⟨rfl,hb⟩)
   have HB:=Aside0.mk (below_step HNX.out hb)
   clear hb hc
   go_wp2
   go_ret
   refine ⟨⟨k,rfl,?_⟩,HB.out⟩
   rw [HX.out HP.out]
   exact decide_eq_true (by omega)
  | false =>
   have hc:=HC.out wr x As cs HNX.out
   rw [hp] at hc
   have HP:=Aside0.mk hp
   clear hp
   go_wp2_with (refine hc.mono ?_;rintro e w1 ⟨rfl,hb⟩)
   have HB:=Aside0.mk (below_step HNX.out hb)
   clear hb hc
   go_wp2
   go_roundw
   case rel=>exact ⟨k + 1,HLT.out,by rw [HW.out],by rw [HE.out,HP.out],HB.out⟩
   case measure=>have:=HLT.out;rw [HW.out];simp only [intOf];omega
theorem conItems_calls (g:Nat) (cb:Array Value) (pr:S31→Bool) (eg : ∀ args w,(callFunc g args).run Tryd.prog w=.ok (.enter g args) w) (A:Option Addr) (c:Nat) (l:List (S31)) (w:World) (hl:l.length≤1048576) (hr:Kd.C k31 w A l.length l)
  (hcall : ∀ (W:World) (x:S31) (As:Option Addr) (cs:Nat),Below w.heap.size w W→Calls Tryd.prog g (#[.agg #[.slice As x.f0.length cs,.int .i64 x.f1]] ++ cb) W fun e W'=>e=.returned (.bool (pr x))∧Below W.heap.size W W') :
  Calls Tryd.prog 74 #[.slice A l.length c,.func (.func g) #[] cb] w fun e w'=>e=.returned (.bool (l.any pr))∧Below w.heap.size w w':=by
 have hc:=idxItems_calls g cb pr eg A c l w hl hr hcall
 clear hcall hr hl
 go_enter Tryd.func74,Tryd.ntmps74
 go_wp2_with (go_at_call 86;refine hc.mono ?_;rintro e w1 ⟨⟨r,rfl,hr⟩,hb⟩)
 have HB:=Aside0.mk hb
 clear hb hc
 go_ret
 exact ⟨rfl,HB.out⟩
set_option maxHeartbeats 1000000 in
theorem hasQ_calls (b:Nat) (B:Option Addr) (d:Nat) (pl:List Int) (x:S31) (As:Option Addr) (cs:Nat) (w:World) (hl:pl.length≤1048576) (hc0:w.cell? ⟨b,0,none⟩=some (.slice B pl.length d)) (hr:Kd.C (Kd.int .i64) w B pl.length pl) :
  Calls Tryd.prog 75 #[.agg #[.slice As x.f0.length cs,.int .i64 x.f1],.pointer (some ⟨b,0,none⟩)] w fun e w'=>e=.returned (.bool (pl.any (hasB x.f0.length)))∧Below w.heap.size w w':=by
 have hc:=has_calls As x.f0.length cs B d pl (w.alloc (.cells #[.slice As x.f0.length cs,.int .i64 x.f1] 31)) hl (Kd.C_alloc hr _)
 have hc1:(w.alloc (.cells #[.slice As x.f0.length cs,.int .i64 x.f1] 31)).cell? ⟨b,0,none⟩=some (.slice B pl.length d):=((below_alloc (Below.refl w.heap.size w) (.cells #[.slice As x.f0.length cs,.int .i64 x.f1] 31)).cell (World.block_lt_of_cell? _ _ hc0)).trans hc0
 have hne:b≠w.heap.size:=Nat.ne_of_lt (World.block_lt_of_cell? _ _ hc0)
 clear hr hl
 go_enter Tryd.func75,Tryd.ntmps75
 go_wp2_with (go_at_call 76;refine hc.mono ?_;rintro e w1 ⟨rfl,hb⟩)
 have HB:=Aside0.mk (below_step (below_alloc (Below.refl _ _) _) hb)
 clear hb hc
 go_ret
 exact ⟨by simp,HB.out⟩
set_option maxHeartbeats 1000000 in
theorem hasAll_calls (A:Option Addr) (c:Nat) (l:List (S31)) (B:Option Addr) (d:Nat) (pl:List Int) (w:World) (hl:l.length≤1048576) (hr:Kd.C k31 w A l.length l) (hl1:pl.length≤1048576) (hr1:Kd.C (Kd.int .i64) w B pl.length pl) :
  Calls Tryd.prog 51 #[.slice A l.length c,.slice B pl.length d] w fun e w'=>e=.returned (.bool (!l.any fun x=>pl.any (hasB x.f0.length)))∧Below w.heap.size w w':=by
 have hc:=conItems_calls 75 #[.pointer (some ⟨w.heap.size,0,none⟩)] (fun x=>pl.any (hasB x.f0.length)) hasQ_enters A c l (w.alloc (.cells #[.slice B pl.length d] 29)) hl (Kd.C_alloc hr _) (fun W x As cs hb=>hasQ_calls w.heap.size B d pl x As cs W hl1 (by
  have h1:(w.alloc (.cells #[.slice B pl.length d] 29)).cell? ⟨w.heap.size,0,none⟩=some (.slice B pl.length d):=by go_simp
  exact (hb.cell (by simp)).trans h1) (Kd.C_below (Kd.C_alloc hr1 _) hb))
 clear hr hl hr1 hl1
 go_enter Tryd.func51,Tryd.ntmps51
 go_wp2_with (go_at_call 74;refine hc.mono ?_;rintro e w1 ⟨rfl,hb⟩)
 have HB:=Aside0.mk (below_step (below_alloc (Below.refl _ _) _) hb)
 clear hb hc
 go_ret
 exact ⟨rfl,HB.out⟩
theorem wideAll_any (x:Int) (z:List (S31)):(!z.any fun p=>[x].any (hasB p.f0.length))=Hp.wideAll x z:=by
 unfold Hp.wideAll
 induction z with
 | nil=>rfl
 | cons p z ih =>
  rw [List.any_cons,Bool.not_or,ih,List.all_cons]
  congr 1
  simp only [List.any_cons,List.any_nil,Bool.or_false,hasB,Bool.not_or]
  congr 1 <;> rw [← decide_not] <;> congr 1 <;> exact propext (by omega)
theorem one_row (w:World) (x:Int):Kd.C (Kd.int .i64) (w.alloc (.cells #[.int .i64 x] 3)) (some ⟨w.heap.size,0,none⟩) [x].length [x]:=by
 refine ⟨rfl,by simp,fun _=>⟨⟨w.heap.size,0,none⟩,rfl,fun j p hj=>?_⟩⟩
 cases j with
 | zero =>
  simp only [List.getElem?_cons_zero,Option.some.injEq] at hj
  subst hj
  refine ⟨[.int .i64 x],rfl,rfl,fun i u hu=>?_⟩
  cases i with
  | zero =>
   simp only [List.getElem?_cons_zero,Option.some.injEq] at hu
   subst hu
   go_simp
  | succ i=>simp at hu
 | succ j=>simp at hj
theorem lawStr:Go.Maps.Keyed Tryd.prog 9:=Go.Maps.string_keyed Tryd.underlying9
theorem lawInt:Go.Maps.Keyed Tryd.prog 3:=Go.Maps.int_keyed Tryd.underlying3
theorem zeroIt (w:World):(zeroValue 31).run Tryd.prog w=.ok (.agg #[.slice none 0 0,.int .i64 0]) w:=by kernel_rfl
theorem itR_zero:itR (.agg #[.slice none 0 0,.int .i64 0])=some (.held (.agg #[.slice none 0 0,.int .i64 0]),[]):=rfl
theorem HeapOf.value {W:World} {S0:Nat→Prop} {L:List (S31)} {D:DataW Value} (h:HeapOf (Kd.FK k31 W S0) L D) {r:List Int} (hinj : ∀ s,Hp.isIn s L→rowB s=rowB r→s=r) {v:Value} (hv:D.atKey (.string (rowB r)) (.held (.agg #[.slice none 0 0,.int .i64 0]))=.held v) :
  ∃ (A:Option Addr) (n c:Nat),v=.agg #[.slice A n c,.int .i64 (Hp.sumW r L)]:=by
 by_cases hi:Hp.isIn r L
 ·obtain ⟨cs,h1,h2⟩:=h.at_ r hi
  rw [h2] at hv
  injection hv with hv
  obtain ⟨A0,c0,rfl,h3,_⟩:=k31_open (Kd.FK_now h1)
  exact ⟨A0,_,c0,hv.symm⟩
 ·rw [h.no hinj hi] at hv
  injection hv with hv
  exact ⟨none,0,0,by rw [← hv,Hp.sumW_no hi]⟩
set_option maxHeartbeats 1000000 in
set_option maxRecDepth 100000 in
theorem heapAdd_calls (bm n:Nat) (L:List (S31)) (D:DataW Value) (A:Option Addr) (c:Nat) (r:List Int) (x:Int) (S0:Nat→Prop) (w:World) (hn:n≤1048576) (hl:r.length≤1048576) (hok:r.all okI=true) (hinj : ∀ s,Hp.isIn s L→rowB s=rowB r→s=r)
  (hlo : -9223372036854775808≤Hp.sumW r L + x) (hhi:Hp.sumW r L + x≤9223372036854775807) (hown:w.ownsMap Tryd.prog 9 itR bm n D) (hH:HeapOf (Kd.FK k31 w S0) L D) (hr:Kd.F (Kd.int .i64) w S0 A r.length r) (hc:r.length≤c) (hS : ∀ k,S0 k→some k≠some bm)
  (hT : Lib.TabIs Tryd.prog w "internal/strconv.uint64pow10" .u64 Lib.pow10Tab) :
  Calls Tryd.prog 52 #[.map (some bm),.slice A r.length c,.int .i64 x] w fun e w'=>e=.returned (.tuple #[])∧(∃ D',w'.ownsMap Tryd.prog 9 itR bm (n + 1) D'∧HeapOf (Kd.FK k31 w' S0) (L ++ [⟨r,x⟩]) D')∧w.grownBy w' (some bm):=by
 obtain ⟨t,ht⟩ : ∃ t:ByteArray,t=⟨(rowB r).toArray⟩:=⟨_,rfl⟩
 have hf:impl_RowText.f r=some t:=by rw [ht];unfold impl_RowText.f;rw [if_pos hl,if_pos hok]
 have htl:t.data.toList=rowB r:=by rw [ht]
 have hsz:t.size≤maxLen:=by
  have h1:=rowB_len r (fun y hy=>List.all_eq_true.1 hok y hy)
  have h2:t.size=(rowB r).length:=by rw [ht];simp [ByteArray.size]
  rw [h2];unfold maxLen;omega
 have hkey:keyOf Tryd.prog 9 (.string t)=some (.string (rowB r)):=by
  have h1:=Go.WideMaps.keyOf_string_mk Tryd.underlying9 hsz
  rw [htl] at h1;exact h1
 have hcT:=impl_RowText.calls A c r t w (Kd.F_now hr) hc hf hT
 obtain ⟨s,hs⟩ : ∃ s,s=Hp.sumW r L:=⟨_,rfl⟩
 rw [← hs] at hlo hhi
 have HH:=Aside0.mk hH
 have HO:=Aside0.mk hown
 have HR:=Aside0.mk hr
 have HI:=Aside0.mk hinj
 have HSS:=Aside0.mk hs
 have HN:=Aside0.mk hn
 have HC:=Aside0.mk hc
 have HS:=Aside0.mk hS
 have HK:=Aside0.mk hkey
 clear hH hown hr hinj hs hn hc hS hf htl hsz hl hok hT hkey ht
 go_enter Tryd.func52,Tryd.ntmps52
 go_wp2_with (go_at_call 77;refine hcT.mono ?_;rintro e w1 ⟨rfl,hb⟩;refine Hid.out ?_)
 refine Lib.hid ?_
 have hgb:w.grownBy w1 none:=grown_of_below hb _
 have hown1:=HO.out.kept hgb (by simp)
 have hH1:=HH.out.imp (fun y cs hy=>Kd.FK_grown hy hgb (fun _ _=>by simp))
 obtain ⟨v,hrun,hat,hv⟩:=look_run hown1 lawStr Tryd.underlying49 (zeroIt w1) (fun v y h=>(itR_inv h).1) itR_zero HK.out
 obtain ⟨A0,n0,c0,rfl⟩:=hH1.value HI.out hat
 rw [← HSS.out] at hrun
 have HO1:=Aside0.mk hown1
 have HH1:=Aside0.mk hH1
 have HB:=Aside0.mk hb
 have HG:=Aside0.mk hgb
 clear hat hv hown1 hH1 hb hgb hcT
 go_wp2_with (first|(at_lookup;refine look_op _ rfl _ _ 49 rfl bm _ _ rfl rfl hrun ?_)|(at_mapUpdate;refine wpList_mapUpdate_own _ rfl _ _ _ 49 rfl 9 31 lawStr Tryd.underlying49 itR bm n D rfl (HO1.out.alloc _) (by have:=HN.out;unfold maxLen;omega) _ _ _ rfl rfl HK.out (.held (.agg #[.slice A r.length c,.int .i64 (s + x)])) [] rfl ?_;intro w2 hown2 hg2))
 have HO2:=Aside0.mk hown2
 have HG2:=Aside0.mk hg2
 clear hown2 hg2
 go_wp2
 go_end0
 have hga:w1.grownBy (w1.alloc (.cells #[.slice A0 n0 c0,.int .i64 s] 31)) none:=World.grownBy_alloc _ _ _
 have hg:=(HG.out.but (some bm)).trans ((hga.but (some bm)).trans HG2.out)
 refine ⟨rfl,⟨_,HO2.out,?_⟩,hg⟩
 have h1:=HH.out.imp (fun y cs hy=>Kd.FK_grown hy hg HS.out)
 refine h1.step (cs:=[.slice A r.length c,.int .i64 (s + x)]) HI.out ?_
 rw [← HSS.out]
 exact k31_mkF _ _ (⟨r,s + x⟩:S31) HC.out (Kd.F_grown HR.out hg HS.out)
theorem cell_on {W w1:World} {row:Option Nat} (hg:W.grownBy w1 row) {a:Addr} {v:Value} (h:W.cell? a=some v) (hne:some a.block≠row):w1.cell? a=some v:=by
 have e:=hg.block a.block (World.block_lt_of_cell? W a h) hne
 unfold World.cell? at h ⊢
 rw [e]
 exact h
theorem zeroSl (w:World):(zeroValue 23).run Tryd.prog w=.ok (.slice none 0 0) w:=by kernel_rfl
theorem slR_zero:slR (.slice none 0 0)=some (.held (.slice none 0 0),[]):=rfl
theorem cs2_ (v u:Value) (hv:v.oneCell'=true:=by rfl) (hu:u.oneCell'=true:=by rfl) : ∀ x ∈ [v,u],x.oneCell'=true:=by
 intro x hx
 rcases List.mem_cons.1 hx with e|hx
 ·rw [e];exact hv
 ·rw [List.mem_singleton.1 hx];exact hu
theorem item_at {W:World} {ok:Nat→Prop} {A:Option Addr} {xs:List (S31)} (h:Kd.F k31 W ok A xs.length xs) (k:Nat) (hk:k < xs.length) :
  ∃ (ad:Addr) (B:Option Addr) (cB:Nat),A=some ad∧Kd.FK k31 W ok xs[k] [.slice B xs[k].f0.length cB,.int .i64 xs[k].f1]∧W.cell? (ad.add (k * 2))=some (.slice B xs[k].f0.length cB)∧W.cell? ⟨(ad.add (k * 2)).block,(ad.add (k * 2)).off + 1,none⟩=some (.int .i64 xs[k].f1)∧xs[k].f0.length≤cB∧Kd.F (Kd.int .i64) W ok B xs[k].f0.length xs[k].f0:=by
 obtain ⟨ad,c,e,_,hK,hc,_⟩:=Kd.F_get h z31 (k:Int) (by omega) (by omega)
 rw [Int.toNat_natCast,show xs.getD k z31=xs[k] by rw [List.getD_eq_getElem?_getD,List.getElem?_eq_getElem hk];rfl] at hK
 obtain ⟨B,cB,rfl,hl,hF⟩:=k31_openF hK
 refine ⟨ad,B,cB,e,hK,?_,?_,hl,hF⟩
 ·have:=hc 0 _ rfl
  rw [Int.toNat_natCast] at this
  exact this
 ·have:=hc 1 _ rfl
  rw [Int.toNat_natCast] at this
  rw [← add_field _ _ 1 (by omega)]
  exact this
/-- the rows of a list whose cell at a place is so -/
def selC (y c:Int) (bs:List (S31)):List (S31):=bs.filter fun q=>decide (Hp.cellAt q y=c)
theorem selC_len (y c:Int) (bs:List (S31)):(selC y c bs).length≤bs.length:=List.length_filter_le _ _
theorem selC_snoc (y c:Int) (bs:List (S31)) (q:S31):selC y c (bs ++ [q])=selC y c bs ++ if Hp.cellAt q y=c then [q] else []:=by
 unfold selC
 rw [List.filter_append]
 congr 1
 by_cases h:Hp.cellAt q y=c
 ·rw [if_pos h,List.filter_cons,if_pos (decide_eq_true h)];rfl
 ·rw [if_neg h,List.filter_cons,if_neg (by simpa using h)];rfl
/-- what the map from cells to rows holds -/
structure ByCell (base bh:Nat) (W:World) (bm n:Nat) (y:Int) (bs:List (S31)) (D:DataW Value) (val:Int→Value):Prop where
 own:W.ownsMap Tryd.prog 3 slR bm n D
 map:Go.Maps.IsMap D
 at_ : ∀ c,D.atKey (.int .i64 c) (.held (.slice none 0 0))=.held (val c)
 row : ∀ c,∃ rows:List (List Value),rows.length=(selC y c bs).length∧(Kd.raw 2).R 31 W base (fun k=>some k=(val c).ownBlock) (val c) rows∧∀ (j:Nat) (x:S31) (cs:List Value),(selC y c bs)[j]?=some x→rows[j]?=some cs→Kd.FK k31 W (fun k=>k < bh) x cs
 apart : ∀ c c',c≠c'→(val c).ownBlock=none∨(val c).ownBlock≠(val c').ownBlock
theorem map_block {P:Program} {k b n:Nat} {R:Value→Option (DataW Value × List MemPlace)} {w:World} {D:DataW Value} (h:w.ownsMap P k R b n D) : ∃ es cl,w.heap[b]?=some (.map es cl):=by
 obtain ⟨es,cl,hb,_⟩:=h
 exact ⟨es,cl,hb⟩
theorem raw_not_map {P:Program} {k b n e base:Nat} {R:Value→Option (DataW Value × List MemPlace)} {w:World} {D:DataW Value} {ok:Nat→Prop} {v:Value} {rows:List (List Value)} (h:w.ownsMap P k R b n D) (hr:(Kd.raw 2).R e w base ok v rows):some b≠v.ownBlock:=by
 intro he
 obtain ⟨es,cl,hb⟩:=map_block h
 obtain ⟨cells,hc⟩:=Kd.R_typed hr b he.symm
 rw [hb] at hc
 cases hc
theorem raw_slice {e base:Nat} {w:World} {ok:Nat→Prop} {v:Value} {rows:List (List Value)} (hr:(Kd.raw 2).R e w base ok v rows) : ∃ (A:Option Addr) (n c:Nat),v=.slice A n c:=by
 obtain ⟨A,c,h⟩:=Kd.R_slice hr
 exact ⟨A,_,c,h⟩
theorem ByCell.start {base bh bm:Nat} {W:World} {y:Int} (h:W.ownsMap Tryd.prog 3 slR bm 0 (.map [])):ByCell base bh W bm 0 y [] (.map []) (fun _=>.slice none 0 0) :=
 ⟨h,Go.Maps.isMap_empty,fun c=>rfl,fun c=>⟨[],rfl,Kd.R_nil _ _ _ _ _,fun j x cs hx _=>by simp [selC] at hx⟩,fun c c' _=>.inl rfl⟩
theorem ByCell.step {base bh bm n:Nat} {W0 W w1 w3:World} {y cc:Int} {bs:List (S31)} {D:DataW Value} {val:Int→Value} {q:S31} {rows:List (List Value)} {cs:List Value} {v1:Value} (h:ByCell base bh W0 bm n y bs D val) (hW:Below W0.heap.size W0 W) (hbh:bh≤base) (hbm:base≤bm) (hq:Hp.cellAt q y=cc)
  (hrl:rows.length=(selC y cc bs).length) (hrR:(Kd.raw 2).R 31 W0 base (fun k=>some k=(val cc).ownBlock) (val cc) rows) (hrf : ∀ (j:Nat) (x:S31) (cs:List Value),(selC y cc bs)[j]?=some x→rows[j]?=some cs→Kd.FK k31 W0 (fun k=>k < bh) x cs) (hfk:Kd.FK k31 W0 (fun k=>k < bh) q cs)
  (hr1:(Kd.raw 2).R 31 w1 base (fun _=>True) v1 (rows ++ [cs])) (hg1:W.grownBy w1 (val cc).ownBlock) (hat1:v1.ownBlock=(val cc).ownBlock∨∃ b,v1.ownBlock=some b∧W.heap.size≤b)
  (hown3:w3.ownsMap Tryd.prog 3 slR bm (n + 1) (D.put (.int .i64 cc) (.held v1))) (hg3:w1.grownBy w3 (some bm)) :
  ByCell base bh w3 bm (n + 1) y (bs ++ [q]) (D.put (.int .i64 cc) (.held v1)) (fun c=>if c=cc then v1 else val c):=by
 have hk:WideAt.IsKeyLit (.int .i64 cc):=trivial
 have nm0:some bm≠(val cc).ownBlock:=raw_not_map h.own hrR
 have fk : ∀ {x:S31} {c:List Value},Kd.FK k31 W0 (fun k=>k < bh) x c→Kd.FK k31 w3 (fun k=>k < bh) x c:=by
  intro x c hx
  refine Kd.FK_step hx (fun k hk hlt=>?_)
  have e1:=hW.block k hlt
  have e2:=hg1.block k (Nat.lt_of_lt_of_le hlt hW.size) (fun e=>by have:=Kd.R_base hrR k e.symm;omega)
  have e3:=hg3.block k (Nat.lt_of_lt_of_le hlt (Nat.le_trans hW.size hg1.size)) (fun e=>by injection e with e;omega)
  rw [e3,e2,e1]
 have own1:w1.ownsMap Tryd.prog 3 slR bm n D:=(h.own.kept (grown_of_below hW none) (by simp)).kept hg1 nm0
 refine ⟨hown3,h.map.put _ _,fun c=>?_,fun c=>?_,fun c c' hne=>?_⟩
 ·by_cases e:c=cc
  ·subst e
   rw [if_pos rfl]
   exact Go.Maps.atKey_put_same h.map hk _ _
  rw [if_neg e,Go.Maps.atKey_put_other (fun e2=>e (by injection e2))]
  exact h.at_ c
 ·by_cases e:c=cc
  rotate_left
  ·rw [if_neg e]
   obtain ⟨rw_,hl,hR,hf⟩:=h.row c
   refine ⟨rw_,?_,?_,fun j x c2 hx hc=>?_⟩
   ·rw [selC_snoc,if_neg (fun e2=>e (by rw [← e2,hq])),List.append_nil];exact hl
   ·refine Kd.R_grown (Kd.R_grown (Kd.R_below hR hW) hg1 (fun k hk=>?_)) hg3 (fun k hk=>?_)
    ·rcases h.apart c cc e with h1|h1
     ·rw [h1] at hk;cases hk
     rw [hk];exact h1
    rw [hk];exact (raw_not_map h.own hR).symm
   rw [selC_snoc,if_neg (fun e2=>e (by rw [← e2,hq])),List.append_nil] at hx
   exact fk (hf j x c2 hx hc)
  subst e
  rw [if_pos rfl]
  refine ⟨rows ++ [cs],?_,Kd.R_grown (Kd.raw_tight hr1) hg3 (fun k hk=>?_),fun j x c2 hx hc=>?_⟩
  ·rw [selC_snoc,if_pos hq,List.length_append,List.length_append,hrl];rfl
  ·rw [hk];exact (raw_not_map own1 hr1).symm
  rw [selC_snoc,if_pos hq] at hx
  rcases Nat.lt_or_ge j rows.length with hj|hj
  ·rw [List.getElem?_append_left (by rw [← hrl];exact hj)] at hx
   rw [List.getElem?_append_left hj] at hc
   exact fk (hrf j x c2 hx hc)
  rw [List.getElem?_append_right (by rw [← hrl];exact hj),← hrl] at hx
  rw [List.getElem?_append_right hj] at hc
  obtain ⟨i,hi⟩ : ∃ i,i=j - rows.length:=⟨_,rfl⟩
  rw [← hi] at hx hc
  cases i with
  | zero =>
   simp only [List.getElem?_cons_zero,Option.some.injEq] at hx hc
   rw [← hx,← hc];exact fk hfk
  | succ i=>simp at hx
 have new : ∀ c,c≠cc→(v1.ownBlock=none∨v1.ownBlock≠(val c).ownBlock)∧((val c).ownBlock=none∨(val c).ownBlock≠v1.ownBlock):=by
  intro c e
  obtain ⟨_,_,hR,_⟩:=h.row c
  rcases hat1 with h1|⟨b,h1,h2⟩
  ·rw [h1];exact ⟨h.apart cc c (Ne.symm e),h.apart c cc e⟩
  have h3:(val c).ownBlock≠some b:=fun e2=>by
   have h4:=Kd.R_lt hR b e2
   have h5:=hW.size
   omega
  exact ⟨.inr (by rw [h1];exact Ne.symm h3),.inr (by rw [h1];exact h3)⟩
 by_cases e:c=cc
 ·subst e
  rw [if_pos rfl,if_neg (Ne.symm hne)]
  exact (new c' (Ne.symm hne)).1
 rw [if_neg e]
 by_cases e':c'=cc
 ·subst e'
  rw [if_pos rfl]
  exact (new c e).2
 rw [if_neg e']
 exact h.apart c c' hne
theorem below_row {b:Nat} {w w':World} (h:w.grownBy w' (some b)) (hb:b≤w.heap.size):Below b w w':=⟨h.os,h.tape,h.output,h.size,fun k hk=>h.block k (by omega) (fun e=>by injection e with e;omega)⟩
theorem grown_refl (w:World) (row:Option Nat):w.grownBy w row:=grown_of_below (Below.refl w.heap.size w) row
theorem grown_below {b:Nat} {w w1 w2:World} (h:w.grownBy w1 (some b)) (hb:Below w1.heap.size w1 w2):w.grownBy w2 (some b):=h.trans (grown_of_below hb _)
theorem ByCell.reads {base bh bm n:Nat} {W:World} {y:Int} {bs:List (S31)} {D:DataW Value} {val:Int→Value} (h:ByCell base bh W bm n y bs D val) (hbh:bh≤base) {k' n':Nat} {R':Value→Option (DataW Value × List MemPlace)} {D':DataW Value} (hH:W.ownsMap Tryd.prog k' R' bh n' D') (c:Int) :
  ∃ (A:Option Addr) (cv:Nat) (ok:Nat→Prop),val c=.slice A (selC y c bs).length cv∧(selC y c bs).length≤cv∧Kd.F k31 W ok A (selC y c bs).length (selC y c bs)∧(∀ k,ok k→some k≠some bh):=by
 obtain ⟨rows,hl,hR,hf⟩:=h.row c
 have hN:Kd.N k31 31 W base (fun k=>k < bh∨some k=(val c).ownBlock) (val c) (selC y c bs) :=
  ⟨fun k hk=>.inr hk.symm,rows,hl,hR,fun j x cs hx hc=>Kd.FK_mono (hf j x cs hx hc) (fun k hk=>⟨.inl hk,fun e=>by have:=Kd.R_base hR k e.symm;omega⟩)⟩
 obtain ⟨A,cv,e⟩:=Kd.N_slice hN
 rw [e] at hN
 refine ⟨A,cv,_,e,(Kd.N_reads' hN).2.1,Kd.N_F hN,fun k hk=>?_⟩
 rcases hk with hk|hk
 ·intro e2
  injection e2 with e2
  omega
 ·have h1:=raw_not_map hH hR
  rw [e] at h1
  rw [hk]
  exact Ne.symm h1
theorem sumW_le (r:List Int) : ∀ L:List (S31),(∀ u ∈ L,-100000000≤u.f1∧u.f1≤100000000)→-100000000 * (L.length:Int)≤Hp.sumW r L∧Hp.sumW r L≤100000000 * (L.length:Int):=by
 intro L
 induction L with
 | nil=>intro _;simp [Hp.sumW]
 | cons u L ih =>
  intro h
  have h1:=h u List.mem_cons_self
  have h2:=ih (fun v hv=>h v (List.mem_cons_of_mem _ hv))
  rw [Hp.sumW,List.length_cons]
  split <;> omega
theorem mul_le4 {a b:Int} (h1 : -10000≤a) (h2:a≤10000) (h3 : -10000≤b) (h4:b≤10000) : -100000000≤a * b∧a * b≤100000000:=by
 have ha:a.natAbs≤10000:=by omega
 have hb:b.natAbs≤10000:=by omega
 have h5:(a * b).natAbs≤10000 * 10000:=by rw [Int.natAbs_mul];exact Nat.mul_le_mul ha hb
 omega
theorem fine_pairs {kk:Nat} {l0 l1:List (S31)} (h:fineJ kk l0 l1) {x y:Int} {a b:List (S31)} (ha : ∀ p ∈ a,p ∈ l0) (hb : ∀ q ∈ b,q ∈ l1) : ∀ u ∈ Hp.pairsOf x y a b,-100000000≤u.f1∧u.f1≤100000000:=by
 intro u hu
 obtain ⟨p,hp,q,hq,rfl⟩:=Hp.pairsOf_mem hu
 have h1:=(h.2.2.1 p (ha p hp)).2.2
 have h2:=(h.2.2.2.1 q (hb q hq)).2.2
 exact mul_le4 h1.1 h1.2 h2.1 h2.2
theorem pairsOf_snoc (x y:Int) (a b:List (S31)) (p:S31):Hp.pairsOf x y (a ++ [p]) b=Hp.pairsOf x y a b ++ (Hp.mates x y b p).map (Hp.joined p):=by
 unfold Hp.pairsOf
 rw [List.flatMap_append]
 simp
theorem pairsOf_len (x y:Int) (b:List (S31)) : ∀ a:List (S31),(Hp.pairsOf x y a b).length≤a.length * b.length:=by
 intro a
 induction a with
 | nil=>simp [Hp.pairsOf]
 | cons p a ih =>
  have h1:Hp.pairsOf x y (p :: a) b=(Hp.mates x y b p).map (Hp.joined p) ++ Hp.pairsOf x y a b:=rfl
  have h2:(Hp.mates x y b p).length≤b.length:=List.length_filter_le _ _
  rw [h1,List.length_append,List.length_map,List.length_cons,Nat.succ_mul]
  omega
set_option maxHeartbeats 4000000 in
set_option maxRecDepth 100000 in
theorem joinInto_calls (kk bh:Nat) (A0:Option Addr) (c0:Nat) (l0:List (S31)) (A1:Option Addr) (c1:Nat) (l1:List (S31)) (x y:Int) (w:World) (hfine:fineJ kk l0 l1) (hne0:l0≠[]) (hne1:l1≠[]) (hwx:Hp.wideAll x l0=true) (hwy:Hp.wideAll y l1=true)
  (hF0 : Kd.F k31 w (fun k => k < bh) A0 l0.length l0) (hF1 : Kd.F k31 w (fun k => k < bh) A1 l1.length l1) (hown : w.ownsMap Tryd.prog 9 itR bh 0 (.map [])) (hTB : ∀ W, Below bh w W → Lib.TabIs Tryd.prog W "internal/strconv.uint64pow10" .u64 Lib.pow10Tab) :
  Calls Tryd.prog 25 #[.map (some bh),.slice A0 l0.length c0,.slice A1 l1.length c1,.int .i64 x,.int .i64 y] w fun e w'=>e=.returned (.bool true)∧(∃ D n,n≤10000∧w'.ownsMap Tryd.prog 9 itR bh n D∧HeapOf (Kd.FK k31 w' (fun k=>bh < k)) (Hp.pairsOf x y l0 l1) D)∧w.grownBy w' (some bh):=by
 have hmm:=@run_makeMap Tryd.prog
 have hbh:=hown.lt
 have hl0:l0.length≤100:=hfine.1
 have hl1:l1.length≤100:=hfine.2.1
 have hp0:0 < l0.length:=List.length_pos_iff.2 hne0
 have hp1:0 < l1.length:=List.length_pos_iff.2 hne1
 have z00:((l0.length:Int) == 0)=false:=by rw [beq_eq_false_iff_ne];omega
 have z10:((l1.length:Int) == 0)=false:=by rw [beq_eq_false_iff_ne];omega
 have hbx:=@hasAll_calls A0 c0 l0 (some ⟨w.heap.size,0,none⟩) 1 [x] (w.alloc (.cells #[.int .i64 x] 3)) (by omega) (Kd.C_alloc (Kd.F_now hF0) _) (by simp) (one_row _ _)
 rw [wideAll_any,hwx] at hbx
 change Calls Tryd.prog 51 #[.slice A0 l0.length c0,.slice (some ⟨w.heap.size,0,none⟩) 1 1] _ _ at hbx
 have hby:=fun (W:World) (hb:Below w.heap.size w W)=>@hasAll_calls A1 c1 l1 (some ⟨W.heap.size,0,none⟩) 1 [y] (W.alloc (.cells #[.int .i64 y] 3)) (by omega) (Kd.C_alloc (Kd.C_below (Kd.F_now hF1) hb) _) (by simp) (one_row _ _)
 rw [wideAll_any,hwy] at hby
 change ∀ (W:World),Below w.heap.size w W→Calls Tryd.prog 51 #[.slice A1 l1.length c1,.slice (some ⟨W.heap.size,0,none⟩) 1 1] _ _ at hby
 have HBX:=Aside0.mk hbx
 have HBY:=Aside0.mk hby
 have HFI:=Aside0.mk hfine
 have HWX:=Aside0.mk hwx
 have HWY:=Aside0.mk hwy
 have HF0:=Aside0.mk hF0
 have HF1:=Aside0.mk hF1
 have HOH:=Aside0.mk hown
 have HTB:=Aside0.mk hTB
 have HL0:=Aside0.mk hl0
 have HL1:=Aside0.mk hl1
 have HP0:=Aside0.mk hp0
 have HP1:=Aside0.mk hp1
 have HBH:=Aside0.mk hbh
 clear hfine hne0 hne1 hwx hwy hF0 hF1 hown hTB hbx hby hl0 hl1 hp0 hp1 hbh
 go_enter Tryd.func25,Tryd.ntmps25
 go_wp2_with (go_at_call 51;refine HBX.out.mono ?_;rintro e w1 ⟨rfl,hb⟩;refine Hid.out ?_)
 refine Lib.hid ?_
 have HB1:=Aside0.mk (below_step (below_alloc (Below.refl w.heap.size w) (.cells #[.int .i64 x] 3)) hb)
 clear hb
 go_wp2_with (go_at_call 51;refine (HBY.out w1 HB1.out).mono ?_;rintro e w2 ⟨rfl,hb⟩;refine Hid.out ?_)
 refine Lib.hid ?_
 have HB2:=Aside0.mk (below_step (below_alloc HB1.out (.cells #[.int .i64 y] 3)) hb)
 clear hb HB1 HBX HBY
 go_wp2
 go_loopw [41] (fun i wr=>∃ (kq:Nat) (D:DataW Value) (val:Int→Value),kq≤l1.length∧i=.int .i64 kq∧ByCell w.heap.size bh wr w2.heap.size kq y (l1.take kq) D val∧Below w.heap.size w wr) (fun i _=>l1.length - (intOf i).toNat)
 case atStart=>exact ⟨0,_,_,Nat.zero_le _,rfl,ByCell.start (World.ownsMap_made _ _ _ _),below_alloc HB2.out _⟩
 case round =>
  obtain ⟨kq,D,val,hkq,rfl,hby,hnx⟩:=hrel
  have HNX:=Aside0.mk hnx
  have HBY:=Aside0.mk hby
  clear hby hnx
  by_cases hlt:kq < l1.length
  case neg =>
   have g0:decide ((kq:Int) < (l1.length:Int))=false:=decide_eq_false (by omega)
   have g1:decide (kq < l1.length)=false:=decide_eq_false (by omega)
   have htk:l1.take kq=l1:=List.take_of_length_le (by omega)
   obtain ⟨wb,rfl⟩ : ∃ wo,wo=wr:=⟨_,rfl⟩
   have hby:=HBY.out
   rw [htk] at hby
   have HBY:=Aside0.mk hby
   have HOB:=Aside0.mk (HOH.out.kept (grown_of_below HNX.out none) (by simp))
   have HBB:=Aside0.mk (Nat.lt_of_lt_of_le HBH.out HNX.out.size)
   clear htk hby hlt hkq
   go_wp2
   go_loopw [64] (fun i wr=>∃ (ka:Nat) (D2:DataW Value),ka≤l0.length∧i=.int .i64 ka∧wr.ownsMap Tryd.prog 9 itR bh (Hp.pairsOf x y (l0.take ka) l1).length D2∧HeapOf (Kd.FK k31 wr (fun k=>bh < k)) (Hp.pairsOf x y (l0.take ka) l1) D2∧wb.grownBy wr (some bh)) (fun i _=>l0.length - (intOf i).toNat)
   case atStart=>exact ⟨0,_,Nat.zero_le _,rfl,HOB.out,HeapOf.start _,grown_refl _ _⟩
   case round =>
    obtain ⟨ka,D2,hka,rfl,hO2,hH2,hG2⟩:=hrel
    obtain ⟨wa,rfl⟩ : ∃ wo,wo=wr:=⟨_,rfl⟩
    have HO2:=Aside0.mk hO2
    have HH2:=Aside0.mk hH2
    have HG2:=Aside0.mk hG2
    clear hO2 hH2 hG2
    by_cases hlt:ka < l0.length
    case neg =>
     have e0:decide ((ka:Int) < (l0.length:Int))=false:=decide_eq_false (by omega)
     have e1:decide (ka < l0.length)=false:=decide_eq_false (by omega)
     have htk:l0.take ka=l0:=List.take_of_length_le (by omega)
     have HTK:=Aside0.mk htk
     clear htk hlt hka
     go_wp2
     go_ret
     have h1:=HO2.out
     have h2:=HH2.out
     rw [HTK.out] at h1 h2
     refine ⟨rfl,⟨_,_,?_,h1,h2⟩,(grown_of_below HNX.out _).trans HG2.out⟩
     have h3:=pairsOf_len x y l1 l0
     have h4:=Nat.mul_le_mul HL0.out HL1.out
     omega
    have e0:decide ((ka:Int) < (l0.length:Int))=true:=decide_eq_true (by omega)
    have e1:decide (ka < l0.length)=true:=decide_eq_true (by omega)
    have HBA:=Aside0.mk (HNX.out.mono (Nat.le_of_lt HBH.out) |>.trans (below_row HG2.out (Nat.le_of_lt HBB.out)))
    have hF0a:=Kd.F_step HF0.out (W1:=wa) (fun k hk _=>HBA.out.block k hk)
    obtain ⟨ad,Bp,cp,hA0,hfkp,hca,hcb,hlcp,hFp⟩:=item_at hF0a ka hlt
    subst hA0
    have hwid:0≤x∧x < (l0[ka].f0.length:Int):=by
     have h1:=List.all_eq_true.1 HWX.out l0[ka] (List.getElem_mem hlt)
     rw [Bool.and_eq_true,decide_eq_true_eq,decide_eq_true_eq] at h1
     exact h1
    have htk:l0.take (ka + 1)=l0.take ka ++ [l0[ka]]:=List.take_succ_eq_append_getElem hlt
    have hmem:l0[ka] ∈ l0:=List.getElem_mem hlt
    obtain ⟨p,hp⟩ : ∃ p,p=l0[ka]:=⟨_,rfl⟩
    rw [← hp] at hca hcb hlcp hFp hwid htk hmem
    obtain ⟨rp,hrp⟩ : ∃ r,r=p.f0:=⟨_,rfl⟩
    obtain ⟨wp,hwp⟩ : ∃ v,v=p.f1:=⟨_,rfl⟩
    rw [← hrp] at hca hlcp hFp hwid
    rw [← hwp] at hcb
    obtain ⟨hx0,hx1⟩:=hwid
    obtain ⟨adp,hBp,hcc⟩:=Kd.at_int (Kd.F_now hFp) x hx0 hx1
    subst hBp
    obtain ⟨cc,hccv⟩ : ∃ c,c=rd rp x:=⟨_,rfl⟩
    rw [← hccv] at hcc
    have HCELL:=Aside0.mk (show Hp.cellAt p x=cc by rw [hccv,hrp];rfl)
    have HCOK:=Aside0.mk (show (Lit.int .i64 cc).wf=true by
     have h1:=(HFI.out.2.2.1 p hmem).2.1 cc (by
      rw [hccv,← hrp]
      show rp.getD x.toNat 0 ∈ rp
      have h2:x.toNat < rp.length:=by omega
      rw [List.getD_eq_getElem?_getD,List.getElem?_eq_getElem h2]
      exact List.getElem_mem h2)
     exact WalkArith.wf_i64 (okI_iff.1 h1))
    have HKC:=Aside0.mk (Go.Maps.keyOf_int_mk (P:=Tryd.prog) Tryd.underlying3 HCOK.out)
    obtain ⟨Av,cv,okv,hv,hcv,hFv,hokv⟩:=HBY.out.reads (Nat.le_of_lt HBH.out) HOB.out cc
    have hms:selC y cc l1=Hp.mates x y l1 p:=by unfold selC Hp.mates;rw [HCELL.out]
    rw [hms] at hv hcv hFv
    obtain ⟨ms,hmse⟩ : ∃ m,m=Hp.mates x y l1 p:=⟨_,rfl⟩
    rw [← hmse] at hv hcv hFv
    have HAT:=Aside0.mk (show D.atKey (.int .i64 cc) (.held (.slice none 0 0))=.held (.slice Av ms.length cv) by rw [← hv];exact HBY.out.at_ cc)
    have HTK:=Aside0.mk htk
    have HP:=Aside0.mk hmem
    have HEQ:=Aside0.mk (And.intro hrp hwp)
    have HMS:=Aside0.mk hmse
    have HFP:=Aside0.mk hFp
    have HLCP:=Aside0.mk hlcp
    have HFV:=Aside0.mk hFv
    have HOKV:=Aside0.mk hokv
    have HLT:=Aside0.mk hlt
    have HW:=Aside0.mk (show wrap64 ((ka:Int) + 1)=((ka + 1:Nat):Int) by have:=HL0.out;unfold wrap64;omega)
    have HX:=Aside0.mk (And.intro hx0 hx1)
    have HMM:=Aside0.mk (show ∀ q ∈ ms,q ∈ l1 by rw [hmse];intro q hq;exact (List.mem_filter.1 hq).1)
    have HML:=Aside0.mk (show ms.length≤100 by rw [hmse];exact Nat.le_trans (List.length_filter_le _ _) HL1.out)
    have p0:=eq_true hx0
    have p1:=eq_true hx1
    have HHA:=Aside0.mk (show bh < wa.heap.size from Nat.lt_of_lt_of_le HBB.out HG2.out.size)
    have HOM:=Aside0.mk (HBY.out.own.kept HG2.out (show some w2.heap.size≠some bh from fun e=>by injection e with e;have h1:=HB2.out.size;have h2:=HBH.out;omega))
    have hrun:=look_at (HOM.out.alloc (.cells #[.slice (some adp) rp.length cp,.int .i64 wp] 31)) lawInt Tryd.underlying74 (zeroSl _) (fun v y h=>(slR_inv h).1) slR_zero HKC.out HAT.out
    have hcc2:=pw_cell_below (below_alloc (Below.refl wa.heap.size wa) (.cells #[.slice (some adp) rp.length cp,.int .i64 wp] 31)) hcc
    clear htk hmem hrp hwp hp hmse hFp hlcp hFv hokv hka hms hv hcv hfkp hF0a hccv hx0 hx1 hcc
    go_wp2_with (at_lookup;refine look_op _ rfl _ _ 74 rfl w2.heap.size _ _ rfl rfl hrun ?_)
    have HXP:=Aside0.mk (show (wa.alloc (.cells #[.slice (some adp) rp.length cp,.int .i64 wp] 31)).cell? ⟨wa.heap.size,0,none⟩=some (.slice (some adp) rp.length cp)∧(wa.alloc (.cells #[.slice (some adp) rp.length cp,.int .i64 wp] 31)).cell? ⟨wa.heap.size,1,none⟩=some (.int .i64 wp) from ⟨by go_simp,by go_simp⟩)
    clear hrun hcc2 hca hcb p0 p1
    go_loopw [76] (fun i wr=>∃ (kj:Nat) (D3:DataW Value),kj≤ms.length∧i=.int .i64 kj∧wr.ownsMap Tryd.prog 9 itR bh (Hp.pairsOf x y (l0.take ka) l1 ++ (ms.take kj).map (Hp.joined p)).length D3∧HeapOf (Kd.FK k31 wr (fun k=>bh < k)) (Hp.pairsOf x y (l0.take ka) l1 ++ (ms.take kj).map (Hp.joined p)) D3∧(wa.alloc (.cells #[.slice (some adp) rp.length cp,.int .i64 wp] 31)).grownBy wr (some bh)) (fun i _=>ms.length - (intOf i).toNat)
    case atStart =>
     refine ⟨0,D2,Nat.zero_le _,rfl,?_,?_,grown_refl _ _⟩
     ·rw [List.take_zero,List.map_nil,List.append_nil];exact HO2.out.alloc _
     rw [List.take_zero,List.map_nil,List.append_nil];exact HH2.out.imp (fun u cs hu=>Kd.FK_below hu (below_alloc (Below.refl _ _) _))
    case round =>
     obtain ⟨kj,D3,hkj,rfl,hO3,hH3,hG3⟩:=hrel
     have HO3:=Aside0.mk hO3
     have HH3:=Aside0.mk hH3
     have HG3:=Aside0.mk hG3
     have HGA:=Aside0.mk ((World.grownBy_alloc wa (.cells #[.slice (some adp) rp.length cp,.int .i64 wp] 31) _).trans hG3)
     clear hO3 hH3 hG3
     by_cases hlt:kj < ms.length
     case neg =>
      have d0:decide ((kj:Int) < (ms.length:Int))=false:=decide_eq_false (by omega)
      have d1:decide (kj < ms.length)=false:=decide_eq_false (by omega)
      have htk:ms.take kj=ms:=List.take_of_length_le (by omega)
      have HTJ:=Aside0.mk htk
      clear htk hlt hkj
      go_wp2
      go_roundw
      case rel =>
       have h1:=HO3.out
       have h2:=HH3.out
       have h3:Hp.pairsOf x y (l0.take (ka + 1)) l1=Hp.pairsOf x y (l0.take ka) l1 ++ ms.map (Hp.joined p):=by rw [HTK.out,pairsOf_snoc,HMS.out]
       rw [HTJ.out,← h3] at h1 h2
       exact ⟨ka + 1,_,HLT.out,by rw [HW.out],h1,h2,HG2.out.trans HGA.out⟩
      case measure=>have:=HLT.out;rw [HW.out];simp only [intOf];omega
     have d0:decide ((kj:Int) < (ms.length:Int))=true:=decide_eq_true (by omega)
     have d1:decide (kj < ms.length)=true:=decide_eq_true (by omega)
     have HBR:=Aside0.mk (HBA.out.trans (below_row HGA.out (Nat.le_of_lt HHA.out)))
     have hFvr:=Kd.F_grown HFV.out (HG2.out.trans HGA.out) HOKV.out
     obtain ⟨adv,Bq,cq,hAv,hfkq,hca,hcb,hlcq,hFq⟩:=item_at hFvr kj hlt
     subst hAv
     have htk:ms.take (kj + 1)=ms.take kj ++ [ms[kj]]:=List.take_succ_eq_append_getElem hlt
     have hmq:ms[kj] ∈ l1:=HMM.out _ (List.getElem_mem hlt)
     obtain ⟨q,hq⟩ : ∃ q,q=ms[kj]:=⟨_,rfl⟩
     rw [← hq] at hca hcb hlcq hFq htk hmq
     obtain ⟨rq,hrq⟩ : ∃ r,r=q.f0:=⟨_,rfl⟩
     obtain ⟨wq,hwq⟩ : ∃ v,v=q.f1:=⟨_,rfl⟩
     rw [← hrq] at hca hlcq hFq
     rw [← hwq] at hcb
     obtain ⟨L,hL⟩ : ∃ L,L=Hp.pairsOf x y (l0.take ka) l1 ++ (ms.take kj).map (Hp.joined p):=⟨_,rfl⟩
     have hLn:Hp.pairsOf x y (l0.take ka) l1 ++ (ms.take (kj + 1)).map (Hp.joined p)=L ++ [⟨rp ++ rq,wp * wq⟩]:=by
      rw [htk,List.map_append,← List.append_assoc,← hL,hrq,hwq,HEQ.out.1,HEQ.out.2];rfl
     have hLp : ∀ u ∈ L,∃ p' ∈ l0,∃ q' ∈ l1,u=Hp.joined p' q':=by
      intro u hu
      rw [hL] at hu
      rcases List.mem_append.1 hu with hu|hu
      ·obtain ⟨p',hp',q',hq',e⟩:=Hp.pairsOf_mem hu
       exact ⟨p',List.mem_of_mem_take hp',q',hq',e⟩
      obtain ⟨q',hq',e⟩:=List.mem_map.1 hu
      exact ⟨p,HP.out,q',HMM.out _ (List.mem_of_mem_take hq'),e.symm⟩
     have hLl:L.length≤10100:=by
      rw [hL,List.length_append,List.length_map]
      have h1:=pairsOf_len x y l1 (l0.take ka)
      have h2:(l0.take ka).length≤100:=Nat.le_trans (List.length_take_le _ _) (by have:=HLT.out;have:=HL0.out;omega)
      have h3:=Nat.mul_le_mul h2 HL1.out
      have h4:=List.length_take_le' kj ms
      have h5:=HML.out
      omega
     have HO3L:=HO3.out
     have HH3L:=HH3.out
     rw [← hL] at HO3L HH3L
     have HO3:=Aside0.mk HO3L
     have HH3:=Aside0.mk HH3L
     have hmul:=mul_le4 (HFI.out.2.2.1 p HP.out).2.2.1 (HFI.out.2.2.1 p HP.out).2.2.2 (HFI.out.2.2.2.1 q hmq).2.2.1 (HFI.out.2.2.2.1 q hmq).2.2.2
     rw [← HEQ.out.2,← hwq] at hmul
     have hsum:=sumW_le (rp ++ rq) L (fun u hu=>by
      obtain ⟨p',hp',q',hq',e⟩:=hLp u hu
      rw [e]
      exact mul_le4 (HFI.out.2.2.1 p' hp').2.2.1 (HFI.out.2.2.1 p' hp').2.2.2 (HFI.out.2.2.2.1 q' hq').2.2.1 (HFI.out.2.2.2.1 q' hq').2.2.2)
     have HLO:=Aside0.mk (show -9223372036854775808≤Hp.sumW (rp ++ rq) L + wp * wq by omega)
     have HHI:=Aside0.mk (show Hp.sumW (rp ++ rq) L + wp * wq≤9223372036854775807 by omega)
     have HLR:=Aside0.mk (show (rp ++ rq).length≤1048576 by
      have h1:=(HFI.out.2.2.1 p HP.out).1
      have h2:=(HFI.out.2.2.2.1 q hmq).1
      rw [List.length_append,HEQ.out.1,hrq]
      omega)
     have HOR:=Aside0.mk (show (rp ++ rq).all okI=true by
      rw [List.all_eq_true]
      intro c hc
      rcases List.mem_append.1 hc with hc|hc
      ·rw [HEQ.out.1] at hc;exact (HFI.out.2.2.1 p HP.out).2.1 c hc
      ·rw [hrq] at hc;exact (HFI.out.2.2.2.1 q hmq).2.1 c hc)
     have HIN:=Aside0.mk (show ∀ s,Hp.isIn s L→rowB s=rowB (rp ++ rq)→s=rp ++ rq by
      rintro s ⟨u,hu,hus⟩ hs
      obtain ⟨p',hp',q',hq',e⟩:=hLp u hu
      rw [e] at hus
      have h1:=(HFI.out.2.2.2.2.2 p' hp' q' hq' p HP.out q hmq).2
      rw [← HEQ.out.1,← hrq] at h1
      rw [← hus] at hs ⊢
      exact h1 hs)
     have HN2:=Aside0.mk (show L.length≤1048576 by omega)
     have HRJ:=Aside0.mk (show impl_RowJoin.f kk rp rq=some (rp ++ rq) by rw [HEQ.out.1,hrq];exact HFI.out.2.2.2.2.1 p HP.out q hmq)
     have HWR:=Aside0.mk hmul
     have HLN:=Aside0.mk hLn
     have HLC:=Aside0.mk hlcq
     have HLJ:=Aside0.mk hlt
     have HWJ:=Aside0.mk (show wrap64 ((kj:Int) + 1)=((kj + 1:Nat):Int) by have:=HML.out;unfold wrap64;omega)
     have HWW:=Aside0.mk (below_drew (below_alloc (Below.refl wr.heap.size wr) (.cells #[.slice Bq rq.length cq,.int .i64 wq] 31)))
     have HVP:=Aside0.mk (Kd.V_mk (e:=3) (base:=0) HLCP.out (Kd.F_below (Kd.F_step HFP.out (W1:=wr) (fun k hk _=>(below_row HGA.out (Nat.le_of_lt HHA.out)).block k hk)) HWW.out))
     have HVQ:=Aside0.mk (Kd.V_mk (e:=3) (base:=0) HLC.out (Kd.F_below hFq HWW.out))
     have HO3:=Aside0.mk (HO3.out.kept (grown_of_below HWW.out none) (by simp))
     have HH3:=Aside0.mk (HH3.out.imp (fun u cs hu=>Kd.FK_below hu HWW.out))
     have HBW:=Aside0.mk (HBR.out.trans (HWW.out.mono (Nat.le_of_lt (Nat.lt_of_lt_of_le HHA.out HGA.out.size))))
     have HBS:=Aside0.mk (show bh < wr.heap.size from Nat.lt_of_lt_of_le HHA.out HGA.out.size)
     have HNP:=Aside0.mk (show some wa.heap.size≠some bh from fun e=>by injection e with e;have:=HHA.out;omega)
     have a0:=pw_cell_below HWW.out (cell_on HG3.out HXP.out.1 HNP.out)
     have a1:=pw_cell_below HWW.out (cell_on HG3.out HXP.out.2 HNP.out)
     have a2:(wr.alloc (.cells #[.slice Bq rq.length cq,.int .i64 wq] 31)).drew.cell? ⟨wr.heap.size,0,none⟩=some (.slice Bq rq.length cq):=by go_simp
     have a3:(wr.alloc (.cells #[.slice Bq rq.length cq,.int .i64 wq] 31)).drew.cell? ⟨wr.heap.size,1,none⟩=some (.int .i64 wq):=by go_simp
     have hwrap:IntKind.i64.wrap (wp * wq)=wp * wq:=IntWalk.i64_in _ (by omega)
     clear htk hmq hrq hwq hq hL hLn hLp hLl HO3L HH3L hmul hsum hlcq hfkq hFq hFvr hkj
     go_wp2
     clear hca hcb
     refine start_ (n:=12) (S:=fun w'=>w'.cell? ⟨wa.heap.size,0,none⟩=some (.slice (some adp) rp.length cp)∧w'.cell? ⟨wa.heap.size,1,none⟩=some (.int .i64 wp)∧w'.cell? ⟨wr.heap.size,0,none⟩=some (.slice Bq rq.length cq)∧w'.cell? ⟨wr.heap.size,1,none⟩=some (.int .i64 wq)) (ds:=[11]) (zm 12 0) (by kernel_rfl) rfl rfl ⟨a0,a1,a2,a3⟩ (fun hHeld=>?_)
     clear a0 a1 a2 a3
     generalize (wr.alloc (.cells #[.slice Bq rq.length cq,.int .i64 wq] 31)).drew=W at HWW HVP HVQ HO3 HH3 HBW hHeld ⊢
     refine zpk 0 80 12 1 ?_
     refine zpk 1 81 12 3 ?_
     refine zpk 3 83 12 11 ?_
     refine zpk 6 86 12 75 ?_
     refine zpk 8 88 12 331 ?_
     refine ztk 2 82 12 335 ?_
     refine ztk 4 84 12 351 ?_
     refine ztk 7 87 12 479 ?_
     refine ztk 9 89 12 991 ?_
     refine zpk 10 90 12 2015 ?_
     refine one_ (i:=5) (N:=some 85) (zm 12 2047) rfl rfl (by kernel_rfl) (by decide) (fun K hK=>?_)
     refine goes_ Tryd.func18 (by kernel_rfl) rfl #[.slice (some adp) rp.length cp,.slice Bq rq.length cq] (by rfl) rfl rfl (by simp only [List.map_toArray,List.map_cons,List.map_nil];rfl) ?_
     with_reducible refine (impl_RowJoin.calls kk (fun k=>k < bh) _ _ rp okv _ _ rq (rp ++ rq) _ HVP.out HVQ.out HRJ.out).mono ?_
     rintro e w1_ ⟨v1,rfl,hrj,hbj⟩
     refine ⟨_,rfl,?_⟩
     obtain ⟨Aj,cj,rfl⟩:=Kd.R_slice hrj
     have HBJ:=Aside0.mk hbj
     refine hK.out _ _ ⟨(pw_cell_below HBJ.out hHeld.1),(pw_cell_below HBJ.out hHeld.2.1),(pw_cell_below HBJ.out hHeld.2.2.1),(pw_cell_below HBJ.out hHeld.2.2.2)⟩ (fun hHeld=>?_)
     clear hK K
     refine norm_ (a':=?_) ?_ ?_
     rotate_left
     ·show Act.put _ (some 85) _=_
      simp only [Act.put,zp1,zp2,zp3,i64_w,i32_w]
      rfl
     refine last_ (i:=11) (N:=some 91) (zm 12 4095) rfl rfl (by kernel_rfl) (by decide) (fun K hK=>?_)
     refine goes_ Tryd.func52 (by kernel_rfl) rfl #[.map (some bh),.slice Aj (rp ++ rq).length cj,.int .i64 (wp * wq)] (by rfl) rfl rfl (by simp only [List.map_toArray,List.map_cons,List.map_nil];rfl) ?_
     with_reducible refine (heapAdd_calls bh L.length L D3 Aj cj (rp ++ rq) (wp * wq) (fun k=>bh < k) w1_ HN2.out HLR.out HOR.out HIN.out HLO.out HHI.out (HO3.out.kept (grown_of_below HBJ.out none) (by simp)) (HH3.out.imp (fun u cs hu=>Kd.FK_below hu HBJ.out)) (Kd.F_mono (Kd.R_F hrj) (fun k hk=>Nat.lt_of_lt_of_le HBS.out (Nat.le_trans HWW.out.size hk))) (Kd.R_reads' hrj).2.1 (fun k hk e=>by injection e with e;omega) (HTB.out w1_ (HBW.out.trans (HBJ.out.mono (Nat.le_of_lt (Nat.lt_of_lt_of_le HBS.out HWW.out.size)))))).mono ?_
     rintro e w3 ⟨rfl,⟨D4,hown3,hH3⟩,hg3⟩
     refine ⟨_,rfl,?_⟩
     refine hK.out _ _ ?_
     clear hK K
     refine norm_ (a':=?_) ?_ ?_
     rotate_left
     ·show Act.put _ (some 91) _=_
      simp only [Act.put,zp1,zp2,zp3,i64_w,i32_w]
      rfl
     refine done_ (by kernel_rfl) ?_
     have HO4:=Aside0.mk hown3
     have HH4:=Aside0.mk hH3
     have HG4:=Aside0.mk hg3
     clear hown3 hH3 hg3 hrj
     go_wp2
     go_roundw
     case rel =>
      have h1:=HO4.out
      have h2:=HH4.out
      have h3:(L ++ [(⟨rp ++ rq,wp * wq⟩:S31)]).length=L.length + 1:=by rw [List.length_append];rfl
      rw [← h3,← HLN.out] at h1
      rw [← HLN.out] at h2
      exact ⟨kj + 1,_,HLJ.out,by rw [HWJ.out],h1,h2,(grown_below (grown_below HG3.out HWW.out) HBJ.out).trans HG4.out⟩
     case measure=>have:=HLJ.out;rw [HWJ.out];simp only [intOf];omega
  have f0:decide ((kq:Int) < (l1.length:Int))=true:=decide_eq_true (by omega)
  have f1:decide (kq < l1.length)=true:=decide_eq_true (by omega)
  have hF1r:=Kd.F_below HF1.out HNX.out
  obtain ⟨ad,B,cq,rfl,hfk,hca,hcb,hlc,hFr⟩:=item_at hF1r kq hlt
  have hwid:0≤y∧y < (l1[kq].f0.length:Int):=by
   have h1:=List.all_eq_true.1 HWY.out l1[kq] (List.getElem_mem hlt)
   rw [Bool.and_eq_true,decide_eq_true_eq,decide_eq_true_eq] at h1
   exact h1
  have htk:l1.take (kq + 1)=l1.take kq ++ [l1[kq]]:=List.take_succ_eq_append_getElem hlt
  obtain ⟨q,hq⟩ : ∃ q,q=l1[kq]:=⟨_,rfl⟩
  rw [← hq] at hfk hca hcb hlc hFr hwid htk
  obtain ⟨rq,hrq⟩ : ∃ r,r=q.f0:=⟨_,rfl⟩
  obtain ⟨wq,hwq⟩ : ∃ v,v=q.f1:=⟨_,rfl⟩
  rw [← hrq] at hfk hca hlc hFr hwid
  rw [← hwq] at hfk hcb
  obtain ⟨hy0,hy1⟩:=hwid
  obtain ⟨adq,rfl,hcc⟩:=Kd.at_int (Kd.F_now hFr) y hy0 hy1
  obtain ⟨cc,hccv⟩ : ∃ c,c=rd rq y:=⟨_,rfl⟩
  rw [← hccv] at hcc
  have HCELL:=Aside0.mk (show Hp.cellAt q y=cc by rw [hccv,hrq];rfl)
  have HCOK:=Aside0.mk (show (Lit.int .i64 cc).wf=true by
   have h1:=(HFI.out.2.2.2.1 l1[kq] (List.getElem_mem hlt)).2.1 cc (by
    rw [hccv,← hq,← hrq]
    show rq.getD y.toNat 0 ∈ rq
    have h2:y.toNat < rq.length:=by omega
    rw [List.getD_eq_getElem?_getD,List.getElem?_eq_getElem h2]
    exact List.getElem_mem h2)
   exact WalkArith.wf_i64 (okI_iff.1 h1))
  obtain ⟨rows,hrl,hrR,hrf⟩:=HBY.out.row cc
  have HTK:=Aside0.mk htk
  have HRL:=Aside0.mk hrl
  have HRF:=Aside0.mk hrf
  have HFK:=Aside0.mk hfk
  have HFR:=Aside0.mk hFr
  have HLT:=Aside0.mk hlt
  have HKC:=Aside0.mk (Go.Maps.keyOf_int_mk (P:=Tryd.prog) Tryd.underlying3 HCOK.out)
  have HW:=Aside0.mk (show wrap64 ((kq:Int) + 1)=((kq + 1:Nat):Int) by have:=HL1.out;unfold wrap64;omega)
  obtain ⟨vc,hvc⟩ : ∃ v,v=val cc:=⟨_,rfl⟩
  rw [← hvc] at hrR
  have HAT:=Aside0.mk (show D.atKey (.int .i64 cc) (.held (.slice none 0 0))=.held vc by rw [hvc];exact HBY.out.at_ cc)
  have HVC:=Aside0.mk hvc
  have HRR:=Aside0.mk hrR
  have HEQ:=Aside0.mk (And.intro hrq hwq)
  clear htk hrl hrf hfk hlc hFr hq hrq hwq hccv hkq hvc hrR hF1r
  have p0:=eq_true hy0
  have p1:=eq_true hy1
  have HY:=Aside0.mk (And.intro hy0 hy1)
  clear hy0 hy1
  have hadq:adq.block < bh:=by
   obtain ⟨ad',c',e,hcl,_,_,hok⟩:=Kd.F_get HFR.out (0:Int) y HY.out.1 HY.out.2
   injection e with e
   rw [e]
   exact hok (by decide)
  have HNB:=Aside0.mk (show some (⟨wr.heap.size,0,none⟩:Addr).block≠vc.ownBlock from fun e=>by have:=Kd.R_lt HRR.out _ e.symm;exact Nat.lt_irrefl _ this)
  have HNQ:=Aside0.mk (show some (adq.add y.toNat).block≠vc.ownBlock by rw [add_block];intro e;have h1:=Kd.R_base HRR.out _ e.symm;have h2:=HBH.out;omega)
  have HNN:=Aside0.mk (show kq < maxLen by have:=HL1.out;have:=HLT.out;unfold maxLen;omega)
  have HLL:=Aside0.mk (show (rows.length + 1) * 32≤140737488355328 by rw [HRL.out];have h1:=selC_len y cc (l1.take kq);have h2:=List.length_take_le kq l1;have h3:=HLT.out;have h4:=HL1.out;omega)
  have HWW:=Aside0.mk (below_drew (below_alloc (Below.refl wr.heap.size wr) (.cells #[.slice (some adq) rq.length cq,.int .i64 wq] 31)))
  have HBW:=Aside0.mk (below_step HNX.out HWW.out)
  have HOW:=Aside0.mk (HBY.out.own.kept (grown_of_below HWW.out none) (by simp))
  have HRW:=Aside0.mk (Kd.raw_any (Kd.R_below HRR.out HWW.out))
  have HSZ:=Aside0.mk HBW.out.size
  have HNM:=Aside0.mk (raw_not_map HOW.out HRW.out)
  have a0:(wr.alloc (.cells #[.slice (some adq) rq.length cq,.int .i64 wq] 31)).drew.cell? ⟨wr.heap.size,0,none⟩=some (.slice (some adq) rq.length cq):=by go_simp
  have a1:(wr.alloc (.cells #[.slice (some adq) rq.length cq,.int .i64 wq] 31)).drew.cell? ⟨wr.heap.size,1,none⟩=some (.int .i64 wq):=by go_simp
  have a2:=pw_cell_below HWW.out hcc
  have a3:=look_at HOW.out lawInt Tryd.underlying74 (zeroSl _) (fun v y h=>(slR_inv h).1) slR_zero HKC.out HAT.out
  have HS:=Aside0.mk (And.intro a0 (And.intro a1 a2))
  clear hadq
  go_wp2
  clear hca hcb hcc
  refine start_ (n:=17) (S:=fun w'=>w'.cell? ⟨wr.heap.size,0,none⟩=some (.slice (some adq) rq.length cq)∧w'.cell? ⟨wr.heap.size,1,none⟩=some (.int .i64 wq)∧w'.cell? (adq.add y.toNat)=some (.int .i64 cc)∧(Instr.lookup 74 (.map (some w2.heap.size)) (.int .i64 cc) false).run Tryd.prog w'=.ok vc w') (ds:=[16]) (zm 17 0) (by kernel_rfl) rfl rfl ⟨a0,a1,a2,a3⟩ (fun hHeld=>?_)
  clear a0 a1 a2 a3
  generalize (wr.alloc (.cells #[.slice (some adq) rq.length cq,.int .i64 wq] 31)).drew=W at HWW HBW HOW HRW HSZ HS HNM hHeld ⊢
  refine zpk 0 45 17 1 ?_
  refine zpk 1 46 17 3 ?_
  refine zpk 3 48 17 11 ?_
  refine zpk 6 51 17 75 ?_
  refine zpk 7 52 17 203 ?_
  refine zpk 9 54 17 715 ?_
  refine ztk 2 47 17 719 ?_
  refine zpk 4 49 17 735 ?_
  refine ztk 5 50 17 767 ?_
  refine ztk 8 53 17 1023 ?_
  refine zpk 10 55 17 2047 ?_
  refine ztk 11 56 17 4095 ?_
  refine ztk 12 57 17 8191 ?_
  refine ztk 13 58 17 16383 ?_
  refine one_ (i:=14) (N:=some 59) (zm 17 32767) rfl rfl (by kernel_rfl) (by decide) (fun K hK=>?_)
  refine value_ (w1:=?_) (v:=?_) (by rfl) rfl ?_ ?_
  rotate_left 2
  ·go_simp
   constructor
   ·rfl
   rfl
  refine hK.out _ _ ⟨(pw_cell_below (below_alloc (Below.refl W.heap.size W) _) hHeld.1),(pw_cell_below (below_alloc (Below.refl W.heap.size W) _) hHeld.2.1),(pw_cell_below (below_alloc (Below.refl W.heap.size W) _) hHeld.2.2.1),(look_at (HOW.out.alloc _) lawInt Tryd.underlying74 (zeroSl _) (fun v y h=>(slR_inv h).1) slR_zero HKC.out HAT.out)⟩ (fun hHeld=>?_)
  clear hK K
  refine norm_ (a':=?_) ?_ ?_
  rotate_left
  ·show Act.put _ (some 59) _=_
   simp only [Act.put,zp1,zp2,zp3,i64_w,i32_w]
   rfl
  refine one_ (i:=15) (N:=some 60) (zm 17 65535) rfl rfl (by kernel_rfl) (by decide) (fun K hK=>?_)
  refine Kd.R_append_step (Kd.raw 2) (w0:=w) w.heap.size (by rfl) (.tmp 57) (.tmp 59) 23 31 (.agg #[(.slice none 0 0),(.int .i64 0)]) 32 rfl Tryd.underlying23 info31 rfl (by decide) (by omega) vc rows [.slice (some adq) rq.length cq,.int .i64 wq] [.slice (some adq) rq.length cq,.int .i64 wq] (fun _=>True) (fun _=>False) rfl rfl ⟨rfl,rfl,cs2_ _ _⟩ (fun _ hk=>hk.elim) (fun _ _=>trivial) HRW.out HBW.out HSZ.out HLL.out ?_
  intro v1 w1_ hr1 hb1 hg1 hat1
  refine hK.out _ _ ⟨(cell_on hg1 HS.out.1 HNB.out),(cell_on hg1 HS.out.2.1 HNB.out),(cell_on hg1 HS.out.2.2 HNQ.out),(look_at (HOW.out.kept hg1 HNM.out) lawInt Tryd.underlying74 (zeroSl _) (fun v y h=>(slR_inv h).1) slR_zero HKC.out HAT.out)⟩ (fun hHeld=>?_)
  clear hK K
  refine norm_ (a':=?_) ?_ ?_
  rotate_left
  ·show Act.put _ (some 60) _=_
   simp only [Act.put,zp1,zp2,zp3,i64_w,i32_w]
   rfl
  refine last_ (i:=16) (N:=none) (zm 17 131071) rfl rfl (by kernel_rfl) (by decide) (fun K hK=>?_)
  obtain ⟨Av,nv,cv,rfl⟩:=raw_slice hr1
  refine upd_step (by rfl) (.tmp 45) (.tmp 50) (.tmp 60) 74 rfl rfl 3 23 lawInt Tryd.underlying74 slR w2.heap.size kq D rfl (HOW.out.kept hg1 HNM.out) HNN.out _ _ _ rfl rfl HKC.out (.held (.slice Av nv cv)) [] rfl ?_
  intro w3 hown3 hg3
  refine hK.out _ _ ?_
  clear hK K
  refine done_ (by kernel_rfl) ?_
  have HR1:=Aside0.mk hr1
  have HB1:=Aside0.mk hb1
  have HG1:=Aside0.mk hg1
  have HA1:=Aside0.mk hat1
  have HO3:=Aside0.mk hown3
  have HG3:=Aside0.mk hg3
  clear hr1 hb1 hg1 hat1 hown3 hg3
  go_wp2
  go_roundw
  case rel =>
   obtain rfl:=HVC.out
   have hst:=HBY.out.step HWW.out (Nat.le_of_lt HBH.out) HB2.out.size HCELL.out HRL.out HRR.out HRF.out HFK.out HR1.out HG1.out HA1.out HO3.out HG3.out
   rw [← HTK.out] at hst
   exact ⟨kq + 1,_,_,HLT.out,by rw [HW.out],hst,HB1.out.grown HG3.out HB1.out.size (fun j hj=>by injection hj with hj;rw [← hj];exact HB2.out.size)⟩
  case measure=>have:=HLT.out;rw [HW.out];simp only [intOf];omega
set_option maxHeartbeats 1000000 in
theorem cmpIt_calls (kk:Nat) (A:Option Addr) (c:Nat) (r:List Int) (x:Int) (A':Option Addr) (c':Nat) (r':List Int) (x' v:Int) (W:World) (hr:Kd.C (Kd.int .i64) W A r.length r) (hc:r.length≤c) (hr':Kd.C (Kd.int .i64) W A' r'.length r') (hc':r'.length≤c') (h:slices_Compare_int_int.f kk r r'=some v) :
  Calls Tryd.prog 54 #[.agg #[.slice A r.length c,.int .i64 x],.agg #[.slice A' r'.length c',.int .i64 x']] W fun e w'=>e=.returned (.int .i64 v)∧∃ q os',w'=Go.Sort.grow (W.drewN q) os':=by
 have hcmp:=slices_Compare_int_int.calls kk A c r A' c' r' v ((W.alloc (.cells #[.slice A r.length c,.int .i64 x] 31)).alloc (.cells #[.slice A' r'.length c',.int .i64 x'] 31)) (Kd.C_alloc (Kd.C_alloc hr _) _) hc (Kd.C_alloc (Kd.C_alloc hr' _) _) hc' h
 clear hr hr' h hc hc'
 go_enter Tryd.func54,Tryd.ntmps54
 go_wp2_with (go_at_call 44;refine hcmp.mono ?_;rintro e w1 ⟨rfl,hd⟩;refine Hid.out ?_)
 refine Lib.hid ?_
 obtain ⟨q,rfl⟩:=hd.out
 clear hcmp
 go_wp2
 go_ret
 exact ⟨rfl,q,_,by rw [Go.Sort.alloc_eq_grow,Go.Sort.alloc_eq_grow,Go.Sort.grow_grow];rfl⟩
/-- an item of a heap as the sort meets it: where its row lies, and what it is -/
def SIt (L:List (S31)) (W:World) (S0:Nat→Prop):Type:={ t:Option Addr × Nat × List Int × Int // Hp.isIn t.2.2.1 L∧t.2.2.1.length≤t.2.1∧Kd.F (Kd.int .i64) W S0 t.1 t.2.2.1.length t.2.2.1 }
def SIt.enc {L:List (S31)} {W:World} {S0:Nat→Prop} (t:SIt L W S0):List Value:=[.slice t.1.1 t.1.2.2.1.length t.1.2.1,.int .i64 t.1.2.2.2]
def SIt.it {L:List (S31)} {W:World} {S0:Nat→Prop} (t:SIt L W S0):S31:=⟨t.1.2.2.1,t.1.2.2.2⟩
def SIt.cf {L:List (S31)} {W:World} {S0:Nat→Prop} (s t:SIt L W S0):Int:=Hp.lexc s.1.2.2.1 t.1.2.2.1
theorem SIt.swo (L:List (S31)) (W:World) (S0:Nat→Prop):Go.Sort.SWO (ltOf (SIt.cf (L:=L) (W:=W) (S0:=S0))) where
 irrefl x:=by unfold ltOf SIt.cf;rw [Hp.lexc_irr];rfl
 trans x y z h1 h2:=by
  unfold ltOf SIt.cf at *
  rw [decide_eq_true_eq] at *
  exact Hp.lexc_trans _ _ _ h1 h2
 ntrans x y z h1 h2:=by
  unfold ltOf SIt.cf at *
  rw [decide_eq_false_iff_not] at *
  intro h3
  by_cases e1:x.1.2.2.1=y.1.2.2.1
  ·rw [e1] at h3;exact h2 h3
  ·have g1:=Hp.lexc_gt h1 e1
   have g2:=Hp.lexc_trans _ _ _ g1 h3
   exact h2 g2
theorem sortK_block {α:Type} [Inhabited α] (enc:α→List Value) (k:Nat) (w:World) (blk off m:Nat) (dk:Array α) (os:Array Obj) {b:Nat} (hb:b < w.heap.size) (hne:b≠blk):(sortWorldK enc k w blk off m dk os).heap[b]?=w.heap[b]?:=by
 unfold sortWorldK
 rw [Go.Sort.heap_grow_old _ _ (by simpa [Go.Sort.putRowK,Go.Sort.putRow,Go.Sort.mapBlock,Go.Sort.ahead] using hb)]
 simp [Go.Sort.putRowK,Go.Sort.putRow,Go.Sort.mapBlock,Go.Sort.ahead,Array.getElem?_modify,Ne.symm hne]
theorem sortK_grown {α:Type} [Inhabited α] (enc:α→List Value) (k:Nat) (w:World) (blk off m:Nat) (dk:Array α) (os:Array Obj):w.grownBy (sortWorldK enc k w blk off m dk os) (some blk) :=
 ⟨rfl,rfl,rfl,size_sortWorldK_c enc k w blk off m dk os,fun b hb hne=>sortK_block enc k w blk off m dk os hb (fun e=>hne (by rw [e]))⟩
theorem SIt.lays (kk:Nat) {L:List (S31)} (hcm : ∀ r s,Hp.isIn r L→Hp.isIn s L→slices_Compare_int_int.f kk r s=some (Hp.lexc r s)) (w:World) (g n:Nat) [Inhabited (SIt L w (fun k=>k≠g))]:CmpLays Tryd.prog 54 #[] (SIt.enc (L:=L) (W:=w) (S0:=fun k=>k≠g)) 2 SIt.cf g 0 n w:=by
 intro m os dk _ s t
 have mv : ∀ u:SIt L w (fun k=>k≠g),Kd.C (Kd.int .i64) (sortWorldK (SIt.enc (L:=L) (W:=w) (S0:=fun k=>k≠g)) 2 w g 0 m dk os) u.1.1 u.1.2.2.1.length u.1.2.2.1:=fun u=>Kd.F_now (Kd.F_step u.2.2.2 (fun k hk hlt=>sortK_block _ _ _ _ _ _ _ _ hlt hk))
 exact cmpIt_calls kk _ _ _ _ _ _ _ _ _ _ (mv s) s.2.2.1 (mv t) t.2.2.1 (hcm _ _ s.2.1 t.2.1)
theorem SIt.all {L:List (S31)} {w:World} {S0:Nat→Prop} : ∀ (ys:List (S31)) (rows:List (List Value)),rows.length=ys.length→(∀ (j:Nat) (x:S31) (c:List Value),ys[j]?=some x→rows[j]?=some c→Kd.FK k31 w S0 x c)→(∀ y ∈ ys,Hp.isIn y.f0 L) →
  ∃ ts:List (SIt L w S0),ts.map SIt.it=ys∧ts.map SIt.enc=rows:=by
 intro ys
 induction ys with
 | nil =>
  intro rows hl _ _
  obtain rfl:=List.length_eq_zero_iff.1 hl
  exact ⟨[],rfl,rfl⟩
 | cons y ys ih =>
  intro rows hl hf hi
  cases rows with
  | nil=>simp at hl
  | cons c rows =>
   obtain ⟨ts,h1,h2⟩:=ih rows (by simpa using hl) (fun j x c' hx hc=>hf (j + 1) x c' (by simpa using hx) (by simpa using hc)) (fun z hz=>hi z (List.mem_cons_of_mem _ hz))
   obtain ⟨A,cA,rfl,hlc,hF⟩:=k31_openF (hf 0 y c rfl rfl)
   have t0 : { t:SIt L w S0 // t.it=y∧t.enc = [.slice A y.f0.length cA,.int .i64 y.f1] }:=⟨⟨(A,cA,y.f0,y.f1),hi y List.mem_cons_self,hlc,hF⟩,rfl,rfl⟩
   obtain ⟨t0,e1,e2⟩:=t0
   exact ⟨t0 :: ts,by rw [List.map_cons,h1,e1],by rw [List.map_cons,h2,e2]⟩
theorem holds_flat {α:Type} [Inhabited α] (enc:α→List Value) (hk : ∀ x,(enc x).length=2) {w:World} {g e cap n:Nat} {cur:Array Value} {inner:List Value} (ts:List α) (hb:w.heap[g]?=some (.cells cur e (0,0))) (ht:cur.toList.take (n * 2)=inner) (hn:ts.length=n) (hrep : ∀ (j:Nat) (t:α),ts[j]?=some t→(inner.drop (j * 2)).take 2=enc t) (_hc:cur.size=cap * 2) (_hcap:n≤cap):Go.Sort.HoldsK enc 2 w g 0 ts.toArray:=by
 intro j hj
 have hj2:j < n * 2:=by rw [Go.Sort.size_flatK] at hj;simpa [hn] using hj
 refine ⟨?_,by simp [World.frozen?,hb]⟩
 have hq:j / 2 < ts.length:=by omega
 have h1:=hrep (j / 2) _ (List.getElem?_eq_getElem hq)
 have h2:cur.toList[j]?=some ((enc ts[j / 2])[j % 2]!):=by
  have h3:((inner.drop (j / 2 * 2)).take 2)[j % 2]?=(enc ts[j / 2])[j % 2]?:=by rw [h1]
  rw [List.getElem?_take_of_lt (by omega),List.getElem?_drop,← ht,List.getElem?_take_of_lt (by omega),show j / 2 * 2 + j % 2=j by omega] at h3
  rw [h3,List.getElem?_eq_getElem (by rw [hk];omega),getElem!_pos _ _ (by rw [hk];omega)]
 simp only [World.cell?,hb,Nat.zero_add]
 simp only [Option.isSome_none,Bool.false_eq_true,if_false]
 rw [← Array.getElem?_toList,h2,Go.Sort.get_flatK _ _ _ _ (by simpa [hn] using hj2)]
 rw [getElem!_pos ts.toArray (j / 2) (by simpa using hq)]
 rfl
set_option maxHeartbeats 1000000 in
theorem sort_calls (kk:Nat) {L:List (S31)} (hcm : ∀ r s,Hp.isIn r L→Hp.isIn s L→slices_Compare_int_int.f kk r s=some (Hp.lexc r s)) (ys:List (S31)) (g cap base:Nat) (ok:Nat→Prop) (w:World) (hN:Kd.N k31 31 w base ok (.slice (some ⟨g,0,none⟩) ys.length cap) ys) (hin : ∀ y ∈ ys,Hp.isIn y.f0 L) (hp:0 < ys.length) (hsz:ys.length≤1048576) :
  Calls Tryd.prog 53 #[.slice (some ⟨g,0,none⟩) ys.length cap,.func (.func 54) #[] #[]] w fun e w'=>e=.returned (.tuple #[])∧∃ zs:List (S31),zs.Perm ys∧zs.Pairwise (fun a b=>¬ Hp.lexc b.f0 a.f0 < 0)∧Kd.C k31 w' (some ⟨g,0,none⟩) ys.length zs∧w.grownBy w' (some g):=by
 obtain ⟨h0,rows,hl,hR,hf⟩:=hN
 have hown:(Value.slice (some ⟨g,0,none⟩) ys.length cap).ownBlock=some g:=rfl
 obtain ⟨ts,h1,h2⟩:=SIt.all (L:=L) (w:=w) (S0:=fun k=>k≠g) ys rows hl (fun j x c hx hc=>Kd.FK_mono (hf j x c hx hc) (fun k hk e=>hk.2 (by rw [e,hown]))) hin
 have htl:ts.length=ys.length:=by rw [← h1,List.length_map]
 obtain ⟨inner,ho,hrep⟩:=hR.2
 rw [hl] at ho
 obtain ⟨hil,ho⟩:=ho
 rcases ho with ⟨he,_⟩|⟨g',cap',cur,he,hb,hh,hnc,hcm',hcs,htk⟩
 ·cases he
 injection he with he _ he2
 injection he with he
 injection he with he
 subst he he2
 obtain ⟨t0,hts⟩ : ∃ t,t ∈ ts:=List.exists_mem_of_length_pos (by omega)
 haveI:Inhabited (SIt L w (fun k=>k≠g)):=⟨t0⟩
 have hH:Go.Sort.HoldsK (SIt.enc (L:=L) (W:=w) (S0:=fun k=>k≠g)) 2 w g 0 ts.toArray:=holds_flat SIt.enc (fun _=>rfl) ts hh htk htl (fun j t hj=>by
  have h3:rows[j]?=some t.enc:=by rw [← h2,List.getElem?_map,hj];rfl
  exact (hrep.2 j _ h3).1) hcs hnc
 have hblk:g < w.heap.size:=(Array.getElem?_eq_some_iff.1 hh).1
 have hc:=AnyQ.slices_SortFunc Tryd.sortIt 2 Tryd.isAgg31 Tryd.sizeOf31 (SIt.enc (L:=L) (W:=w) (S0:=fun k=>k≠g)) (fun _=>rfl) (fun x=>cs2_ _ _) SIt.cf (SIt.swo L w _) 54 #[] g 0 cap ts.toArray w (enters_of Tryd.func54 (by kernel_rfl) rfl) (SIt.lays kk hcm w g _) hH hblk (by simp;omega)
 have e0:ts.toArray.size=ys.length:=by simp [htl]
 rw [e0] at hc
 change Calls Tryd.prog 53 _ _ _ at hc
 refine hc.mono ?_
 rintro e w' ⟨rfl,d',m,os,hp',hs',rfl⟩
 obtain ⟨hd1,_,hd2⟩:=hp'
 have hdn:d'.size=ys.length:=by rw [hd1,e0]
 have hperm:d'.toList.Perm ts:=by
  have e1:d'.extract 0 ys.length=d':=by rw [← hdn];simp
  have e2:ts.toArray.extract 0 ys.length=ts.toArray:=by rw [← e0];simp
  rw [e1,e2] at hd2
  simpa using hd2
 have hg:=sortK_grown (SIt.enc (L:=L) (W:=w) (S0:=fun k=>k≠g)) 2 w g 0 m d' os
 have hH':=holdsK_sortWorldK_c (SIt.enc (L:=L) (W:=w) (S0:=fun k=>k≠g)) 2 w g 0 ts.toArray d' m os hH hblk hd1
 refine ⟨rfl,d'.toList.map SIt.it,?_,?_,?_,hg⟩
 ·rw [← h1];exact hperm.map _
 ·rw [List.pairwise_map,List.pairwise_iff_getElem]
  intro i j hi hj hij
  have h3:=hs' i j (Nat.zero_le _) hij (by rw [← hdn];simpa using hj)
  have hi':i < d'.size:=by simpa using hi
  have hj':j < d'.size:=by simpa using hj
  rw [getElem!_pos d' i hi',getElem!_pos d' j hj'] at h3
  unfold ltOf at h3
  exact of_decide_eq_false h3
 refine ⟨by simp [hdn],by omega,fun _=>⟨_,rfl,fun j p hj=>?_⟩⟩
 rw [List.getElem?_map] at hj
 obtain ⟨t,ht,rfl⟩:=Option.map_eq_some_iff.1 hj
 have hjd:j < d'.size:=by have:=(List.getElem?_eq_some_iff.1 ht).1;simpa using this
 have hte:(d'[j]!)=t:=by
  rw [getElem!_pos d' j hjd]
  have:=(List.getElem?_eq_some_iff.1 ht).2
  simpa using this
 refine ⟨t.enc,rfl,k31_mk _ t.it t.2.2.1 (Kd.F_now (Kd.F_step t.2.2.2 (fun k hk hlt=>sortK_block _ _ _ _ _ _ _ _ hlt hk))),fun i u hu=>?_⟩
 have hi2:i < 2:=(List.getElem?_eq_some_iff.1 hu).1
 have h3:=(hH' (j * 2 + i) (by rw [Go.Sort.size_flatK];omega)).1
 rw [Go.Sort.get_flatK _ _ _ _ (by omega),show (j * 2 + i) / 2=j by omega,show (j * 2 + i) % 2=i by omega,hte] at h3
 have hel:((t.enc)[i]!)=u:=by
  obtain ⟨hi3,hu3⟩:=List.getElem?_eq_some_iff.1 hu
  rw [getElem!_pos t.enc i hi3]
  exact hu3
 rw [hel] at h3
 have hk2:k31.sz=2:=rfl
 rw [hk2]
 have ha:(⟨g,0,none⟩:Addr).add (j * 2 + i)=⟨g,0 + (j * 2 + i),none⟩:=by
  by_cases hz:j * 2 + i=0
  ·rw [hz];rfl
  unfold Addr.add;rw [if_neg hz]
 rw [ha]
 exact h3
theorem keyStr_inv {P:Program} {k:TypeId} (hk:P.underlying k=some .string) (key:Value) (kl:Lit) (h:keyOf P k key=some kl) : ∃ x:ByteArray,key=.string x:=by
 cases key <;> simp [keyOf,hk,mapKey] at h
 exact ⟨_,rfl⟩
/-- what the heap's range hands out: the rows so far whose sums are not 0 -/
def outOf (L:List (S31)) (ds:List (List Int)):List (S31):=(ds.filter fun s=>decide (Hp.sumW s L≠0)).map fun s=>⟨s,Hp.sumW s L⟩
theorem outOf_mem {L:List (S31)} {ds:List (List Int)} {r:List Int} {v:Int}:(⟨r,v⟩:S31) ∈ outOf L ds ↔ r ∈ ds∧v=Hp.sumW r L∧v≠0:=by
 unfold outOf
 rw [List.mem_map]
 constructor
 ·rintro ⟨s,hs,e⟩
  injection e with e1 e2
  subst e1 e2
  have:=List.mem_filter.1 hs
  exact ⟨this.1,rfl,of_decide_eq_true this.2⟩
 ·rintro ⟨h1,h2,h3⟩
  exact ⟨r,List.mem_filter.2 ⟨h1,decide_eq_true (h2 ▸ h3)⟩,by rw [h2]⟩
theorem outOf_snoc (L:List (S31)) (ds:List (List Int)) (r:List Int):outOf L (ds ++ [r])=outOf L ds ++ if Hp.sumW r L=0 then [] else [⟨r,Hp.sumW r L⟩]:=by
 unfold outOf
 rw [List.filter_append,List.map_append]
 congr 1
 by_cases h:Hp.sumW r L=0
 ·rw [if_pos h,List.filter_cons,if_neg (by simpa using h)];rfl
 ·rw [if_neg h,List.filter_cons,if_pos (by simpa using h)];rfl
theorem outOf_len (L:List (S31)) (ds:List (List Int)):(outOf L ds).length≤ds.length:=by
 unfold outOf
 rw [List.length_map]
 exact List.length_filter_le _ _
theorem outOf_rows {L:List (S31)} {ds:List (List Int)} (h:ds.Nodup):(outOf L ds).Pairwise (fun x y=>x.f0≠y.f0):=by
 unfold outOf
 rw [List.pairwise_map]
 exact (List.Pairwise.filter _ h)
theorem below_of_none {w w':World} (h:w.grownBy w' none):Below w.heap.size w w':=⟨h.os,h.tape,h.output,h.size,fun k hk=>h.block k hk (by simp)⟩
theorem sorted_out {L zs:List (S31)} {ds:List (List Int)} (hnd:ds.Nodup) (hds : ∀ s,s ∈ ds ↔ Hp.isIn s L) (hp:zs.Perm (outOf L ds)) (hs:zs.Pairwise (fun a b=>¬ Hp.lexc b.f0 a.f0 < 0)):zs=Hp.addL [] L:=by
 refine Hp.sorted_is hs ((List.Perm.pairwise_iff (fun {x y} (h:x.f0≠y.f0)=>h.symm) hp).2 (outOf_rows hnd)) (fun r v=>?_)
 rw [hp.mem_iff,outOf_mem,hds]
set_option maxHeartbeats 4000000 in
set_option maxRecDepth 100000 in
theorem items_calls (kk bh n:Nat) (L:List (S31)) (D:DataW Value) (w:World) (hn:n≤1048575) (hown:w.ownsMap Tryd.prog 9 itR bh n D) (hH:HeapOf (Kd.FK k31 w (fun k=>bh < k)) L D) (hcm : ∀ r s,Hp.isIn r L→Hp.isIn s L→slices_Compare_int_int.f kk r s=some (Hp.lexc r s)) (hinj : ∀ r s,Hp.isIn r L→Hp.isIn s L→rowB r=rowB s→r=s) :
  Calls Tryd.prog 27 #[.map (some bh)] w fun e w'=>(∃ (A:Option Addr) (c:Nat),e=.returned (.slice A (Hp.addL [] L).length c)∧(Hp.addL [] L).length≤c∧Kd.C k31 w' A (Hp.addL [] L).length (Hp.addL [] L))∧Below w.heap.size w w':=by
 have hbh:=hown.lt
 have HN:=Aside0.mk hn
 have HO:=Aside0.mk hown
 have HH:=Aside0.mk hH
 have HC:=Aside0.mk hcm
 have HI:=Aside0.mk hinj
 have HBH:=Aside0.mk hbh
 clear hn hown hH hcm hinj hbh
 go_enter Tryd.func27,Tryd.ntmps27
 go_wp2_with (at_range;refine wpList_range_own _ rfl _ 49 rfl 9 31 lawStr Tryd.underlying49 itR bh n D rfl HO.out ?_;intro w0 hrg0 hg0 hs0)
 go_frame
 go_loopw [3] (fun v wr=>∃ (left:Lit→Bool) (cnt:Nat) (ys:List (S31)) (ds:List (List Int)),wr.ranges Tryd.prog 9 itR bh w.heap.size n D left cnt∧Kd.N k31 31 wr w.heap.size (fun k=>k≠w.heap.size) v ys∧ds.Nodup∧(∀ s,s ∈ ds ↔ (Hp.isIn s L∧left (.string (rowB s))=false))∧ys=outOf L ds∧ds.length + cnt≤n∧Below w.heap.size w wr∧w.heap.size < wr.heap.size)
  (fun _ wr=>wr.rangeLeft bh w.heap.size)
 case atStart =>
  refine ⟨_,_,[],[],hrg0,Kd.N_nil _ _ _ _ _,List.nodup_nil,fun s=>⟨fun h=>(by cases h),fun h=>?_⟩,rfl,by simpa using HO.out.size_le,below_of_none hg0,by omega⟩
  rw [HH.out.there s h.1] at h
  exact absurd h.2 (by decide)
 case round =>
  obtain ⟨left,cnt,ys,ds,hrg,hN,hnd,hds,hys,hcl,hnx,hsz⟩:=hrel
  have HNX:=Aside0.mk hnx
  have HNV:=Aside0.mk hN
  have HND:=Aside0.mk hnd
  have HDS:=Aside0.mk hds
  have HYS:=Aside0.mk hys
  have HCL:=Aside0.mk hcl
  have HSZ:=Aside0.mk hsz
  have HRG:=Aside0.mk hrg
  clear hN hnd hds hys hcl hnx hsz hrg
  go_wp2_with (at_next;refine wpList_next_ranges _ rfl _ rfl 9 lawStr itR Value.string (fun c:Option Addr × Nat × Nat × Int=>.agg #[.slice c.1 c.2.1 c.2.2.1,.int .i64 c.2.2.2]) (keyStr_inv Tryd.underlying9) (fun v y h=>by obtain ⟨_,A,m,c,x,e⟩:=itR_inv h;exact ⟨(A,m,c,x),e⟩) bh w.heap.size n _ _ _ rfl HRG.out ?_ ?_)
  ·intro hc0 hl0
   have HDE:=Aside0.mk (show ∀ s,s ∈ ds ↔ Hp.isIn s L from fun s=>by rw [HDS.out];exact ⟨fun h=>h.1,fun h=>⟨h,hl0 _⟩⟩)
   have HYL:=Aside0.mk (show ys.length≤1048576 by rw [HYS.out];have h1:=outOf_len L ds;have h2:=HCL.out;have h3:=HN.out;omega)
   obtain ⟨Av,cv,rfl⟩:=Kd.N_slice HNV.out
   clear hc0 hl0 HDS
   by_cases hy:ys.length=0
   ·have hsf:=AnyF.slices_SortFunc_none Tryd.sortIt Av cv (.func (.func 54) #[] #[]) wr
    change Calls Tryd.prog 53 _ _ _ at hsf
    rw [← hy] at hsf
    have HY:=Aside0.mk hy
    have HSF:=Aside0.mk hsf
    clear hy hsf
    go_wp2_with (go_at_call 53;refine HSF.out.mono ?_;rintro e w1 ⟨rfl,rfl⟩)
    go_ret
    have e1:ys=Hp.addL [] L:=sorted_out HND.out HDE.out (by rw [HYS.out]) (by rw [List.length_eq_zero_iff.1 HY.out];exact .nil)
    rw [← e1]
    have h1:=Kd.N_reads' HNV.out
    exact ⟨⟨Av,cv,rfl,h1.2.1,h1.2.2⟩,HNX.out⟩
   obtain ⟨g,cap,hv,hbg,_,_⟩:=Kd.N_form HNV.out (by omega)
   injection hv with hv1 _ hv2
   subst hv1 hv2
   have hsf:=sort_calls kk (L:=L) HC.out ys g cv w.heap.size _ wr HNV.out (fun y hy=>by
    rw [HYS.out] at hy
    exact (HDE.out _).1 ((outOf_mem (r:=y.f0) (v:=y.f1)).1 (by cases y;exact hy)).1) (by omega) HYL.out
   have HSF:=Aside0.mk hsf
   have HCP:=Aside0.mk (Kd.N_reads' HNV.out).2.1
   have HBG:=Aside0.mk hbg
   clear hy hsf hbg
   go_wp2_with (go_at_call 53;refine HSF.out.mono ?_;rintro e w1 ⟨rfl,zs,hp,hs,hC,hg⟩)
   have HP:=Aside0.mk hp
   have HS:=Aside0.mk hs
   have HCC:=Aside0.mk hC
   have HG:=Aside0.mk hg
   clear hp hs hC hg
   go_ret
   have e1:zs=Hp.addL [] L:=sorted_out HND.out HDE.out (by rw [← HYS.out];exact HP.out) (HS.out.imp (fun {a b} h=>by omega))
   have e2:ys.length=(Hp.addL [] L).length:=by rw [← e1];exact HP.out.length_eq.symm
   have h1:=HCC.out
   have h2:=HCP.out
   rw [e1,e2] at h1
   rw [e2] at h2
   refine ⟨⟨some ⟨g,0,none⟩,cv,by rw [← e2];rfl,h2,h1⟩,HNX.out.grown HG.out HNX.out.size (fun j hj=>?_)⟩
   injection hj with hj
   rw [← hj]
   exact HBG.out
  intro x A m cc s kl y1 y2 w1 cnt1 hkey hlk hRv hat hrg1 hlt hg1 hs1 hen
  obtain ⟨hy,_⟩:=itR_inv hRv
  injection hy with hy _
  have hthere:Go.Maps.has D kl=true:=Go.Maps.has_true_of_atKey hat
  obtain ⟨r,hr,hkl⟩:=HH.out.only kl hthere
  obtain ⟨cs,hfk,hatr⟩:=HH.out.at_ r hr
  have hval:Value.agg #[.slice A m cc,.int .i64 s]=Value.agg cs.toArray:=by
   have h1:=hat (.nil)
   rw [hkl,hatr,hy] at h1
   injection h1 with h1
   exact h1.symm
  obtain ⟨A0,c0,rfl,hlc,hF⟩:=k31_openF hfk
  injection hval with hval
  have hval2:=congrArg Array.toList hval
  simp only [List.cons.injEq,Value.slice.injEq,Value.int.injEq,true_and,and_true] at hval2
  obtain ⟨⟨rfl,rfl,rfl⟩,hs⟩:=hval2
  have HSS:=Aside0.mk (show Hp.sumW r L=s from hs.symm)
  have HR:=Aside0.mk hr
  have HKL:=Aside0.mk hkl
  have HLK:=Aside0.mk hlk
  have HRG1:=Aside0.mk hrg1
  have HLT:=Aside0.mk hlt
  have HG1:=Aside0.mk hg1
  have HS1:=Aside0.mk hs1
  have HLC:=Aside0.mk hlc
  have HFR:=Aside0.mk (show Kd.F (Kd.int .i64) w (fun k=>k < w.heap.size) A r.length r from Kd.F_mono (Kd.F_bound hF) (fun k hk=>hk.2))
  have HND1:=Aside0.mk (show (ds ++ [r]).Nodup by
   rw [List.nodup_append]
   refine ⟨HND.out,by simp,fun a ha b hb e=>?_⟩
   rw [List.mem_singleton.1 hb] at e
   subst e
   have h1:=(HDS.out a).1 ha
   rw [← hkl,hlk] at h1
   exact absurd h1.2 (by decide))
  have HDS1:=Aside0.mk (show ∀ t,t ∈ ds ++ [r] ↔ (Hp.isIn t L∧(left (.string (rowB t)) && !(Lit.string (rowB t)).sameKey kl)=false) by
   intro t
   rw [List.mem_append,HDS.out,List.mem_singleton]
   by_cases e:t=r
   ·subst e
    rw [hkl,WideAt.sameKey_self (show WideAt.IsKeyLit (.string (rowB t)) from trivial)]
    simp [hr]
   ·constructor
    ·rintro (h|h)
     ·exact ⟨h.1,by rw [h.2];rfl⟩
     ·exact absurd h e
    ·rintro ⟨h1,h2⟩
     refine .inl ⟨h1,?_⟩
     rw [hkl,Go.Maps.sameKey_ne (fun e2=>e (HI.out t r h1 hr (by injection e2)))] at h2
     simpa using h2)
  have HCL1:=Aside0.mk (show (ds ++ [r]).length + cnt1≤n by rw [List.length_append];have h1:=HCL.out;simp only [List.length_cons,List.length_nil];omega)
  have HB1:=Aside0.mk (HNX.out.grown hg1 HNX.out.size (fun j hj=>by injection hj with hj;omega))
  have HN1:=Aside0.mk (Kd.N_grown HNV.out hg1 (fun k hk e=>by injection e with e;exact hk e))
  have HME:=Aside0.mk (show wr.rangeLeft bh w.heap.size=cnt from HRG.out.left_eq)
  clear hkey hlk hRv hat hrg1 hlt hg1 hs1 hy hthere hr hkl hfk hatr hval hlc hF hs
  by_cases hz:s=0
  ·have b0:(s == 0)=true:=by rw [beq_iff_eq];exact hz
   have b1:(s != 0)=false:=by rw [bne,b0];rfl
   have HZ:=Aside0.mk hz
   clear hz
   go_wp2
   go_roundw
   case rel =>
    refine ⟨_,cnt1,ys,ds ++ [r],HRG1.out.alloc _,Kd.N_alloc HN1.out _,HND1.out,HDS1.out,?_,HCL1.out,below_alloc HB1.out _,by have h1:=HSZ.out;have h2:=HS1.out;simp;omega⟩
    rw [outOf_snoc,if_pos (HSS.out.trans HZ.out),List.append_nil,HYS.out]
   case measure=>rw [(HRG1.out.alloc _).left_eq,HME.out];exact HLT.out
  have b0:(s == 0)=false:=by rw [beq_eq_false_iff_ne];exact hz
  have b1:(s != 0)=true:=by rw [bne,b0];rfl
  have HZ:=Aside0.mk hz
  clear hz
  have HLL:=Aside0.mk (show (ys.length + 1) * 32≤140737488355328 by rw [HYS.out];have h1:=outOf_len L ds;have h2:=HCL.out;have h3:=HN.out;omega)
  go_wp2_with (at_builtin;refine Kd.N_append k31 (w0:=w) w.heap.size rfl (.tmp 15) (.tmp 17) 23 31 (.agg #[(.slice none 0 0),(.int .i64 0)]) 32 rfl Tryd.underlying23 info31 rfl (by decide) (by omega) u3 ys (⟨r,s⟩:S31) [.slice A r.length cc,.int .i64 s] (fun k=>k≠w.heap.size) (fun k=>k < w.heap.size) rfl (by show Value.slice (some ⟨w1.heap.size + 1,0,none⟩) 1 1=_;simp) ?cf (fun k hk=>⟨Nat.ne_of_lt hk,fun e=>by have:=Kd.N_base HN1.out k e.symm;omega⟩) (fun k hk=>by have h1:=HSZ.out;have h2:=HS1.out;simp at hk;omega) (Kd.N_alloc HN1.out _) (below_alloc HB1.out _) (below_alloc HB1.out _).size HLL.out ?_;(case cf=>exact k31_mkF _ _ (⟨r,s⟩:S31) HLC.out (Kd.F_below HFR.out (below_alloc HB1.out _)));intro v1 w3 ho hb hg hat)
  have hk1:some bh≠u3.ownBlock:=fun e=>by have h1:=Kd.N_base HN1.out bh e.symm;have h2:=HBH.out;omega
  have hk2:some w.heap.size≠u3.ownBlock:=fun e=>HN1.out.1 _ e.symm rfl
  have hrg:=(HRG1.out.alloc (.cells #[.slice A r.length cc,.int .i64 s] 31)).kept hg hk1 hk2
  refine ⟨⟨_,cnt1,_,ds ++ [r],hrg,ho,HND1.out,HDS1.out,?_,HCL1.out,hb,?_⟩,?_⟩
  ·rw [outOf_snoc,if_neg (fun e=>HZ.out (HSS.out.symm.trans e)),HYS.out,HSS.out]
  ·have h1:=HSZ.out
   have h2:=HS1.out
   have h3:=hg.size
   simp at h3
   omega
  rw [hrg.left_eq,HME.out]
  exact HLT.out
set_option maxHeartbeats 2000000 in
set_option maxRecDepth 100000 in
theorem joinInto_none (bh:Nat) (A0:Option Addr) (c0:Nat) (l0:List (S31)) (A1:Option Addr) (c1:Nat) (l1:List (S31)) (x y:Int) (w:World) (h:l0 = []∨l1 = []) :
  Calls Tryd.prog 25 #[.map (some bh),.slice A0 l0.length c0,.slice A1 l1.length c1,.int .i64 x,.int .i64 y] w fun e w'=>e=.returned (.bool true)∧Below w.heap.size w w':=by
 by_cases h0:l0 = []
 ·have z00:((l0.length:Int) == 0)=true:=by rw [h0];rfl
  clear h h0
  go_enter Tryd.func25,Tryd.ntmps25
  go_wp2
  go_ret
  exact ⟨rfl,Below.refl _ _⟩
 ·have h1:l1 = []:=h.resolve_left h0
  have z00:((l0.length:Int) == 0)=false:=by
   rw [beq_eq_false_iff_ne]
   intro e
   exact h0 (List.length_eq_zero_iff.1 (by omega))
  have z10:((l1.length:Int) == 0)=true:=by rw [h1];rfl
  clear h h0 h1
  go_enter Tryd.func25,Tryd.ntmps25
  go_wp2
  go_ret
  exact ⟨rfl,Below.refl _ _⟩
set_option maxHeartbeats 2000000 in
set_option maxRecDepth 100000 in
theorem joinInto_false (bh:Nat) (A0:Option Addr) (c0:Nat) (l0:List (S31)) (A1:Option Addr) (c1:Nat) (l1:List (S31)) (x y:Int) (w:World) (hl0:l0.length≤100) (hl1:l1.length≤100) (hne0:l0≠[]) (hne1:l1≠[]) (hw : ¬ (Hp.wideAll x l0=true∧Hp.wideAll y l1=true))
  (hr0:Kd.C k31 w A0 l0.length l0) (hr1:Kd.C k31 w A1 l1.length l1) :
  Calls Tryd.prog 25 #[.map (some bh),.slice A0 l0.length c0,.slice A1 l1.length c1,.int .i64 x,.int .i64 y] w fun e w'=>e=.returned (.bool false)∧Below w.heap.size w w':=by
 have hp0:0 < l0.length:=List.length_pos_iff.2 hne0
 have hp1:0 < l1.length:=List.length_pos_iff.2 hne1
 have z00:((l0.length:Int) == 0)=false:=by rw [beq_eq_false_iff_ne];omega
 have z10:((l1.length:Int) == 0)=false:=by rw [beq_eq_false_iff_ne];omega
 have hbx:=@hasAll_calls A0 c0 l0 (some ⟨w.heap.size,0,none⟩) 1 [x] (w.alloc (.cells #[.int .i64 x] 3)) (by omega) (Kd.C_alloc hr0 _) (by simp) (one_row _ _)
 rw [wideAll_any] at hbx
 change Calls Tryd.prog 51 #[.slice A0 l0.length c0,.slice (some ⟨w.heap.size,0,none⟩) 1 1] _ _ at hbx
 have hby:=fun (W:World) (hb:Below w.heap.size w W)=>@hasAll_calls A1 c1 l1 (some ⟨W.heap.size,0,none⟩) 1 [y] (W.alloc (.cells #[.int .i64 y] 3)) (by omega) (Kd.C_alloc (Kd.C_below hr1 hb) _) (by simp) (one_row _ _)
 rw [wideAll_any] at hby
 change ∀ (W:World),Below w.heap.size w W→Calls Tryd.prog 51 #[.slice A1 l1.length c1,.slice (some ⟨W.heap.size,0,none⟩) 1 1] _ _ at hby
 cases hx:Hp.wideAll x l0 with
 | false =>
  rw [hx] at hbx
  have HBX:=Aside0.mk hbx
  clear hbx hby hw hx hr0 hr1 hne0 hne1 hp0 hp1 hl0 hl1
  go_enter Tryd.func25,Tryd.ntmps25
  go_wp2_with (go_at_call 51;refine HBX.out.mono ?_;rintro e w1 ⟨rfl,hb⟩;refine Hid.out ?_)
  refine Lib.hid ?_
  have HB1:=Aside0.mk (below_step (below_alloc (Below.refl w.heap.size w) (.cells #[.int .i64 x] 3)) hb)
  clear hb
  go_wp2
  go_ret
  exact ⟨rfl,HB1.out⟩
 | true =>
  cases hy:Hp.wideAll y l1 with
  | true=>exact absurd ⟨hx,hy⟩ hw
  | false =>
   rw [hx] at hbx
   rw [hy] at hby
   have HBX:=Aside0.mk hbx
   have HBY:=Aside0.mk hby
   clear hbx hby hw hx hy hr0 hr1 hne0 hne1 hp0 hp1 hl0 hl1
   go_enter Tryd.func25,Tryd.ntmps25
   go_wp2_with (go_at_call 51;refine HBX.out.mono ?_;rintro e w1 ⟨rfl,hb⟩;refine Hid.out ?_)
   refine Lib.hid ?_
   have HB1:=Aside0.mk (below_step (below_alloc (Below.refl w.heap.size w) (.cells #[.int .i64 x] 3)) hb)
   clear hb
   go_wp2_with (go_at_call 51;refine (HBY.out w1 HB1.out).mono ?_;rintro e w2 ⟨rfl,hb⟩;refine Hid.out ?_)
   refine Lib.hid ?_
   have HB2:=Aside0.mk (below_step (below_alloc HB1.out (.cells #[.int .i64 y] 3)) hb)
   clear hb HB1 HBX HBY
   go_wp2
   go_ret
   exact ⟨rfl,HB2.out⟩
theorem isPl (a:Int):impl_isPlace.f a 6=some (decide (0≤a∧a < 6)):=by
 unfold impl_isPlace.f
 by_cases h:a ≥ 0
 ·rw [if_pos h,show mn 6 6=6 from rfl]
  congr 1
  rw [decide_eq_decide]
  exact ⟨fun h2=>⟨h,h2⟩,fun h2=>h2.2⟩
 ·rw [if_neg h]
  congr 1
  exact (decide_eq_false (fun h2=>h h2.1)).symm
set_option maxHeartbeats 8000000 in
set_option maxRecDepth 100000 in
theorem impl_JoinOf.calls (k : Nat) (A0 : Option Addr) (c0 : Nat) (l0 : List (S31)) (A1 : Option Addr) (c1 : Nat) (l1 : List (S31)) (a2 : Int) (a3 : Int) (r1 : List (S31)) (r2 : Bool) (w : World) (hr0 : Kd.C k31 w A0 l0.length l0) (hc0 : l0.length ≤ c0) (hr1 : Kd.C k31 w A1 l1.length l1) (hc1 : l1.length ≤ c1) (h : impl_JoinOf.f k l0 l1 a2 a3 = some (r1, r2)) (hT : Lib.TabIs Tryd.prog w "internal/strconv.uint64pow10" .u64 Lib.pow10Tab := by exact tab_on HT0.out zhb) :
  Calls Tryd.prog 8 #[.slice A0 l0.length c0,.slice A1 l1.length c1,.int .i64 a2,.int .i64 a3] w fun e w'=>∃ v0_:Value,e=.returned (.tuple #[v0_,.bool r2])∧Kd.S k31 31 w' w.heap.size (fun _=>True) v0_ r1∧Below w.heap.size w w':=by
 have hmm:=@run_makeMap Tryd.prog
 unfold impl_JoinOf.f at h
 obtain ⟨t1,h1,h⟩:=Option.bind_eq_some_iff.mp h
 have hZ1:=impl_ZOk.calls k A0 c0 l0 t1 (w.alloc (.map #[] 0)) (Kd.C_alloc hr0 _) hc0 h1
 have HZ1:=Aside0.mk hZ1
 have HR0:=Aside0.mk hr0
 have HC0:=Aside0.mk hc0
 have HR1:=Aside0.mk hr1
 have HC1:=Aside0.mk hc1
 have HT:=Aside0.mk hT
 clear hr0 hc0 hr1 hc1 h1 hZ1 hT
 cases t1 with
 | false =>
  rw [if_neg (by decide)] at h
  injection h with h
  injection h with e1 e2
  subst e1 e2
  go_enter Tryd.func8,Tryd.ntmps8
  go_wp2_with (go_at_call 23;refine HZ1.out.mono ?_;rintro e w1 ⟨rfl,hb⟩;refine Hid.out ?_)
  refine Lib.hid ?_
  have HB1:=Aside0.mk (below_step (below_alloc (Below.refl w.heap.size w) _) hb)
  clear hb
  go_wp2
  go_ret2
  exact ⟨_,rfl,Kd.S_nil _ _ _ _ _,HB1.out⟩
 | true =>
 rw [if_pos rfl] at h
 obtain ⟨t2,h2,h⟩:=Option.bind_eq_some_iff.mp h
 have HZ2:=Aside0.mk (fun (W:World) (hb:Below w.heap.size w W)=>impl_ZOk.calls k A1 c1 l1 t2 W (Kd.C_below HR1.out hb) HC1.out h2)
 clear h2
 cases t2 with
 | false =>
  rw [if_neg (by decide)] at h
  injection h with h
  injection h with e1 e2
  subst e1 e2
  go_enter Tryd.func8,Tryd.ntmps8
  go_wp2_with (go_at_call 23;refine HZ1.out.mono ?_;rintro e w1 ⟨rfl,hb⟩;refine Hid.out ?_)
  refine Lib.hid ?_
  have HB1:=Aside0.mk (below_step (below_alloc (Below.refl w.heap.size w) _) hb)
  clear hb
  go_wp2_with (go_at_call 23;refine (HZ2.out _ HB1.out).mono ?_;rintro e w2 ⟨rfl,hb⟩;refine Hid.out ?_)
  refine Lib.hid ?_
  have HB2:=Aside0.mk (below_step HB1.out hb)
  clear hb
  go_wp2
  go_ret2
  exact ⟨_,rfl,Kd.S_nil _ _ _ _ _,HB2.out⟩
 | true =>
 rw [if_pos rfl] at h
 by_cases hx:0≤a2∧a2 < 6
 case neg =>
  rw [if_neg hx] at h
  injection h with h
  injection h with e1 e2
  subst e1 e2
  have hp:=isPl a2
  rw [decide_eq_false hx] at hp
  have HP:=Aside0.mk hp
  clear hp hx
  go_enter Tryd.func8,Tryd.ntmps8
  go_wp2_with (go_at_call 23;refine HZ1.out.mono ?_;rintro e w1 ⟨rfl,hb⟩;refine Hid.out ?_)
  refine Lib.hid ?_
  have HB1:=Aside0.mk (below_step (below_alloc (Below.refl w.heap.size w) _) hb)
  clear hb
  go_wp2_with (go_at_call 23;refine (HZ2.out _ HB1.out).mono ?_;rintro e w2 ⟨rfl,hb⟩;refine Hid.out ?_)
  refine Lib.hid ?_
  have HB2:=Aside0.mk (below_step HB1.out hb)
  clear hb
  go_wp2_with (go_at_call 24;refine (impl_isPlace.calls a2 6 false _ HP.out).mono ?_;rintro e w3 ⟨rfl,hb⟩;refine Hid.out ?_)
  refine Lib.hid ?_
  have HB3:=Aside0.mk (below_step HB2.out hb)
  clear hb
  go_wp2
  go_ret2
  exact ⟨_,rfl,Kd.S_nil _ _ _ _ _,HB3.out⟩
 rw [if_pos hx] at h
 have hp:=isPl a2
 rw [decide_eq_true hx] at hp
 have HP:=Aside0.mk hp
 have HX:=Aside0.mk hx
 clear hp hx
 by_cases hy:0≤a3∧a3 < 6
 case neg =>
  rw [if_neg hy] at h
  injection h with h
  injection h with e1 e2
  subst e1 e2
  have hq:=isPl a3
  rw [decide_eq_false hy] at hq
  have HQ:=Aside0.mk hq
  clear hq hy
  go_enter Tryd.func8,Tryd.ntmps8
  go_wp2_with (go_at_call 23;refine HZ1.out.mono ?_;rintro e w1 ⟨rfl,hb⟩;refine Hid.out ?_)
  refine Lib.hid ?_
  have HB1:=Aside0.mk (below_step (below_alloc (Below.refl w.heap.size w) _) hb)
  clear hb
  go_wp2_with (go_at_call 23;refine (HZ2.out _ HB1.out).mono ?_;rintro e w2 ⟨rfl,hb⟩;refine Hid.out ?_)
  refine Lib.hid ?_
  have HB2:=Aside0.mk (below_step HB1.out hb)
  clear hb
  go_wp2_with (go_at_call 24;refine (impl_isPlace.calls a2 6 true _ HP.out).mono ?_;rintro e w3 ⟨rfl,hb⟩;refine Hid.out ?_)
  refine Lib.hid ?_
  have HB3:=Aside0.mk (below_step HB2.out hb)
  clear hb
  go_wp2_with (go_at_call 24;refine (impl_isPlace.calls a3 6 false _ HQ.out).mono ?_;rintro e w4 ⟨rfl,hb⟩;refine Hid.out ?_)
  refine Lib.hid ?_
  have HB4:=Aside0.mk (below_step HB3.out hb)
  clear hb
  go_wp2
  go_ret2
  exact ⟨_,rfl,Kd.S_nil _ _ _ _ _,HB4.out⟩
 rw [if_pos hy] at h
 have hq:=isPl a3
 rw [decide_eq_true hy] at hq
 have HQ:=Aside0.mk hq
 have HY:=Aside0.mk hy
 clear hq hy
 by_cases hf:fineJ k l0 l1
 case neg=>rw [if_neg hf] at h;cases h
 rw [if_pos hf] at h
 have HF:=Aside0.mk hf
 by_cases hw:l0 = []∨l1 = []∨(Hp.wideAll a2 l0=true∧Hp.wideAll a3 l1=true)
 case neg =>
  rw [if_neg hw] at h
  injection h with h
  injection h with e1 e2
  subst e1 e2
  have HJ:=Aside0.mk (fun (W:World) (hb:Below w.heap.size w W)=>joinInto_false w.heap.size A0 c0 l0 A1 c1 l1 a2 a3 W hf.1 hf.2.1 (fun e=>hw (.inl e)) (fun e=>hw (.inr (.inl e))) (fun e=>hw (.inr (.inr e))) (Kd.C_below HR0.out hb) (Kd.C_below HR1.out hb))
  clear hf hw
  go_enter Tryd.func8,Tryd.ntmps8
  go_wp2_with (go_at_call 23;refine HZ1.out.mono ?_;rintro e w1 ⟨rfl,hb⟩;refine Hid.out ?_)
  refine Lib.hid ?_
  have HB1:=Aside0.mk (below_step (below_alloc (Below.refl w.heap.size w) _) hb)
  clear hb
  go_wp2_with (go_at_call 23;refine (HZ2.out _ HB1.out).mono ?_;rintro e w2 ⟨rfl,hb⟩;refine Hid.out ?_)
  refine Lib.hid ?_
  have HB2:=Aside0.mk (below_step HB1.out hb)
  clear hb
  go_wp2_with (go_at_call 24;refine (impl_isPlace.calls a2 6 true _ HP.out).mono ?_;rintro e w3 ⟨rfl,hb⟩;refine Hid.out ?_)
  refine Lib.hid ?_
  have HB3:=Aside0.mk (below_step HB2.out hb)
  clear hb
  go_wp2_with (go_at_call 24;refine (impl_isPlace.calls a3 6 true _ HQ.out).mono ?_;rintro e w4 ⟨rfl,hb⟩;refine Hid.out ?_)
  refine Lib.hid ?_
  have HB4:=Aside0.mk (below_step HB3.out hb)
  clear hb
  go_wp2_with (go_at_call 25;refine (HJ.out _ HB4.out).mono ?_;rintro e w5 ⟨rfl,hb⟩;refine Hid.out ?_)
  refine Lib.hid ?_
  have HB5:=Aside0.mk (below_step HB4.out hb)
  clear hb
  go_wp2
  go_ret2
  exact ⟨_,rfl,Kd.S_nil _ _ _ _ _,HB5.out⟩
 rw [if_pos hw] at h
 have HJ:=Aside0.mk (fun (W:World) (hb:Below (w.alloc (.map #[] 0)).heap.size (w.alloc (.map #[] 0)) W)=>show Calls Tryd.prog 25 #[.map (some w.heap.size),.slice A0 l0.length c0,.slice A1 l1.length c1,.int .i64 a2,.int .i64 a3] W fun e w'=>e=.returned (.bool true)∧(∃ D n,n≤10000∧w'.ownsMap Tryd.prog 9 itR w.heap.size n D∧HeapOf (Kd.FK k31 w' (fun k=>w.heap.size < k)) (Hp.pairsOf a2 a3 l0 l1) D)∧W.grownBy w' (some w.heap.size) from by
  have hown:W.ownsMap Tryd.prog 9 itR w.heap.size 0 (.map []):=(World.ownsMap_made w Tryd.prog 9 itR).kept (grown_of_below hb none) (by simp)
  have hbw:Below w.heap.size w W:=below_step (below_alloc (Below.refl w.heap.size w) _) hb
  by_cases he:l0 = []∨l1 = []
  ·have hp0:Hp.pairsOf a2 a3 l0 l1 = []:=by
    rcases he with he|he
    ·rw [he];rfl
    ·apply List.eq_nil_of_length_eq_zero
     have:=pairsOf_len a2 a3 l1 l0
     rw [he] at this ⊢
     simpa using this
   rw [hp0]
   refine (joinInto_none w.heap.size A0 c0 l0 A1 c1 l1 a2 a3 W he).mono ?_
   rintro e w5 ⟨rfl,hb5⟩
   exact ⟨rfl,⟨_,0,by omega,hown.kept (grown_of_below hb5 none) (by simp),HeapOf.start _⟩,grown_of_below hb5 _⟩
  ·have hww:=(hw.resolve_left (fun e=>he (.inl e))).resolve_left (fun e=>he (.inr e))
   exact joinInto_calls k w.heap.size A0 c0 l0 A1 c1 l1 a2 a3 W hf (fun e=>he (.inl e)) (fun e=>he (.inr e)) hww.1 hww.2 (Kd.F_below (Kd.C_F k31_heap HR0.out) hbw) (Kd.F_below (Kd.C_F k31_heap HR1.out) hbw) hown (fun W' hb'=>tab_on HT.out (hbw.trans hb')))
 have HA:=Aside0.mk h
 have HLP:=Aside0.mk (pairsOf_len a2 a3 l1 l0)
 have HPM:=Aside0.mk (show ∀ r,Hp.isIn r (Hp.pairsOf a2 a3 l0 l1)→∃ p ∈ l0,∃ q ∈ l1,r=p.f0 ++ q.f0 by
  rintro r ⟨u,hu,rfl⟩
  obtain ⟨p,hp,q,hq,rfl⟩:=Hp.pairsOf_mem hu
  exact ⟨p,hp,q,hq,rfl⟩)
 have HCM:=Aside0.mk (show ∀ r s,Hp.isIn r (Hp.pairsOf a2 a3 l0 l1)→Hp.isIn s (Hp.pairsOf a2 a3 l0 l1)→slices_Compare_int_int.f k r s=some (Hp.lexc r s)∧(rowB r=rowB s→r=s) by
  intro r s hr hs
  obtain ⟨p,hp,q,hq,rfl⟩:=HPM.out r hr
  obtain ⟨p',hp',q',hq',rfl⟩:=HPM.out s hs
  exact hf.2.2.2.2.2 p hp q hq p' hp' q' hq')
 clear h hf hw
 go_enter Tryd.func8,Tryd.ntmps8
 go_wp2_with (go_at_call 23;refine HZ1.out.mono ?_;rintro e w1 ⟨rfl,hb⟩;refine Hid.out ?_)
 refine Lib.hid ?_
 have HM1:=Aside0.mk hb
 have HB1:=Aside0.mk (below_step (below_alloc (Below.refl w.heap.size w) _) hb)
 clear hb
 go_wp2_with (go_at_call 23;refine (HZ2.out _ HB1.out).mono ?_;rintro e w2 ⟨rfl,hb⟩;refine Hid.out ?_)
 refine Lib.hid ?_
 have HM2:=Aside0.mk (below_step HM1.out hb)
 clear hb HM1 HB1
 go_wp2_with (go_at_call 24;refine (impl_isPlace.calls a2 6 true _ HP.out).mono ?_;rintro e w3 ⟨rfl,hb⟩;refine Hid.out ?_)
 refine Lib.hid ?_
 have HM3:=Aside0.mk (below_step HM2.out hb)
 clear hb HM2
 go_wp2_with (go_at_call 24;refine (impl_isPlace.calls a3 6 true _ HQ.out).mono ?_;rintro e w4 ⟨rfl,hb⟩;refine Hid.out ?_)
 refine Lib.hid ?_
 have HM4:=Aside0.mk (below_step HM3.out hb)
 clear hb HM3
 have HB4:=Aside0.mk (below_step (below_alloc (Below.refl w.heap.size w) _) HM4.out)
 go_wp2_with (go_at_call 25;refine (HJ.out _ HM4.out).mono ?_;rintro e w5 ⟨rfl,⟨D,n,hn,hown,hH⟩,hg⟩;refine Hid.out ?_)
 refine Lib.hid ?_
 have HB5:=Aside0.mk (HB4.out.trans (below_row hg HB4.out.size))
 have HIT:=Aside0.mk (items_calls k w.heap.size n (Hp.pairsOf a2 a3 l0 l1) D w5 (by omega) hown hH (fun r s hr hs=>(HCM.out r s hr hs).1) (fun r s hr hs=>(HCM.out r s hr hs).2))
 clear hn hown hH hg HB4 HM4
 go_wp2_with (go_at_call 27;refine HIT.out.mono ?_;rintro e w6 ⟨⟨A,c,rfl,hc,hC⟩,hb⟩;refine Hid.out ?_)
 refine Lib.hid ?_
 have HB6:=Aside0.mk (below_step HB5.out hb)
 have HTO:=Aside0.mk (impl_told.calls k A c _ r1 r2 w6 hC hc HA.out)
 clear hb hc hC HIT HB5
 go_wp2_with (go_at_call 26;refine HTO.out.mono ?_;rintro e w7 ⟨v7,rfl,ho,hb⟩;refine Hid.out ?_)
 refine Lib.hid ?_
 have HB7:=Aside0.mk (below_step HB6.out hb)
 have HO7:=Aside0.mk (Kd.S_lower ho HB6.out.size)
 clear ho hb
 go_wp2
 go_ret2
 exact ⟨_,rfl,HO7.out,HB7.out⟩

end Go.Proofs.YtlknceioincaeaaDoor.PFnJoin
