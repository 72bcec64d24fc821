/- Whatever codes the items are drawn from, the program's join and the reference's are one, a join has no more rows than there are pairs, one row's join with each of its mates is there, and joined with more items it is the two joins together, where nothing is too much: the law answers true. No condition beyond what the statement gives (bytes). -/
import Derived.Test.YtlknceioincaeaaDoorPFnJoinx16
import Derived.Test.YtlknceioincaeaaDoorQ
namespace Go.Proofs.YtlknceioincaeaaDoor.Pure
open Go.RowKit Go.Proofs.YtlknceioincaeaaDoor.PFnJoin Go.Proofs.YtlknceioincaeaaDoorW.PrintWords Go.Proofs.YtlknceioincaeaaDoorW.PrintLast Go.Proofs.YtlknceioincaeaaDoorW.PrintMore Go.Proofs.YtlknceioincaeaaDoor.Q

/-! draws -/
theorem xor_pos (x y:Int) (h0:0≤x) (h1:x < 4611686018427387904) (h2:0≤y) (h3:y < 4611686018427387904):0≤Go.bits .xor .i64 x y:=by
 obtain ⟨a,rfl⟩:=Int.eq_ofNat_of_zero_le h0
 obtain ⟨b,rfl⟩:=Int.eq_ofNat_of_zero_le h2
 have ha:a < 2 ^ 62:=by omega
 have hb:b < 2 ^ 62:=by omega
 have ha':a % 2 ^ IntKind.i64.bits=a:=Nat.mod_eq_of_lt (Nat.lt_of_lt_of_le ha (by decide))
 have hb':b % 2 ^ IntKind.i64.bits=b:=Nat.mod_eq_of_lt (Nat.lt_of_lt_of_le hb (by decide))
 have hx:a ^^^ b < 2 ^ 62:=Nat.xor_lt_two_pow ha hb
 simp only [bits,BitVec.ofInt_natCast,BitVec.toNat_xor,BitVec.toNat_ofNat,ha',hb']
 rw [IntKind.wrap_i64]
 omega
/-- a code as the draws read it, and a place in it -/
structure Code_ (b:List Int):Prop where
 len:b.length≤2000
 byte : ∀ i:Int,0≤rd b i∧rd b i≤255
def lim:Int:=1000000000
theorem tmod_lt (x n:Int) (h0:0≤x) (hn:0 < n):0≤Int.tmod x n∧Int.tmod x n < n:=by
 rw [Int.tmod_eq_emod_of_nonneg h0]
 exact ⟨Int.emod_nonneg _ (by omega),Int.emod_lt_of_pos _ hn⟩
theorem pick_some {b:List Int} (hb:Code_ b) (p n:Int) (hp:0≤p) (hp1:p≤lim) (hn:1≤n) : ∃ v,spec_l12Rd_pick.f b p n=some (v,p + 1)∧0≤v∧v < n:=by
 have hl:=hb.len
 unfold lim at hp1
 unfold spec_l12Rd_pick.f
 have e1:wrap64 (p + 1)=p + 1:=w64 (by omega) (by omega)
 have e2:wrap64 (p + 1 - 1)=p:=by rw [w64 (by omega) (by omega)]; omega
 rw [e1,e2,if_neg (by omega)]
 by_cases h0:(b.length:Int)=0
 ·rw [if_pos h0]; exact ⟨0,rfl,by omega,by omega⟩
 ·rw [if_neg h0]
  by_cases h1:p < b.length
  ·rw [if_pos h1,if_pos hp,if_neg (by omega)]
   have hr:=hb.byte p
   rw [w64 (by omega) (by omega)]
   have:=tmod_lt (rd b p) n hr.1 (by omega)
   exact ⟨_,rfl,this.1,this.2⟩
  ·rw [if_neg h1]
   have hm:=tmod_lt p b.length hp (by omega)
   have e3:wrap64 (p * 7)=p * 7:=w64 (by omega) (by omega)
   have e4:wrap64 (p * 7 + 3)=p * 7 + 3:=w64 (by omega) (by omega)
   have hm2:=tmod_lt (p * 7 + 3) b.length (by omega) (by omega)
   rw [e3,e4,if_pos hm.1,if_pos hm.2,if_pos hm2.1,if_pos hm2.2,if_neg (by omega)]
   have b1:=hb.byte (Int.tmod p b.length)
   have b2:=hb.byte (Int.tmod (p * 7 + 3) b.length)
   generalize rd b (Int.tmod p b.length)=u at b1 ⊢
   generalize rd b (Int.tmod (p * 7 + 3) b.length)=v at b2 ⊢
   have hd:0≤Int.tdiv p b.length∧Int.tdiv p b.length≤p:=by
    rw [Int.tdiv_eq_ediv_of_nonneg hp]
    exact ⟨Int.ediv_nonneg hp (by omega),Int.ediv_le_self _ hp⟩
   generalize Int.tdiv p b.length=d at hd ⊢
   have f1:wrap64 u=u:=w64 (by omega) (by omega)
   have f2:wrap64 v=v:=w64 (by omega) (by omega)
   have f3:wrap64 d=d:=w64 (by omega) (by omega)
   have f4:wrap64 (u * 131)=u * 131:=w64 (by omega) (by omega)
   have f5:wrap64 (v * 1117)=v * 1117:=w64 (by omega) (by omega)
   have f6:wrap64 (p * 29)=p * 29:=w64 (by omega) (by omega)
   have f7:wrap64 (d * 53)=d * 53:=w64 (by omega) (by omega)
   have f8:wrap64 (u * 131 + v * 1117)=u * 131 + v * 1117:=w64 (by omega) (by omega)
   have f9:wrap64 (u * 131 + v * 1117 + p * 29)=u * 131 + v * 1117 + p * 29:=w64 (by omega) (by omega)
   have f10:wrap64 (u * 131 + v * 1117 + p * 29 + d * 53)=u * 131 + v * 1117 + p * 29 + d * 53:=w64 (by omega) (by omega)
   rw [f1,f2,f3,f4,f5,f6,f7,f8,f9,f10]
   generalize hX:u * 131 + v * 1117 + p * 29 + d * 53=X
   have hX0:0≤X:=by omega
   have hX1:X < 4611686018427387904:=by omega
   have g1:Int.tdiv X 64=X / 64:=Int.tdiv_eq_ediv_of_nonneg hX0
   rw [g1,w64 (by omega) (by omega)]
   have:=tmod_lt (Go.bits .xor .i64 X (X / 64)) n (xor_pos X (X / 64) hX0 hX1 (by omega) (by omega)) (by omega)
   exact ⟨_,rfl,this.1,this.2⟩
theorem rd_mem (l:List Int) (i:Int) (h0:0≤i) (h1:i < l.length):rd l i ∈ l:=by
 obtain ⟨n,rfl⟩:=Int.eq_ofNat_of_zero_le h0
 rw [show ((n:Nat):Int)=(n:Int) from rfl,rd_nat,List.getD_eq_getElem?_getD,List.getElem?_eq_getElem (by omega)]
 exact List.getElem_mem _
theorem open_some (l:List Int) (hl : ∀ x ∈ l,(Lit.int .u8 x).wf=true) : ∃ b,spec_l12Open.f l=some (b,0)∧Code_ b:=by
 have hw : ∀ x ∈ l,0≤x∧x≤255:=fun x hx=>by
  have:=hl x hx
  simp [Lit.wf,IntKind.min,IntKind.max,IntKind.bits,IntKind.signed] at this
  omega
 have hr : ∀ m:List Int,(∀ x ∈ m,0≤x∧x≤255)→∀ i:Int,0≤rd m i∧rd m i≤255:=fun m hm i=>by
  unfold rd
  rw [List.getD_eq_getElem?_getD]
  cases h:m[i.toNat]? with
  | none=>simp
  | some x=>exact hm x (List.mem_of_getElem? h)
 unfold spec_l12Open.f
 by_cases h:(l.length:Int) > 2000
 ·rw [if_pos h,if_pos (by omega)]
  exact ⟨_,rfl,⟨by simp; omega,hr _ (fun x hx=>hw x (List.mem_of_mem_take hx))⟩⟩
 ·rw [if_neg h]
  exact ⟨_,rfl,⟨by omega,hr _ hw⟩⟩
theorem num_some {b:List Int} (hb:Code_ b) (p:Int) (l:List Int) (hp:0≤p) (hp1:p≤lim) (hl:1≤l.length) : ∃ v,spec_l12Rd_num.f b p l=some (v,p + 1)∧v ∈ l:=by
 obtain ⟨v,hv,h0,h1⟩:=pick_some hb p l.length hp hp1 (by omega)
 refine ⟨rd l v,?_,rd_mem l v h0 h1⟩
 unfold spec_l12Rd_num.f
 rw [hv]
 simp only [Option.bind_some]
 rw [if_pos h0,if_pos h1]
def drawnCell (x:Int):Prop:=-1≤x∧x≤5
theorem row_ev {b:List Int} (hb:Code_ b) (p:Int) (wide:Nat) (hp:0≤p) (hp1:p + wide≤lim) : ∃ r:List Int,Ev (fun k=>spec_l1Row.f k b p wide) (r,p + wide)∧r.length=wide∧∀ x ∈ r,drawnCell x:=by
 have hlim:lim=1000000000:=rfl
 have go : ∀ (d i:Nat) (acc:List Int),i + d=wide→acc.length=i→(∀ x ∈ acc,drawnCell x) →
  ∃ r:List Int,Ev (fun k=>spec_l1Row.l0 k wide acc i b (p + i)) (r,p + wide)∧r.length=wide∧∀ x ∈ r,drawnCell x:=by
  intro d
  induction d with
  | zero =>
   intro i acc hi ha hc
   obtain rfl:i=wide:=by omega
   exact ⟨acc,Ev.step (fun k=>spec_l1Row.l0.eq_2 ..) (ev_neg (by omega) (ev_now rfl)),ha,hc⟩
  | succ d ih =>
   intro i acc hi ha hc
   obtain ⟨v,hv,hm⟩:=num_some hb (p + i) [0,1,2,3,1,2,-1,5] (by omega) (by omega) (by decide)
   have hv2:drawnCell v:=by simp at hm; unfold drawnCell; omega
   obtain ⟨r,hr,h1,h2⟩:=ih (i + 1) (acc ++ [v]) (by omega) (by simp [ha]) (fun x hx=>by
    rcases List.mem_append.1 hx with h | h
    ·exact hc x h
    ·simp at h; subst h; exact hv2)
   refine ⟨r,Ev.step (fun k=>spec_l1Row.l0.eq_2 ..) (ev_pos (by omega) (ev_eq hv (ev_pos (by omega) ?_))),h1,h2⟩
   rw [w64n (by omega)]
   have e:p + (i:Int) + 1=p + ((i + 1:Nat):Int):=by omega
   simp only [e]
   exact hr
 obtain ⟨r,hr,h1,h2⟩:=go wide 0 [] (by omega) rfl (by simp)
 refine ⟨r,?_,h1,h2⟩
 unfold spec_l1Row.f
 simpa using hr
theorem ext_item {x y:S31} (h0:x.f0=y.f0) (h1:x.f1=y.f1):x=y:=by cases x; cases y; simp_all
instance decItem:DecidableEq S31:=fun x y=>decidable_of_iff (x.f0=y.f0∧x.f1=y.f1) ⟨fun h=>ext_item h.1 h.2,fun h=>by rw [h]; exact ⟨rfl,rfl⟩⟩
theorem dec_cons {x y:S31} {s u:List S31} (h:x=y):decide (x :: s=y :: u)=decide (s=u):=by subst h; rw [decide_eq_decide]; simp
theorem dec_cons_ne {x y:S31} {s u:List S31} (h : ¬ x=y):decide (x :: s=y :: u)=false:=by rw [decide_eq_false_iff_not]; intro e; injection e with e1 e2; exact h e1
theorem rdI_at (l:List S31) (i:Nat) (h:i < l.length):rd_T31 l (i:Int)=l[i]:=by
 show l.getD _ _=_
 rw [Int.toNat_natCast,List.getD_eq_getElem?_getD,List.getElem?_eq_getElem h]; rfl
theorem drop_at {α:Type} (l:List α) (i:Nat) (h:i < l.length):l.drop i=l[i] :: l.drop (i + 1):=List.drop_eq_getElem_cons h
/-- items no longer than so, their rows too -/
structure Small (l:List S31):Prop where
 len:l.length≤1048576
 row : ∀ x ∈ l,x.f0.length≤1048576
/-- RowOk -/
def cellB (n:Int):Bool:=decide (-1000000000≤n∧n≤1000000000)
def okRow (r:List Int):Bool:=decide (1≤r.length) && decide (r.length≤6) && r.all cellB
theorem specCell (n:Int):spec_l1Cell.f n=some (cellB n):=by
 unfold spec_l1Cell.f cellB
 by_cases h:n≥-1000000000
 ·rw [if_pos h]; simp; omega
 ·rw [if_neg h]; simp; omega
/-- l1Order -/
def ordL:List Int→List Int→Int→Int
 | [],_,d=>d
 | _ :: _,[],d=>d
 | a :: x,b :: y,d=>if a < b then -1 else if b < a then 1 else ordL x y d
theorem ordL_zero : ∀ a b:List Int,ordL a b ((a.length:Int) - b.length)=0 ↔ a=b:=by
 have go : ∀ (a b:List Int) (d:Int),d=(a.length:Int) - b.length→(ordL a b d=0 ↔ a=b):=by
  intro a
  induction a with
  | nil=>intro b d hd; cases b <;> simp [ordL] at hd ⊢ <;> omega
  | cons x a ih =>
   intro b d hd
   cases b with
   | nil=>simp [ordL] at hd ⊢; omega
   | cons y b =>
    have:=ih b d (by simp at hd; omega)
    simp only [ordL]
    by_cases h1:x < y
    ·rw [if_pos h1]; simp; omega
    ·rw [if_neg h1]
     by_cases h2:y < x
     ·rw [if_pos h2]; simp; omega
     ·rw [if_neg h2,this]
      obtain rfl:x=y:=by omega
      simp
 exact fun a b=>go a b _ rfl
/-- slices.Compare -/
def lexc:List Int→List Int→Int
 | [],[]=>0
 | [],_ :: _=>-1
 | _ :: _,[]=>1
 | a :: x,b :: y=>if a < b then -1 else if b < a then 1 else lexc x y
theorem lexc_ordL : ∀ a b:List Int,(ordL a b ((a.length:Int) - b.length) < 0 ↔ lexc a b < 0):=by
 have go : ∀ (a b:List Int) (d:Int),d=(a.length:Int) - b.length→(ordL a b d < 0 ↔ lexc a b < 0):=by
  intro a
  induction a with
  | nil=>intro b d hd; cases b <;> simp [ordL,lexc] at hd ⊢ <;> omega
  | cons x a ih =>
   intro b d hd
   cases b with
   | nil=>simp [ordL,lexc] at hd ⊢; omega
   | cons y b =>
    have:=ih b d (by simp at hd; omega)
    simp only [ordL,lexc]
    by_cases h1:x < y
    ·rw [if_pos h1,if_pos h1]
    ·rw [if_neg h1,if_neg h1]
     by_cases h2:y < x
     ·rw [if_pos h2,if_pos h2]
     ·rw [if_neg h2,if_neg h2,this]
 exact fun a b=>go a b _ rfl
def okW (w:Int):Bool:=decide (w≠0) && (decide (-10000≤w) && decide (w≤10000))
/-- items in order, behind a row -/
def chain:Option (List Int)→List S31→Bool
 | _,[]=>true
 | p,x :: z=>okRow x.f0 && (okW x.f1 && ((match p with | none=>true | some r=>decide (lexc r x.f0 < 0)) && chain (some x.f0) z))
theorem chain_nil (p:Option (List Int)):chain p []=true:=by cases p <;> rfl
theorem chain_cons (p:Option (List Int)) (x:S31) (z:List S31):chain p (x :: z)=(okRow x.f0 && (okW x.f1 && ((match p with | none=>true | some r=>decide (lexc r x.f0 < 0)) && chain (some x.f0) z))):=by cases p <;> rfl
def okZ (z:List S31):Bool:=decide (z.length≤100) && chain none z
/-- the row ahead of a place -/
def ahead (z:List S31) (i:Nat):Option (List Int):=if i=0 then none else (z[i - 1]?).map (·.f0)
theorem ahead_succ (z:List S31) (i:Nat) (h:i < z.length):ahead z (i + 1)=some z[i].f0:=by
 unfold ahead
 rw [if_neg (by omega),Nat.add_sub_cancel,List.getElem?_eq_getElem h]
 rfl
theorem lexc_swap : ∀ a b:List Int,lexc b a = - lexc a b:=by
 intro a
 induction a with
 | nil=>intro b; cases b <;> rfl
 | cons x a ih =>
  intro b
  cases b with
  | nil=>rfl
  | cons y b =>
   simp only [lexc]
   by_cases h1:x < y
   ·rw [if_pos h1,if_neg (by omega),if_pos h1]; rfl
   ·rw [if_neg h1]
    by_cases h2:y < x
    ·rw [if_pos h2,if_neg h1,if_pos h2]
    ·rw [if_neg h2,if_neg h1,if_neg h2,ih]
theorem lexc_zero : ∀ a b:List Int,lexc a b=0 ↔ a=b:=by
 intro a
 induction a with
 | nil=>intro b; cases b <;> simp [lexc]
 | cons x a ih =>
  intro b
  cases b with
  | nil=>simp [lexc]
  | cons y b =>
   simp only [lexc]
   by_cases h1:x < y
   ·rw [if_pos h1]; simp; omega
   ·rw [if_neg h1]
    by_cases h2:y < x
    ·rw [if_pos h2]; simp; omega
    ·rw [if_neg h2,ih]
     obtain rfl:x=y:=by omega
     simp
theorem lexc_trans : ∀ a b c:List Int,lexc a b < 0→lexc b c < 0→lexc a c < 0:=by
 intro a
 induction a with
 | nil =>
  intro b c h1 h2
  cases b with
  | nil=>simp [lexc] at h1
  | cons y b =>
   cases c with
   | nil=>simp [lexc] at h2
   | cons z c=>simp [lexc]
 | cons x a ih =>
  intro b c h1 h2
  cases b with
  | nil=>simp [lexc] at h1
  | cons y b =>
   cases c with
   | nil=>simp [lexc] at h2
   | cons z c =>
    simp only [lexc] at h1 h2 ⊢
    by_cases c1:x < z
    ·rw [if_pos c1]; decide
    ·rw [if_neg c1]
     by_cases d1:x < y
     ·rw [if_neg (by omega)] at h2
      rw [if_pos (by omega)] at h2
      simp at h2
     ·rw [if_neg d1] at h1
      by_cases d2:y < x
      ·rw [if_pos d2] at h1; simp at h1
      ·rw [if_neg d2] at h1
       obtain rfl:x=y:=by omega
       rw [if_neg c1] at h2
       by_cases c2:z < x
       ·rw [if_pos c2] at h2; simp at h2
       ·rw [if_neg c2] at h2 ⊢
        exact ih b c h1 h2
theorem okRow_iff (r:List Int):okRow r=true ↔ (1≤r.length∧r.length≤6∧∀ x ∈ r,cellB x=true):=by
 unfold okRow; simp [and_assoc]
theorem chain_sorted : ∀ (z:List S31) (p:Option (List Int)),chain p z=true→(∀ r,p=some r→∀ x ∈ z,lexc r x.f0 < 0)∧z.Pairwise (fun x y=>lexc x.f0 y.f0 < 0)∧∀ x ∈ z,okRow x.f0=true∧okW x.f1=true:=by
 intro z
 induction z with
 | nil=>intro p _; exact ⟨by simp,.nil,by simp⟩
 | cons x z ih =>
  intro p h
  rw [chain_cons] at h
  simp only [Bool.and_eq_true] at h
  obtain ⟨h1,h2,h3,h4⟩:=h
  obtain ⟨i1,i2,i3⟩:=ih _ h4
  have i1:=i1 _ rfl
  refine ⟨fun r hr y hy=>?_,List.pairwise_cons.2 ⟨i1,i2⟩,fun y hy=>?_⟩
  ·subst hr
   have h3':lexc r x.f0 < 0:=by simpa using h3
   rcases List.mem_cons.1 hy with e | e
   ·subst e; exact h3'
   ·exact lexc_trans _ _ _ h3' (i1 y e)
  ·rcases List.mem_cons.1 hy with e | e
   ·subst e; exact ⟨h1,h2⟩
   ·exact i3 y e
theorem okZ_facts {z:List S31} (h:okZ z=true):z.length≤100∧z.Pairwise (fun x y=>lexc x.f0 y.f0 < 0)∧∀ x ∈ z,okRow x.f0=true∧okW x.f1=true:=by
 unfold okZ at h
 simp only [Bool.and_eq_true,decide_eq_true_iff] at h
 obtain ⟨h1,h2⟩:=h
 obtain ⟨_,h3,h4⟩:=chain_sorted z none h2
 exact ⟨h1,h3,h4⟩
theorem pairwise_at {α:Type} {R:α→α→Prop} {z:List α} (h:z.Pairwise R) {i j:Nat} (hi:i < z.length) (hj:j < z.length) (hij:i < j):R z[i] z[j]:=List.pairwise_iff_getElem.1 h i j hi hj hij
/-- the weight of a row, or 0 -/
def wOf (r:List Int):List S31→Int
 | []=>0
 | x :: z=>if x.f0=r then x.f1 else wOf r z
def getZ (z:List S31) (r:List Int):Int:=if okZ z=true then wOf r z else 0
/-! weighted lists in order -/
theorem lexc_irr (a:List Int):lexc a a=0:=(lexc_zero a a).2 rfl
theorem lexc_gt {a b:List Int} (h1 : ¬ lexc a b < 0) (h2:a≠b):lexc b a < 0:=by
 have:=lexc_swap a b
 have h3:lexc a b≠0:=fun e=>h2 ((lexc_zero a b).1 e)
 omega
/-- rows in order, and no weight of 0 -/
structure Canon (z:List S31):Prop where
 ord:z.Pairwise (fun x y=>lexc x.f0 y.f0 < 0)
 nz : ∀ x ∈ z,x.f1≠0
theorem Canon.nil:Canon []:=⟨.nil,by simp⟩
theorem Canon.tail {x:S31} {z:List S31} (h:Canon (x :: z)):Canon z:=⟨(List.pairwise_cons.1 h.ord).2,fun y hy=>h.nz y (List.mem_cons_of_mem _ hy)⟩
theorem Canon.head {x:S31} {z:List S31} (h:Canon (x :: z)) : ∀ y ∈ z,lexc x.f0 y.f0 < 0:=(List.pairwise_cons.1 h.ord).1
theorem canon_cons {x:S31} {z:List S31} (h:Canon z) (h0:x.f1≠0) (h1 : ∀ y ∈ z,lexc x.f0 y.f0 < 0):Canon (x :: z) :=
 ⟨List.pairwise_cons.2 ⟨h1,h.ord⟩,fun y hy=>(List.mem_cons.1 hy).elim (fun e=>by rw [e]; exact h0) (fun e=>h.nz y e)⟩
theorem wOf_below {r:List Int} : ∀ {z:List S31},(∀ y ∈ z,lexc r y.f0 < 0)→wOf r z=0:=by
 intro z
 induction z with
 | nil=>intro _; rfl
 | cons x z ih =>
  intro h
  have hx:=h x List.mem_cons_self
  unfold wOf
  rw [if_neg (fun e=>by rw [e,lexc_irr] at hx; omega)]
  exact ih (fun y hy=>h y (List.mem_cons_of_mem _ hy))
theorem wOf_mem : ∀ {z:List S31} {x:S31},Canon z→x ∈ z→wOf x.f0 z=x.f1:=by
 intro z
 induction z with
 | nil=>intro x _ h; cases h
 | cons y z ih =>
  intro x hc hx
  unfold wOf
  rcases List.mem_cons.1 hx with e | e
  ·subst e; rw [if_pos rfl]
  ·have:=hc.head x e
   rw [if_neg (fun e2=>by rw [e2,lexc_irr] at this; omega)]
   exact ih hc.tail e
theorem wOf_ne : ∀ {z:List S31} {r:List Int},wOf r z≠0→∃ x ∈ z,x.f0=r:=by
 intro z
 induction z with
 | nil=>intro r h; exact absurd rfl h
 | cons y z ih =>
  intro r h
  unfold wOf at h
  by_cases e:y.f0=r
  ·exact ⟨y,List.mem_cons_self,e⟩
  ·rw [if_neg e] at h
   obtain ⟨x,hx,hr⟩:=ih h
   exact ⟨x,List.mem_cons_of_mem _ hx,hr⟩
theorem wOf_mem' {x y:S31} {b:List S31} (hb:Canon (y :: b)) (e:x.f0=y.f0):wOf x.f0 (y :: b)=y.f1:=by rw [e]; exact wOf_mem hb List.mem_cons_self
theorem canon_ext : ∀ {a b:List S31},Canon a→Canon b→(∀ r,wOf r a=wOf r b)→a=b:=by
 intro a
 induction a with
 | nil =>
  intro b _ hb h
  cases b with
  | nil=>rfl
  | cons y b =>
   have:=h y.f0
   rw [wOf_mem hb List.mem_cons_self] at this
   exact absurd this.symm (hb.nz y List.mem_cons_self)
 | cons x a ih =>
  intro b ha hb h
  cases b with
  | nil =>
   have:=h x.f0
   rw [wOf_mem ha List.mem_cons_self] at this
   exact absurd this (ha.nz x List.mem_cons_self)
  | cons y b =>
   have hx:=h x.f0
   rw [wOf_mem ha List.mem_cons_self] at hx
   have hy:=h y.f0
   rw [wOf_mem hb List.mem_cons_self] at hy
   have e0:x.f0=y.f0:=by
    obtain ⟨u,hu,hur⟩:=wOf_ne (z:=y :: b) (r:=x.f0) (by rw [← hx]; exact ha.nz x List.mem_cons_self)
    obtain ⟨v,hv,hvr⟩:=wOf_ne (z:=x :: a) (r:=y.f0) (by rw [hy]; exact hb.nz y List.mem_cons_self)
    rcases List.mem_cons.1 hu with e | e
    ·rw [← hur,e]
    ·rcases List.mem_cons.1 hv with e2 | e2
     ·rw [← hvr,e2]
     ·have h1:=hb.head u e
      have h2:=ha.head v e2
      rw [hur] at h1
      rw [hvr] at h2
      have:=lexc_swap x.f0 y.f0
      omega
   have e1:x.f1=y.f1:=by rw [hx,wOf_mem' hb e0]
   obtain rfl:x=y:=ext_item e0 e1
   congr 1
   refine ih ha.tail hb.tail (fun r=>?_)
   have:=h r
   unfold wOf at this
   by_cases e:x.f0=r
   ·subst e
    rw [wOf_below ha.head,wOf_below hb.head]
   ·rw [if_neg e,if_neg e] at this
    exact this
/-- spec's l2Put -/
def putL (r:List Int) (w:Int):List S31→List S31
 | []=>if w=0 then [] else [⟨r,w⟩]
 | x :: z=>if lexc x.f0 r < 0 then x :: putL r w z else if x.f0=r then (if x.f1 + w=0 then z else ⟨x.f0,x.f1 + w⟩ :: z) else if w=0 then x :: z else ⟨r,w⟩ :: x :: z
theorem putL_rows (r:List Int) (w:Int) : ∀ (z:List S31),∀ y ∈ putL r w z,y.f0=r∨∃ x ∈ z,x.f0=y.f0:=by
 intro z
 induction z with
 | nil=>intro y hy; unfold putL at hy; split at hy <;> simp at hy; left; rw [hy]
 | cons x z ih =>
  intro y hy
  unfold putL at hy
  split at hy
  ·rcases List.mem_cons.1 hy with e | e
   ·exact .inr ⟨x,List.mem_cons_self,by rw [e]⟩
   ·rcases ih y e with h | ⟨u,hu,h⟩
    ·exact .inl h
    ·exact .inr ⟨u,List.mem_cons_of_mem _ hu,h⟩
  ·split at hy
   ·split at hy
    ·exact .inr ⟨y,List.mem_cons_of_mem _ hy,rfl⟩
    ·rcases List.mem_cons.1 hy with e | e
     ·exact .inr ⟨x,List.mem_cons_self,by rw [e]⟩
     ·exact .inr ⟨y,List.mem_cons_of_mem _ e,rfl⟩
   ·split at hy
    ·exact .inr ⟨y,hy,rfl⟩
    ·rcases List.mem_cons.1 hy with e | e
     ·exact .inl (by rw [e])
     ·exact .inr ⟨y,e,rfl⟩
theorem putL_canon (r:List Int) (w:Int) : ∀ (z:List S31),Canon z→Canon (putL r w z):=by
 intro z
 induction z with
 | nil =>
  intro _
  unfold putL
  split
  ·exact Canon.nil
  ·exact ⟨.cons (by simp) .nil,by simpa using ‹¬ w=0›⟩
 | cons x z ih =>
  intro hc
  unfold putL
  split
  ·next h1 =>
   refine canon_cons (ih hc.tail) (hc.nz x List.mem_cons_self) (fun y hy=>?_)
   rcases putL_rows r w z y hy with h | ⟨u,hu,h⟩
   ·rw [h]; exact h1
   ·rw [← h]; exact hc.head u hu
  ·next h1 =>
   split
   ·split
    ·exact hc.tail
    ·next h3=>exact canon_cons hc.tail h3 hc.head
   ·next h2 =>
    split
    ·exact hc
    ·next h3 =>
     have h4:=lexc_gt h1 h2
     refine canon_cons hc h3 (fun y hy=>?_)
     rcases List.mem_cons.1 hy with e | e
     ·rw [e]; exact h4
     ·exact lexc_trans _ _ _ h4 (hc.head y e)
theorem putL_wOf (r:List Int) (w:Int) (s:List Int) : ∀ (z:List S31),Canon z→wOf s (putL r w z)=wOf s z + if s=r then w else 0:=by
 intro z
 induction z with
 | nil =>
  intro _
  unfold putL
  split
  ·next h=>subst h; simp [wOf]
  ·simp only [wOf]
   by_cases e:r=s
   ·rw [if_pos e,if_pos e.symm]; omega
   ·rw [if_neg e,if_neg (Ne.symm e)]; omega
 | cons x z ih =>
  intro hc
  unfold putL
  split
  ·next h1 =>
   unfold wOf
   by_cases e:x.f0=s
   ·rw [if_pos e,if_pos e,if_neg (fun e2=>by rw [e,e2,lexc_irr] at h1; omega)]; omega
   ·rw [if_neg e,if_neg e]; exact ih hc.tail
  ·next h1 =>
   split
   ·next h2 =>
    split
    ·next h3 =>
     by_cases e:x.f0=s
     ·subst e
      rw [wOf_below hc.head,if_pos h2,wOf,if_pos rfl]; omega
     ·rw [if_neg (fun e2=>e (by rw [e2,h2])),wOf,if_neg e]; omega
    ·by_cases e:x.f0=s
     ·rw [wOf,wOf,if_pos e,if_pos e,if_pos (by rw [← e,h2])]
     ·rw [wOf,wOf,if_neg e,if_neg e,if_neg (fun e2=>e (by rw [e2,h2]))]; omega
   ·next h2 =>
    split
    ·next h3=>subst h3; split <;> omega
    ·next h3 =>
     have h4:=lexc_gt h1 h2
     by_cases e:s=r
     ·subst e
      have:wOf s (x :: z)=0:=wOf_below (fun y hy=>by
       rcases List.mem_cons.1 hy with e | e
       ·rw [e]; exact h4
       ·exact lexc_trans _ _ _ h4 (hc.head y e))
      rw [this,if_pos rfl,wOf,if_pos rfl]; show w=0 + w; omega
     ·rw [if_neg e,wOf,if_neg (show ¬ (⟨r,w⟩:S31).f0=s from fun e2=>e e2.symm)]; omega
theorem putL_len (r:List Int) (w:Int) : ∀ (z:List S31),(putL r w z).length≤z.length + 1:=by
 intro z
 induction z with
 | nil=>unfold putL; split <;> simp
 | cons x z ih =>
  unfold putL
  repeat' split
  all_goals simp <;> omega
/-- many, one by one -/
def addL (a b:List S31):List S31:=b.foldl (fun o x=>putL x.f0 x.f1 o) a
theorem addL_canon : ∀ (b a:List S31),Canon a→Canon (addL a b):=by
 intro b
 induction b with
 | nil=>intro a h; exact h
 | cons x b ih=>intro a h; exact ih _ (putL_canon _ _ _ h)
/-- the sum of the weights of a row -/
def sumW (r:List Int):List S31→Int
 | []=>0
 | x :: z=>(if x.f0=r then x.f1 else 0) + sumW r z
theorem sumW_canon (r:List Int) : ∀ (z:List S31),Canon z→sumW r z=wOf r z:=by
 intro z
 induction z with
 | nil=>intro _; rfl
 | cons x z ih =>
  intro h
  unfold sumW wOf
  rw [ih h.tail]
  by_cases e:x.f0=r
  ·subst e; rw [if_pos rfl,if_pos rfl,wOf_below h.head]; omega
  ·rw [if_neg e,if_neg e]; omega
theorem addL_sum (r:List Int) : ∀ (b a:List S31),Canon a→wOf r (addL a b)=wOf r a + sumW r b:=by
 intro b
 induction b with
 | nil=>intro a _; simp [addL,sumW]
 | cons x b ih =>
  intro a h
  show wOf r (addL (putL x.f0 x.f1 a) b)=_
  rw [ih _ (putL_canon _ _ _ h),putL_wOf _ _ _ _ h,sumW]
  by_cases e:x.f0=r
  ·rw [if_pos e,if_pos e.symm]; omega
  ·rw [if_neg e,if_neg (Ne.symm e)]; omega
theorem addL_wOf (r:List Int) (a b:List S31) (ha:Canon a) (hb:Canon b):wOf r (addL a b)=wOf r a + wOf r b:=by
 rw [addL_sum r b a ha,sumW_canon r b hb]
/-- impl's merged, with sums -/
def merL:List S31→List S31→List S31
 | [],b=>b
 | x :: a,[]=>x :: a
 | x :: a,y :: b=>if lexc x.f0 y.f0 < 0 then x :: merL a (y :: b) else if lexc y.f0 x.f0 < 0 then y :: merL (x :: a) b else if x.f1 + y.f1=0 then merL a b else ⟨x.f0,x.f1 + y.f1⟩ :: merL a b
 termination_by a b=>a.length + b.length
theorem merL_rows : ∀ (n:Nat) (a b:List S31),a.length + b.length≤n→∀ y ∈ merL a b,(∃ x ∈ a,x.f0=y.f0)∨∃ x ∈ b,x.f0=y.f0:=by
 intro n
 induction n with
 | zero=>intro a b h y hy; cases a <;> cases b <;> simp [merL] at h hy
 | succ n ih =>
  intro a b h y hy
  cases a with
  | nil=>rw [merL] at hy; exact .inr ⟨y,hy,rfl⟩
  | cons x a =>
   cases b with
   | nil=>rw [merL] at hy; exact .inl ⟨y,hy,rfl⟩
   | cons u b =>
    simp only [List.length_cons] at h
    have lift:((∃ q ∈ a,q.f0=y.f0)∨∃ q ∈ b,q.f0=y.f0)→(∃ q ∈ x :: a,q.f0=y.f0)∨∃ q ∈ u :: b,q.f0=y.f0:=fun h=>h.imp (fun ⟨q,h1,h2⟩=>⟨q,List.mem_cons_of_mem _ h1,h2⟩) (fun ⟨q,h1,h2⟩=>⟨q,List.mem_cons_of_mem _ h1,h2⟩)
    rw [merL] at hy
    split at hy
    ·rcases List.mem_cons.1 hy with e | e
     ·exact .inl ⟨x,List.mem_cons_self,by rw [e]⟩
     ·rcases ih a (u :: b) (by simp; omega) y e with ⟨q,h1,h2⟩ | h1
      ·exact .inl ⟨q,List.mem_cons_of_mem _ h1,h2⟩
      ·exact .inr h1
    ·split at hy
     ·rcases List.mem_cons.1 hy with e | e
      ·exact .inr ⟨u,List.mem_cons_self,by rw [e]⟩
      ·rcases ih (x :: a) b (by simp; omega) y e with h1 | ⟨q,h1,h2⟩
       ·exact .inl h1
       ·exact .inr ⟨q,List.mem_cons_of_mem _ h1,h2⟩
     ·split at hy
      ·exact lift (ih a b (by omega) y hy)
      ·rcases List.mem_cons.1 hy with e | e
       ·exact .inl ⟨x,List.mem_cons_self,by rw [e]⟩
       ·exact lift (ih a b (by omega) y e)
theorem merL_spec : ∀ (n:Nat) (a b:List S31),a.length + b.length≤n→Canon a→Canon b→Canon (merL a b)∧∀ r,wOf r (merL a b)=wOf r a + wOf r b:=by
 intro n
 induction n with
 | zero=>intro a b h _ _; cases a <;> cases b <;> simp [merL,wOf,Canon.nil] at h ⊢
 | succ n ih =>
  intro a b h ha hb
  cases a with
  | nil=>rw [merL]; exact ⟨hb,fun r=>by simp [wOf]⟩
  | cons x a =>
   cases b with
   | nil=>rw [merL]; exact ⟨ha,fun r=>by simp [wOf]⟩
   | cons u b =>
    simp only [List.length_cons] at h
    rw [merL]
    split
    ·next h1 =>
     obtain ⟨c,e⟩:=ih a (u :: b) (by simp; omega) ha.tail hb
     refine ⟨canon_cons c (ha.nz x List.mem_cons_self) (fun y hy=>?_),fun r=>?_⟩
     ·rcases merL_rows _ a (u :: b) (Nat.le_refl _) y hy with ⟨q,hq,h2⟩ | ⟨q,hq,h2⟩
      ·rw [← h2]; exact ha.head q hq
      ·rw [← h2]
       rcases List.mem_cons.1 hq with e | e
       ·rw [e]; exact h1
       ·exact lexc_trans _ _ _ h1 (hb.head q e)
     ·rw [wOf,wOf]
      by_cases e0:x.f0=r
      ·rw [if_pos e0,if_pos e0]
       have:wOf r (u :: b)=0:=wOf_below (fun y hy=>by
        rw [← e0]
        rcases List.mem_cons.1 hy with e | e
        ·rw [e]; exact h1
        ·exact lexc_trans _ _ _ h1 (hb.head y e))
       omega
      ·rw [if_neg e0,if_neg e0]; exact e r
    ·next h1 =>
     split
     ·next h2 =>
      obtain ⟨c,e⟩:=ih (x :: a) b (by simp; omega) ha hb.tail
      refine ⟨canon_cons c (hb.nz u List.mem_cons_self) (fun y hy=>?_),fun r=>?_⟩
      ·rcases merL_rows _ (x :: a) b (Nat.le_refl _) y hy with ⟨q,hq,h3⟩ | ⟨q,hq,h3⟩
       ·rw [← h3]
        rcases List.mem_cons.1 hq with e | e
        ·rw [e]; exact h2
        ·exact lexc_trans _ _ _ h2 (ha.head q e)
       ·rw [← h3]; exact hb.head q hq
      ·rw [wOf,wOf.eq_2 r u b]
       by_cases e0:u.f0=r
       ·rw [if_pos e0,if_pos e0]
        have:wOf r (x :: a)=0:=wOf_below (fun y hy=>by
         rw [← e0]
         rcases List.mem_cons.1 hy with e | e
         ·rw [e]; exact h2
         ·exact lexc_trans _ _ _ h2 (ha.head y e))
        omega
       ·rw [if_neg e0,if_neg e0]; exact e r
     ·next h2 =>
      have h3:x.f0=u.f0:=by
       refine (lexc_zero _ _).1 ?_
       have:=lexc_swap x.f0 u.f0
       omega
      obtain ⟨c,e⟩:=ih a b (by omega) ha.tail hb.tail
      have low : ∀ y ∈ merL a b,lexc x.f0 y.f0 < 0:=fun y hy=>by
       rcases merL_rows _ a b (Nat.le_refl _) y hy with ⟨q,hq,h4⟩ | ⟨q,hq,h4⟩
       ·rw [← h4]; exact ha.head q hq
       ·rw [← h4,h3]; exact hb.head q hq
      split
      ·next h4 =>
       refine ⟨c,fun r=>?_⟩
       rw [e r,wOf.eq_2 r x a,wOf.eq_2 r u b]
       by_cases e0:x.f0=r
       ·rw [if_pos e0,if_pos (by rw [← h3]; exact e0),← e0,wOf_below ha.head,h3,wOf_below hb.head]; omega
       ·rw [if_neg e0,if_neg (by rw [← h3]; exact e0)]
      ·next h4 =>
       refine ⟨canon_cons c h4 low,fun r=>?_⟩
       rw [wOf,wOf,wOf]
       by_cases e0:x.f0=r
       ·rw [if_pos e0,if_pos e0,if_pos (by rw [← h3]; exact e0)]
       ·rw [if_neg e0,if_neg e0,if_neg (by rw [← h3]; exact e0)]; exact e r
theorem merL_addL (a b:List S31) (ha:Canon a) (hb:Canon b):merL a b=addL a b:=by
 obtain ⟨c,e⟩:=merL_spec _ a b (Nat.le_refl _) ha hb
 exact canon_ext c (addL_canon _ _ ha) (fun r=>by rw [e,addL_wOf r a b ha hb])
theorem l1Order_ev (a b:List Int) (ha:a.length < 4611686018427387904) (hb:b.length < 4611686018427387904):Ev (fun k=>spec_l1Order.f k a b) (ordL a b ((a.length:Int) - b.length)):=by
 have h:=ev_down (fun k i=>spec_l1Order.l0 k a b (i:Int)) (fun i=>ordL (a.drop i) (b.drop i) ((a.length:Int) - b.length)) a.length ?_ ?_ 0 (by omega)
 ·simpa [spec_l1Order.f] using h
 ·refine Ev.step (fun k=>spec_l1Order.l0.eq_2 ..) (ev_neg (by omega) (ev_now ?_))
  rw [drop_end a _ (Nat.le_refl _),ordL,w64 (by omega) (by omega)]
 ·intro i hi ih
  refine Ev.step (fun k=>spec_l1Order.l0.eq_2 ..) (ev_pos (by omega) ?_)
  by_cases hb':i < b.length
  ·rw [drop_rd a i hi,drop_rd b i hb']
   refine ev_pos (by omega) (ev_pos (by omega) ?_)
   by_cases h1:rd a i < rd b i
   ·exact ev_pos h1 (ev_now (by rw [ordL,if_pos h1]))
   ·refine ev_neg h1 ?_
    by_cases h2:rd a i > rd b i
    ·exact ev_pos h2 (ev_now (by rw [ordL,if_neg h1,if_pos h2]))
    ·refine ev_neg h2 ?_
     rw [w64n (by omega),ordL,if_neg h1,if_neg h2]
     exact ih
  ·refine ev_neg (by omega) (ev_now ?_)
   rw [drop_end b i (by omega),w64 (by omega) (by omega)]
   cases a.drop i <;> rfl
theorem specLess_ev (a b:List Int) (ha:a.length < 4611686018427387904) (hb:b.length < 4611686018427387904):Ev (fun k=>spec_RowLess.f k a b) (decide (lexc a b < 0)):=by
 unfold spec_RowLess.f
 refine (l1Order_ev a b ha hb).bind (ev_now ?_)
 rw [decide_eq_decide]
 exact lexc_ordL a b
theorem specSame_ev (a b:List Int) (ha:a.length < 4611686018427387904) (hb:b.length < 4611686018427387904):Ev (fun k=>spec_RowSame.f k a b) (decide (a=b)):=by
 unfold spec_RowSame.f
 refine (l1Order_ev a b ha hb).bind (ev_now ?_)
 rw [Bool.eq_iff_iff,beq_iff_eq,decide_eq_true_iff]
 exact ordL_zero a b
theorem specCopy (a:List Int) (ha:a.length < 17592186044416):spec_l1Copy.f a=some a:=by
 unfold spec_l1Copy.f
 simp only [Option.bind_some]
 rw [if_pos (by simp; omega)]
 simp
theorem erase_set {α:Type} (z:List α) (i:Nat) (x:α):(z.set i x).eraseIdx i=z.take i ++ z.drop (i + 1):=by
 rw [List.eraseIdx_eq_take_drop_succ,List.take_set_of_le (Nat.le_refl _),List.drop_set_of_lt (by omega)]
theorem set_split {α:Type} (z:List α) (i:Nat) (x:α) (h:i < z.length):z.set i x=z.take i ++ x :: z.drop (i + 1):=by
 rw [List.set_eq_take_append_cons_drop,if_pos h]
/-- weights far from the ends of their kind -/
def Tame (z:List S31):Prop:=∀ x ∈ z,-1000000000000000≤x.f1∧x.f1≤1000000000000000
theorem specPut_ev (z:List S31) (r:List Int) (w:Int) (hs:Small z) (hr:r.length≤1048576) (hw:Tame z) (hw0 : -1000000000000000≤w∧w≤1000000000000000):Ev (fun k=>spec_l2Put.f k z r w) (putL r w z):=by
 have hz:=hs.len
 have h:=ev_down (fun k i=>spec_l2Put.l0 k z r w (i:Int)) (fun i=>z.take i ++ putL r w (z.drop i)) z.length ?_ ?_ 0 (by omega)
 ·simpa [spec_l2Put.f] using h
 ·refine Ev.step (fun k=>spec_l2Put.l0.eq_2 ..) (ev_neg (by omega) ?_)
  rw [drop_end z _ (Nat.le_refl _),List.take_length]
  by_cases h0:w=0
  ·exact ev_pos h0 (ev_now (by simp [putL,h0]))
  ·refine ev_neg h0 (ev_pos (by omega) (ev_pos (by omega) (ev_some (ev_eq (specCopy r (by omega)) (ev_pos (by simp; omega) (ev_pos (by omega) (ev_now ?_)))))))
   simp [putL,h0]
 ·intro i hi ih
  have hri:=hs.row _ (List.getElem_mem hi)
  refine Ev.step (fun k=>spec_l2Put.l0.eq_2 ..) (ev_pos (by omega) (ev_pos (by omega) ?_))
  rw [rdI_at z i hi,drop_at z i hi]
  refine (specLess_ev z[i].f0 r (by omega) (by omega)).bind ?_
  by_cases h1:lexc z[i].f0 r < 0
  ·refine ev_pos (decide_eq_true h1) ?_
   rw [w64n (by omega),putL,if_pos h1]
   rw [List.take_succ_eq_append_getElem hi,List.append_assoc] at ih
   exact ih
  ·refine ev_neg (by simpa using h1) ((specSame_ev z[i].f0 r (by omega) (by omega)).bind ?_)
   rw [putL,if_neg h1]
   by_cases h2:z[i].f0=r
   ·refine ev_pos (decide_eq_true h2) ?_
    have hwx:=hw _ (List.getElem_mem hi)
    rw [w64 (x:=z[i].f1 + w) (by omega) (by omega),Int.toNat_natCast,if_pos h2]
    refine ev_some ?_
    have e1:rd_T31 (z.set i (⟨z[i].f0,z[i].f1 + w⟩:S31)) (i:Int)=⟨z[i].f0,z[i].f1 + w⟩:=by rw [rdI_at _ i (by simpa using hi)]; simp
    rw [e1]
    by_cases h3:z[i].f1 + w=0
    ·refine ev_pos h3 ?_
     rw [if_pos h3,w64n (by omega)]
     exact ev_pos (by omega) (ev_pos (by omega) (ev_pos (by omega) (ev_now (erase_set z i _))))
    ·refine ev_neg h3 (ev_now ?_)
     rw [if_neg h3]
     exact set_split z i _ hi
   ·refine ev_neg (by simpa using h2) ?_
    rw [if_neg h2]
    by_cases h3:w=0
    ·refine ev_pos h3 (ev_now ?_)
     rw [if_pos h3,← drop_at z i hi,List.take_append_drop]
    ·refine ev_neg h3 (ev_pos (by omega) (ev_some (ev_eq (specCopy r (by omega)) (ev_pos (by simp; omega) (ev_pos (by omega) (ev_now ?_))))))
     rw [Int.toNat_natCast,drop_at z i hi,if_neg h3,List.append_assoc]
     rfl
/-- what the draws of items yield -/
structure Drawn_ (m:Nat) (B:Int) (z:List S31):Prop where
 len:z.length≤m
 row : ∀ x ∈ z,x.f0.length≤7
 w : ∀ x ∈ z,-B≤x.f1∧x.f1≤B
 cell : ∀ x ∈ z,∀ y ∈ x.f0,-1000000001≤y∧y≤1000000001
theorem Drawn_.small {m:Nat} {B:Int} {z:List S31} (h:Drawn_ m B z) (hm:m≤1000):Small z:=⟨by have:=h.len; omega,fun x hx=>by have:=h.row x hx; omega⟩
theorem Drawn_.tame {m:Nat} {B:Int} {z:List S31} (h:Drawn_ m B z) (hB:B≤1000000):Tame z:=fun x hx=>by have:=h.w x hx; omega
theorem putL_w (r:List Int) (w B C:Int) (hB:0≤B) (hw : -C≤w∧w≤C) : ∀ (z:List S31),(∀ x ∈ z,-B≤x.f1∧x.f1≤B)→∀ y ∈ putL r w z,-(B + C)≤y.f1∧y.f1≤B + C:=by
 intro z
 induction z with
 | nil=>intro _ y hy; unfold putL at hy; split at hy <;> simp at hy; subst hy; simp; omega
 | cons x z ih =>
  intro h y hy
  have hx:=h x List.mem_cons_self
  have hz:=fun u hu=>h u (List.mem_cons_of_mem _ hu)
  have old : ∀ u ∈ x :: z,-(B + C)≤u.f1∧u.f1≤B + C:=fun u hu=>by have:=h u hu; omega
  unfold putL at hy
  split at hy
  ·rcases List.mem_cons.1 hy with e | e
   ·subst e; omega
   ·exact ih hz y e
  ·split at hy
   ·split at hy
    ·exact old y (List.mem_cons_of_mem _ hy)
    ·rcases List.mem_cons.1 hy with e | e
     ·subst e; dsimp only; omega
     ·exact old y (List.mem_cons_of_mem _ e)
   ·split at hy
    ·exact old y hy
    ·rcases List.mem_cons.1 hy with e | e
     ·subst e; dsimp only; omega
     ·exact old y e
theorem put_drawn {m:Nat} {B C:Int} {z:List S31} (h:Drawn_ m B z) (r:List Int) (w:Int) (hB:0≤B) (hr:r.length≤7) (hw : -C≤w∧w≤C) (hc : ∀ y ∈ r,-1000000001≤y∧y≤1000000001):Drawn_ (m + 1) (B + C) (putL r w z) :=
 ⟨by have:=putL_len r w z; have:=h.len; omega,fun y hy=>by
  rcases putL_rows r w z y hy with e | ⟨u,hu,e⟩
  ·rw [e]; exact hr
  ·rw [← e]; exact h.row u hu,putL_w r w B C hB hw z h.w,fun y hy=>by
  rcases putL_rows r w z y hy with e | ⟨u,hu,e⟩
  ·rw [e]; exact hc
  ·rw [← e]; exact h.cell u hu⟩
theorem put_drawn_ev {m:Nat} {B:Int} {z:List S31} (h:Drawn_ m B z) (hm:m≤1000) (hB1:B≤1000000) (r:List Int) (w:Int) (hr:r.length≤7) (hw : -1000000≤w∧w≤1000000):Ev (fun k=>spec_l2Put.f k z r w) (putL r w z) :=
 specPut_ev z r w (h.small hm) (by omega) (h.tame hB1) (by omega)
theorem set_drawn {m:Nat} {B:Int} {z:List S31} (h:Drawn_ m B z) (i:Nat) (y:S31) (h0:y.f0.length≤7) (h1 : -B≤y.f1∧y.f1≤B) (h2 : ∀ v ∈ y.f0,-1000000001≤v∧v≤1000000001):Drawn_ m B (z.set i y) :=
 ⟨by rw [List.length_set]; exact h.len,fun x hx=>(List.mem_or_eq_of_mem_set hx).elim (h.row x) (fun e=>by rw [e]; exact h0),fun x hx=>(List.mem_or_eq_of_mem_set hx).elim (h.w x) (fun e=>by rw [e]; exact h1),fun x hx=>(List.mem_or_eq_of_mem_set hx).elim (h.cell x) (fun e=>by rw [e]; exact h2)⟩
theorem okZ_w {z:List S31} (h:okZ z=true) : ∀ x ∈ z,-10000≤x.f1∧x.f1≤10000∧x.f1≠0:=by
 intro x hx
 unfold okZ at h
 simp only [Bool.and_eq_true,decide_eq_true_iff] at h
 have go : ∀ (z:List S31) (p:Option (List Int)),chain p z=true→∀ x ∈ z,okW x.f1=true:=by
  intro z
  induction z with
  | nil=>intro p _ x hx; cases hx
  | cons y z ih =>
   intro p h x hx
   rw [chain_cons] at h
   simp only [Bool.and_eq_true] at h
   rcases List.mem_cons.1 hx with e | e
   ·subst e; exact h.2.1
   ·exact ih _ h.2.2.2 x e
 have:=go z none h.2 x hx
 unfold okW at this
 simp at this
 omega
theorem okZ_canon {z:List S31} (h:okZ z=true):Canon z:=⟨(okZ_facts h).2.1,fun x hx=>(okZ_w h x hx).2.2⟩
theorem okZ_small {z:List S31} (h:okZ z=true):Small z:=⟨by have:=(okZ_facts h).1; omega,fun x hx=>by
 have:=((okZ_facts h).2.2 x hx).1
 rw [okRow_iff] at this; omega⟩
theorem putL_wide {r:List Int} {w:Int} {z:List S31} {n:Nat} (hr:r.length=n) (h : ∀ x ∈ z,x.f0.length=n) : ∀ x ∈ putL r w z,x.f0.length=n:=by
 intro y hy
 rcases putL_rows r w z y hy with e | ⟨u,hu,e⟩
 ·rw [e]; exact hr
 ·rw [← e]; exact h u hu
theorem l2ZW_ev {b:List Int} (hb:Code_ b) (p:Int) (wide most:Nat) (hp:0≤p) (hp1:p + 1000≤lim) (hw:wide≤7) (hm:most≤50) :
 ∃ (z:List S31) (q:Int),Ev (fun k=>spec_l2Z.f k b p wide most) (z,q)∧p≤q∧q≤p + 1000∧Drawn_ most 150 z∧Canon z∧(∀ x ∈ z,x.f0.length=wide):=by
 have hlim:lim=1000000000:=rfl
 have go : ∀ (d m:Nat) (z:List S31) (p:Int),m + d≤50→0≤p→p + d * 8≤lim→Drawn_ m (3 * m) z→Canon z→(∀ x ∈ z,x.f0.length=wide) →
  ∃ (z':List S31) (q:Int),Ev (fun k=>spec_l2Z.l0 k wide z (d:Int) b p) (z',q)∧p≤q∧q≤p + d * 8∧Drawn_ (m + d) 150 z'∧Canon z'∧(∀ x ∈ z',x.f0.length=wide):=by
  intro d
  induction d with
  | zero =>
   intro m z p hmd hp hp1 hz hc hu
   exact ⟨z,p,Ev.step (fun k=>spec_l2Z.l0.eq_2 ..) (ev_neg (by simp) (ev_now rfl)),by omega,by omega,⟨hz.len,hz.row,fun x hx=>by have:=hz.w x hx; omega,hz.cell⟩,hc,hu⟩
  | succ d ih =>
   intro m z p hmd hp hp1 hz hc hu
   obtain ⟨r,hr,r1,r2⟩:=row_ev hb p wide hp (by omega)
   obtain ⟨w,hw1,hm⟩:=num_some hb (p + wide) [1,1,1,2,-1,3,-2] (by omega) (by omega) (by decide)
   have hw2 : -3≤w∧w≤3:=by simp at hm; omega
   have hput:=put_drawn_ev hz (by omega) (by omega) r w (by omega) (by omega)
   have hz':=put_drawn hz r w (by omega) (by omega) hw2 (fun y hy=>by have:=r2 y hy; unfold drawnCell at this; omega)
   obtain ⟨z',q,h1,h2,h3,h4,h5,h6⟩:=ih (m + 1) (putL r w z) (p + wide + 1) (by omega) (by omega) (by omega) (by rw [show (3 * ((m + 1:Nat):Int))=3 * (m:Int) + 3 by omega]; exact hz') (putL_canon _ _ _ hc) (putL_wide r1 hu)
   refine ⟨z',q,Ev.step (fun k=>spec_l2Z.l0.eq_2 ..) (ev_pos (by omega) (hr.bind (ev_eq hw1 (hput.bind ?_)))),by omega,by omega,by rw [show m + (d + 1)=m + 1 + d by omega]; exact h4,h5,h6⟩
   rw [w64 (x:=((d + 1:Nat):Int) - 1) (by omega) (by omega),show ((d + 1:Nat):Int) - 1=(d:Int) by omega]
   exact h1
 obtain ⟨v,hv,v0,v1⟩:=pick_some hb p (most + 1) hp (by omega) (by omega)
 obtain ⟨n,rfl⟩:=Int.eq_ofNat_of_zero_le v0
 obtain ⟨z,q,h1,h2,h3,h4,h5,h6⟩:=go n 0 [] (p + 1) (by omega) (by omega) (by omega) ⟨by simp,by simp,by simp,by simp⟩ Canon.nil (by simp)
 refine ⟨z,q,?_,by omega,by omega,⟨by have:=h4.len; omega,h4.row,h4.w,h4.cell⟩,h5,h6⟩
 unfold spec_l2Z.f
 rw [w64 (x:=(most:Int) + 1) (by omega) (by omega)]
 exact ev_eq hv h1
/-- the rows with one cell each that a bent draw adds -/
def tens:Nat→Nat→List S31
 | _,0=>[]
 | i,d + 1=>⟨[10 + (i:Int)],1⟩ :: tens (i + 1) d
theorem bentLoopW_ev (b:List Int) (p:Int) : ∀ (d i m:Nat) (z:List S31),i + d=101→m + d≤900→Drawn_ m (200 + i) z →
 Ev (fun k=>spec_l2Bent.l0 k z (i:Int) b p) (addL z (tens i d),p)∧Drawn_ (m + d) 20000 (addL z (tens i d)):=by
 intro d
 induction d with
 | zero =>
  intro i m z hi hm hz
  exact ⟨Ev.step (fun k=>spec_l2Bent.l0.eq_2 ..) (ev_neg (by omega) (ev_now rfl)),⟨hz.len,hz.row,fun x hx=>by have:=hz.w x hx; omega,hz.cell⟩⟩
 | succ d ih =>
  intro i m z hi hm hz
  have hput:=put_drawn_ev hz (by omega) (by omega) [wrap64 (10 + (i:Int))] 1 (by simp) (by omega)
  have hz':=put_drawn (C:=1) hz [wrap64 (10 + (i:Int))] 1 (by omega) (by simp) (by omega) (fun y hy=>by
   rcases List.mem_singleton.1 hy with rfl
   rw [w64 (by omega) (by omega)]
   omega)
  obtain ⟨h1,h2⟩:=ih (i + 1) (m + 1) _ (by omega) (by omega) (by rw [show (200 + ((i + 1:Nat):Int))=200 + (i:Int) + 1 by omega]; exact hz')
  have e1:wrap64 (10 + (i:Int))=10 + (i:Int):=w64 (by omega) (by omega)
  have e2:addL z (tens i (d + 1))=addL (putL [wrap64 (10 + (i:Int))] 1 z) (tens (i + 1) d):=by rw [e1]; rfl
  rw [e2]
  refine ⟨Ev.step (fun k=>spec_l2Bent.l0.eq_2 ..) (ev_pos (by omega) (hput.bind ?_)),by rw [show m + (d + 1)=m + 1 + d by omega]; exact h2⟩
  rw [w64n (by omega)]
  exact h1
theorem tens_sum (n:Nat) : ∀ (d i:Nat),sumW [10 + (n:Int)] (tens i d)=if i≤n∧n < i + d then 1 else 0:=by
 intro d
 induction d with
 | zero=>intro i; rw [if_neg (by omega)]; rfl
 | succ d ih =>
  intro i
  rw [tens,sumW,ih]
  by_cases h:i=n
  ·subst h
   rw [if_pos rfl,if_neg (by omega),if_pos (by omega)]; rfl
  ·rw [if_neg (show ¬ (⟨[10 + (i:Int)],1⟩:S31).f0 = [10 + (n:Int)] from fun e=>h (by injection e with e; omega))]
   by_cases h2:i + 1≤n∧n < i + 1 + d
   ·rw [if_pos h2,if_pos (by omega)]; rfl
   ·rw [if_neg h2,if_neg (by omega)]; rfl
theorem tens_wide : ∀ (d i:Nat),∀ x ∈ tens i d,x.f0.length=1:=by
 intro d
 induction d with
 | zero=>intro i x hx; cases hx
 | succ d ih =>
  intro i x hx
  rcases List.mem_cons.1 hx with e | e
  ·rw [e]; rfl
  ·exact ih (i + 1) x e
theorem addL_wide {n:Nat} : ∀ (b a:List S31),(∀ x ∈ a,x.f0.length=n)→(∀ x ∈ b,x.f0.length=n)→∀ x ∈ addL a b,x.f0.length=n:=by
 intro b
 induction b with
 | nil=>intro a ha _; exact ha
 | cons y b ih =>
  intro a ha hb
  exact ih _ (putL_wide (hb y List.mem_cons_self) ha) (fun x hx=>hb x (List.mem_cons_of_mem _ hx))
theorem nodup_le {α:Type} [DecidableEq α] : ∀ (l m:List α),l.Nodup→(∀ x ∈ l,x ∈ m)→l.length≤m.length:=by
 intro l
 induction l with
 | nil=>intro m _ _; exact Nat.zero_le _
 | cons a l ih =>
  intro m hn hs
  have ha:=hs a List.mem_cons_self
  rw [List.nodup_cons] at hn
  have h1:=ih (m.erase a) hn.2 (fun x hx=>(List.mem_erase_of_ne (fun e=>hn.1 (by rw [← e]; exact hx))).2 (hs x (List.mem_cons_of_mem _ hx)))
  have h2:=List.length_erase_of_mem ha
  have h3:=List.length_pos_of_mem ha
  rw [List.length_cons]
  omega
theorem wOf_narrow {z:List S31} {n:Nat} (h : ∀ x ∈ z,x.f0.length=n) {r:List Int} (hr:r.length≠n):wOf r z=0:=by
 apply Classical.byContradiction
 intro h0
 obtain ⟨x,hx,e⟩:=wOf_ne h0
 exact hr (by rw [← e]; exact h x hx)
/-- many rows more, of one cell, on rows that are wider: too many -/
theorem bent_more {z:List S31} (hc:Canon z) {n:Nat} (hw : ∀ x ∈ z,x.f0.length=n) (hn:n≠1) (d:Nat):d≤(addL z (tens 0 d)).length:=by
 have h1:((List.range d).map fun (i:Nat)=>[10 + (i:Int)]).length≤((addL z (tens 0 d)).map fun x=>x.f0).length:=by
  refine nodup_le _ _ ?_ (fun r hr=>?_)
  ·rw [List.nodup_iff_pairwise_ne,List.pairwise_map]
   exact List.nodup_range.imp (fun {a b} h e=>h (by injection e with e; omega))
  ·obtain ⟨i,hi,rfl⟩:=List.mem_map.1 hr
   have hi2:=List.mem_range.1 hi
   have h2:wOf [10 + (i:Int)] (addL z (tens 0 d))≠0:=by
    rw [addL_sum _ _ _ hc,tens_sum,if_pos (by omega),wOf_narrow hw (show ([10 + (i:Int)]:List Int).length≠n from fun e=>hn e.symm)]
    omega
   obtain ⟨x,hx,e⟩:=wOf_ne h2
   exact List.mem_map.2 ⟨x,hx,e⟩
 rw [List.length_map,List.length_map,List.length_range] at h1
 exact h1
theorem bent_many {z:List S31} (hc:Canon z) {n:Nat} (hw : ∀ x ∈ z,x.f0.length=n) (hn:n≠1) {d:Nat} (hd:101≤d):okZ (addL z (tens 0 d))=false:=by
 rw [Bool.eq_false_iff]
 intro hk
 have hl:=(okZ_facts hk).1
 have:=bent_more hc hw hn d
 omega
theorem l2BentW_ev {b:List Int} (hb:Code_ b) (p:Int) (hp:0≤p) (hp1:p + 2000≤lim) :
 ∃ (z:List S31) (q:Int),Ev (fun k=>spec_l2Bent.f k b p) (z,q)∧p≤q∧q≤p + 2000∧Drawn_ 110 20000 z∧(okZ z=true→∃ n,∀ x ∈ z,x.f0.length=n):=by
 have hlim:lim=1000000000:=rfl
 obtain ⟨v,hv,v0,v1⟩:=pick_some hb p 3 hp (by omega) (by omega)
 obtain ⟨n,rfl⟩:=Int.eq_ofNat_of_zero_le v0
 obtain ⟨z,q,h1,h2,h3,h4,h5,h6⟩:=l2ZW_ev hb (p + 1) (1 + n) 6 (by omega) (by omega) (by omega) (by omega)
 have e1:wrap64 (1 + (n:Int))=((1 + n:Nat):Int):=by rw [w64 (by omega) (by omega)]; omega
 have wide:Drawn_ 110 20000 z:=⟨by have:=h4.len; omega,h4.row,fun x hx=>by have:=h4.w x hx; omega,h4.cell⟩
 have start : ∀ {z':List S31} {q':Int},Ev (fun k=>(if (z.length:Int)=0 then (some (z,q)) else ((spec_l12Rd_pick.f b q (z.length:Int)).bind fun t=>((spec_l12Rd_pick.f b t.2 40).bind fun u=>(if u.1=0 then ((spec_l12Rd_num.f b u.2 (([0,10000,10001,(-10000)]:List Int))).bind fun y=>(if 0≤t.1 then (if t.1 < (z.length:Int) then (some ((z.set (t.1:Int).toNat (⟨(rd_T31 z t.1).f0,y.1⟩:S31)),y.2)) else (none)) else (none))) else (if u.1=1 then (if 0≤t.1 then (if t.1 < (z.length:Int) then (some ((z.set (t.1:Int).toNat (⟨(([]:List Int)),(rd_T31 z t.1).f1⟩:S31)),u.2)) else (none)) else (none)) else (if u.1=2 then (if 0 < (z.length:Int) then (if z.length < 4398046511104 then (some ((z ++ [(⟨(rd_T31 z 0).f0,(rd_T31 z 0).f1⟩:S31)]),u.2)) else (none)) else (none)) else (if u.1=3 then (spec_l2Bent.l0 k z 0 b u.2) else (some (z,u.2)))))))))) (z',q')→Ev (fun k=>spec_l2Bent.f k b p) (z',q'):=by
  intro z' q' h
  unfold spec_l2Bent.f
  refine ev_eq hv ?_
  rw [e1]
  exact h1.bind h
 by_cases h0:(z.length:Int)=0
 ·exact ⟨z,q,start (ev_pos h0 (ev_now rfl)),by omega,by omega,wide,fun _=>⟨_,h6⟩⟩
 obtain ⟨t,ht,t0,t1⟩:=pick_some hb q z.length (by omega) (by omega) (by omega)
 obtain ⟨i,rfl⟩:=Int.eq_ofNat_of_zero_le t0
 obtain ⟨u,hu,u0,u1⟩:=pick_some hb (q + 1) 40 (by omega) (by omega) (by omega)
 have hil:i < z.length:=by omega
 by_cases c0:u=0
 ·obtain ⟨y,hy,hm⟩:=num_some hb (q + 1 + 1) [0,10000,10001,-10000] (by omega) (by omega) (by decide)
  have hy2 : -20000≤y∧y≤20000:=by simp at hm; omega
  refine ⟨_,_,start (ev_neg h0 (ev_eq ht (ev_eq hu (ev_pos c0 (ev_eq hy (ev_pos t0 (ev_pos t1 (ev_now rfl)))))))),by omega,by omega,set_drawn wide _ _ ?_ hy2 ?_,fun _=>⟨1 + n,fun x hx=>?_⟩⟩
  ·rw [rdI_at z i hil]; exact (show z[i].f0.length≤7 from wide.row _ (List.getElem_mem hil))
  ·rw [rdI_at z i hil]; exact wide.cell z[i] (List.getElem_mem hil)
  ·rcases List.mem_or_eq_of_mem_set hx with e | e
   ·exact h6 x e
   ·rw [e,rdI_at z i hil]; exact (show z[i].f0.length=1 + n from h6 _ (List.getElem_mem hil))
 by_cases c1:u=1
 ·refine ⟨_,_,start (ev_neg h0 (ev_eq ht (ev_eq hu (ev_neg c0 (ev_pos c1 (ev_pos t0 (ev_pos t1 (ev_now rfl)))))))),by omega,by omega,set_drawn wide _ _ (by simp) ?_ (by simp),fun hk=>?_⟩
  ·rw [rdI_at z i hil]; exact (show -20000≤z[i].f1∧z[i].f1≤20000 from wide.w _ (List.getElem_mem hil))
  ·have hm:(⟨[],(rd_T31 z (i:Int)).f1⟩:S31) ∈ z.set ((i:Int).toNat) (⟨[],(rd_T31 z (i:Int)).f1⟩:S31):=by
    rw [Int.toNat_natCast]
    exact List.mem_set hil _
   have:=((okZ_facts hk).2.2 _ hm).1
   exact absurd (show okRow ([]:List Int)=true from this) (by decide)
 by_cases c2:u=2
 ·have hl:=h4.len
  refine ⟨_,_,start (ev_neg h0 (ev_eq ht (ev_eq hu (ev_neg c0 (ev_neg c1 (ev_pos c2 (ev_pos (by omega) (ev_pos (by omega) (ev_now rfl))))))))),by omega,by omega,⟨by simp; omega,fun x hx=>?_,fun x hx=>?_,fun x hx=>?_⟩,fun _=>⟨1 + n,fun x hx=>?_⟩⟩
  ·rcases List.mem_append.1 hx with e | e
   ·exact wide.row x e
   ·simp at e; subst e; have:=rdI_at z 0 (by omega); rw [show ((0:Nat):Int)=0 from rfl] at this; dsimp only; rw [this]; exact wide.row _ (List.getElem_mem _)
  ·rcases List.mem_append.1 hx with e | e
   ·exact wide.w x e
   ·simp at e; subst e; have:=rdI_at z 0 (by omega); rw [show ((0:Nat):Int)=0 from rfl] at this; dsimp only; rw [this]; exact wide.w _ (List.getElem_mem _)
  ·rcases List.mem_append.1 hx with e | e
   ·exact wide.cell x e
   ·simp at e; subst e; have:=rdI_at z 0 (by omega); rw [show ((0:Nat):Int)=0 from rfl] at this; dsimp only; rw [this]; exact wide.cell _ (List.getElem_mem _)
  ·rcases List.mem_append.1 hx with e | e
   ·exact h6 x e
   ·simp at e; subst e; have:=rdI_at z 0 (by omega); rw [show ((0:Nat):Int)=0 from rfl] at this; dsimp only; rw [this]; exact h6 _ (List.getElem_mem _)
 by_cases c3:u=3
 ·obtain ⟨hz1,hz2⟩:=bentLoopW_ev b (q + 1 + 1) 101 0 6 z (by omega) (by omega) ⟨h4.len,h4.row,fun x hx=>by have:=h4.w x hx; omega,h4.cell⟩
  refine ⟨_,_,start (ev_neg h0 (ev_eq ht (ev_eq hu (ev_neg c0 (ev_neg c1 (ev_neg c2 (ev_pos c3 hz1))))))),by omega,by omega,⟨by have:=hz2.len; omega,hz2.row,hz2.w,hz2.cell⟩,fun hk=>?_⟩
  by_cases hn:1 + n=1
  ·exact ⟨1,addL_wide _ _ (fun x hx=>by rw [h6 x hx,hn]) (tens_wide _ _)⟩
  ·rw [bent_many h5 h6 hn (Nat.le_refl 101)] at hk
   cases hk
 ·exact ⟨z,_,start (ev_neg h0 (ev_eq ht (ev_eq hu (ev_neg c0 (ev_neg c1 (ev_neg c2 (ev_neg c3 (ev_now rfl)))))))),by omega,by omega,wide,fun _=>⟨_,h6⟩⟩
/-- all rows are as wide -/
def Even_ (z:List S31):Prop:=∃ n,∀ x ∈ z,x.f0.length=n
theorem l5Wide_ev {b:List Int} (hb:Code_ b) (p:Int) (hp:0≤p) (hp1:p + 3000≤lim) :
 ∃ (z:List S31) (wide:Nat) (q:Int),Ev (fun k=>spec_l5Wide.f k b p) (z,(wide:Int),q)∧p≤q∧q≤p + 3000∧Drawn_ 110 20000 z∧(okZ z=true→Even_ z)∧1≤wide∧wide≤3:=by
 have hlim:lim=1000000000:=rfl
 obtain ⟨v,hv,v0,v1⟩:=pick_some hb p 3 hp (by omega) (by omega)
 obtain ⟨n,rfl⟩:=Int.eq_ofNat_of_zero_le v0
 obtain ⟨u,hu,u0,u1⟩:=pick_some hb (p + 1) 20 (by omega) (by omega) (by omega)
 have e1:wrap64 (1 + (n:Int))=((1 + n:Nat):Int):=by rw [w64 (by omega) (by omega)]; omega
 by_cases h:u=0
 ·obtain ⟨z,q,h1,h2,h3,h4,h5⟩:=l2BentW_ev hb (p + 1 + 1) (by omega) (by omega)
  refine ⟨z,1 + n,q,?_,by omega,by omega,h4,h5,by omega,by omega⟩
  unfold spec_l5Wide.f
  refine ev_eq hv (ev_eq hu (ev_pos h (h1.bind (ev_now ?_))))
  rw [e1]
 ·obtain ⟨z,q,h1,h2,h3,h4,h5,h6⟩:=l2ZW_ev hb (p + 1 + 1) (1 + n) 7 (by omega) (by omega) (by omega) (by omega)
  refine ⟨z,1 + n,q,?_,by omega,by omega,⟨by have:=h4.len; omega,h4.row,fun x hx=>by have:=h4.w x hx; omega,h4.cell⟩,fun _=>⟨_,h6⟩,by omega,by omega⟩
  unfold spec_l5Wide.f
  refine ev_eq hv (ev_eq hu (ev_neg h ?_))
  rw [e1]
  exact h1.bind (ev_now rfl)
theorem drawJoinOf_ev (code:List Int) (hw : ∀ x ∈ code,(Lit.int .u8 x).wf=true) : ∃ (a b:List S31) (x y:Int),Ev (fun k=>spec_DrawJoinOf.f k code) (a,b,x,y)∧Drawn_ 110 20000 a∧Drawn_ 110 20000 b∧(okZ a=true→Even_ a)∧(okZ b=true→Even_ b):=by
 have hlim:lim=1000000000:=rfl
 obtain ⟨b,ho,hb⟩:=open_some code hw
 obtain ⟨z,n,q,h1,h2,h3,h4,h5,h6,h7⟩:=l5Wide_ev hb 0 (by omega) (by omega)
 obtain ⟨z',n',q',g1,g2,g3,g4,g5,g6,g7⟩:=l5Wide_ev hb q (by omega) (by omega)
 obtain ⟨v,hv,v0,v1⟩:=pick_some hb q' n (by omega) (by omega) (by omega)
 obtain ⟨u,hu,u0,u1⟩:=pick_some hb (q' + 1) 20 (by omega) (by omega) (by omega)
 obtain ⟨s,hs,s0,s1⟩:=pick_some hb (q' + 1 + 1) n' (by omega) (by omega) (by omega)
 obtain ⟨t,ht,t0,t1⟩:=pick_some hb (q' + 1 + 1 + 1) 20 (by omega) (by omega) (by omega)
 refine ⟨z,z',wrap64 (v + wrap64 (u.tdiv 19)),wrap64 (s - wrap64 (t.tdiv 19)),?_,h4,g4,h5,g5⟩
 unfold spec_DrawJoinOf.f
 exact ev_eq ho (h1.bind (g1.bind (ev_eq hv (ev_eq hu (ev_eq hs (ev_eq ht (ev_now rfl)))))))
theorem clone_some (l:List Int) (h:l.length≤1048576):slices_Clone_int_int.f l=some l:=by unfold slices_Clone_int_int.f; rw [if_pos (by omega)]
theorem copyItems_ev (z:List S31) (hs:Small z):Ev (fun k=>impl_copyItems.f k z) z:=by
 have hz:=hs.len
 have h:=ev_down (fun k i=>impl_copyItems.l0 k (z.take i) z (z.length:Int) (i:Int)) (fun _=>z) z.length ?_ ?_ 0 (by omega)
 ·simpa [impl_copyItems.f] using h
 ·exact Ev.step (fun k=>impl_copyItems.l0.eq_2 ..) (ev_neg (by omega) (ev_now (by rw [List.take_length])))
 ·intro i hi ih
  have hr:=hs.row _ (List.getElem_mem hi)
  refine Ev.step (fun k=>impl_copyItems.l0.eq_2 ..) (ev_pos (by omega) (ev_pos (by omega) (ev_pos (by omega) ?_)))
  rw [rdI_at z i hi]
  refine ev_eq (clone_some _ hr) (ev_pos (by simp; omega) ?_)
  rw [w64n (by omega)]
  rw [List.take_succ_eq_append_getElem hi] at ih
  exact ih
theorem implCell (n:Int):impl_isCell.f n=some (cellB n):=by
 unfold impl_isCell.f cellB
 by_cases h:n≥-1000000000
 ·rw [if_pos h]; simp; omega
 ·rw [if_neg h]; simp; omega
theorem implIndex_ev (r:List Int) (hr:r.length < 4611686018427387904) : ∃ j:Int,Ev (fun k=>slices_IndexFunc_int_int__impl_RowOk_1.f k r) j∧(decide (j≥0) = !r.all cellB):=by
 have h : ∀ i,i≤r.length→∃ j:Int,Ev (fun k=>slices_IndexFunc_int_int__impl_RowOk_1.l0 k r (r.length:Int) (i:Int)) j∧(decide (j≥0) = !(r.drop i).all cellB):=by
  have go : ∀ d i,i + d=r.length→∃ j:Int,Ev (fun k=>slices_IndexFunc_int_int__impl_RowOk_1.l0 k r (r.length:Int) (i:Int)) j∧(decide (j≥0) = !(r.drop i).all cellB):=by
   intro d
   induction d with
   | zero =>
    intro i h
    refine ⟨-1,Ev.step (fun k=>slices_IndexFunc_int_int__impl_RowOk_1.l0.eq_2 ..) (ev_neg (by omega) (ev_now rfl)),?_⟩
    rw [drop_end r i (by omega)]; rfl
   | succ d ih =>
    intro i h
    obtain ⟨j,hj,hk⟩:=ih (i + 1) (by omega)
    have e1:impl_RowOk_1.f (rd r i)=some (!cellB (rd r i)):=by unfold impl_RowOk_1.f; rw [implCell]; rfl
    rw [drop_rd r i (by omega),List.all_cons]
    cases hc:cellB (rd r i) with
    | true =>
     refine ⟨j,Ev.step (fun k=>slices_IndexFunc_int_int__impl_RowOk_1.l0.eq_2 ..) (ev_pos (by omega) (ev_pos (by omega) (ev_pos (by omega) (ev_eq e1 (ev_neg (by rw [hc]; decide) ?_))))),by simpa using hk⟩
     rw [w64n (by omega)]
     exact hj
    | false =>
     refine ⟨(i:Int),Ev.step (fun k=>slices_IndexFunc_int_int__impl_RowOk_1.l0.eq_2 ..) (ev_pos (by omega) (ev_pos (by omega) (ev_pos (by omega) (ev_eq e1 (ev_pos (by rw [hc]; rfl) (ev_now rfl)))))),?_⟩
     simp
  exact fun i hi=>go (r.length - i) i (by omega)
 obtain ⟨j,hj,hk⟩:=h 0 (by omega)
 exact ⟨j,by simpa [slices_IndexFunc_int_int__impl_RowOk_1.f] using hj,by simpa using hk⟩
theorem implRowOk_ev (r:List Int) (hr:r.length < 4611686018427387904):Ev (fun k=>impl_RowOk.f k r) (okRow r):=by
 obtain ⟨j,hj,hk⟩:=implIndex_ev r hr
 have hc:Ev (fun k=>slices_ContainsFunc_int_int__impl_RowOk_1.f k r) (!r.all cellB):=by
  unfold slices_ContainsFunc_int_int__impl_RowOk_1.f
  exact hj.bind (ev_now hk)
 unfold impl_RowOk.f okRow
 by_cases h1:1≤r.length
 ·refine ev_pos (by omega) ?_
  by_cases h2:r.length≤6
  ·exact ev_pos (by omega) (hc.bind (ev_now (by simp [h1,h2])))
  ·exact ev_neg (by omega) (ev_now (by simp [h2]))
 ·exact ev_neg (by omega) (ev_now (by simp [h1]))
theorem cmpInt (a b:Int):cmp_Compare_int.f a b=some (if a < b then -1 else if b < a then 1 else 0):=by
 unfold cmp_Compare_int.f cmp_isNaN_int.f
 simp only [bne_self_eq_false,Option.bind_some,Bool.false_eq_true,if_false]
 by_cases h1:a < b
 ·rw [if_pos h1,if_pos h1]
 ·rw [if_neg h1,if_neg h1]
  by_cases h2:b < a
  ·rw [if_pos h2,if_pos h2]
  ·rw [if_neg h2,if_neg h2]
theorem compare_ev (a b:List Int) (ha:a.length < 4611686018427387904):Ev (fun k=>slices_Compare_int_int.f k a b) (lexc a b):=by
 unfold slices_Compare_int_int.f
 have h:=ev_down (fun k i=>slices_Compare_int_int.l0 k a b a (a.length:Int) (i:Int)) (fun i=>lexc (a.drop i) (b.drop i)) (min a.length b.length) ?_ ?_ 0 (by omega)
 ·simpa using h
 ·by_cases hb:a.length≤b.length
  ·rw [Nat.min_eq_left hb]
   refine Ev.step (fun k=>slices_Compare_int_int.l0.eq_2 ..) (ev_neg (by omega) ?_)
   rw [drop_end a _ (Nat.le_refl _)]
   by_cases h1:a.length < b.length
   ·refine ev_pos (by omega) (ev_now ?_)
    rw [drop_rd b _ h1]; rfl
   ·refine ev_neg (by omega) (ev_now ?_)
    rw [drop_end b _ (by omega)]; rfl
  ·rw [Nat.min_eq_right (by omega)]
   refine Ev.step (fun k=>slices_Compare_int_int.l0.eq_2 ..) (ev_pos (by omega) (ev_pos (by omega) (ev_pos (by omega) (ev_pos (by omega) (ev_now ?_)))))
   rw [drop_end b _ (Nat.le_refl _),drop_rd a _ (by omega)]; rfl
 ·intro i hi ih
  have h1:i < a.length:=by omega
  have h2:i < b.length:=by omega
  refine Ev.step (fun k=>slices_Compare_int_int.l0.eq_2 ..) (ev_pos (by omega) (ev_pos (by omega) (ev_pos (by omega) (ev_neg (by omega) (ev_pos (by omega) (ev_eq (cmpInt _ _) ?_))))))
  rw [drop_rd a i h1,drop_rd b i h2]
  simp only [lexc]
  by_cases c1:rd a i < rd b i
  ·rw [if_pos c1]
   exact ev_neg (by decide) (ev_now (by rw [if_pos c1]))
  ·rw [if_neg c1,if_neg c1]
   by_cases c2:rd b i < rd a i
   ·rw [if_pos c2]
    exact ev_neg (by decide) (ev_now (by rw [if_pos c2]))
   ·rw [if_neg c2,if_neg c2]
    refine ev_pos rfl ?_
    rw [w64n (by omega)]
    exact ih
theorem implLess_ev (a b:List Int) (ha:a.length < 4611686018427387904):Ev (fun k=>impl_RowLess.f k a b) (decide (lexc a b < 0)):=by
 unfold impl_RowLess.f
 exact (compare_ev a b ha).bind (ev_now rfl)
theorem implZOk_ev (z:List S31) (hs:Small z):Ev (fun k=>impl_ZOk.f k z) (okZ z):=by
 have hz:=hs.len
 unfold impl_ZOk.f okZ
 by_cases hl:(z.length:Int) > 100
 ·exact ev_pos hl (ev_now (by rw [decide_eq_false (by omega)]; rfl))
 refine ev_neg hl ?_
 rw [decide_eq_true (by omega:z.length≤100),Bool.true_and]
 have h:=ev_down (fun k i=>impl_ZOk.l0 k z z (z.length:Int) (i:Int)) (fun i=>chain (ahead z i) (z.drop i)) z.length ?_ ?_ 0 (by omega)
 ·simpa [ahead] using h
 ·refine Ev.step (fun k=>impl_ZOk.l0.eq_2 ..) (ev_neg (by omega) (ev_now ?_))
  rw [drop_end z _ (Nat.le_refl _),chain_nil]
 ·intro i hi ih
  have hr:=hs.row _ (List.getElem_mem hi)
  refine Ev.step (fun k=>impl_ZOk.l0.eq_2 ..) (ev_pos (by omega) (ev_pos (by omega) (ev_pos (by omega) ?_)))
  rw [rdI_at z i hi,drop_at z i hi,chain_cons]
  refine (implRowOk_ev z[i].f0 (by omega)).bind ?_
  cases hok:okRow z[i].f0 with
  | false=>exact ev_neg (by simp) (ev_now (by simp))
  | true =>
   refine ev_pos rfl ?_
   by_cases w1:z[i].f1 < -10000
   ·exact ev_pos w1 (ev_now (by unfold okW; simp; omega))
   refine ev_neg w1 ?_
   by_cases w2:z[i].f1 > 10000
   ·exact ev_pos w2 (ev_now (by unfold okW; simp; omega))
   refine ev_neg w2 ?_
   by_cases w3:z[i].f1=0
   ·exact ev_pos w3 (ev_now (by unfold okW; simp [w3]))
   refine ev_neg w3 ?_
   have hw:okW z[i].f1=true:=by unfold okW; simp [w3]; omega
   rw [hw]
   rw [w64n (by omega)]
   rw [ahead_succ z i hi] at ih
   by_cases h0:(i:Int) > 0
   ·have hi1:i - 1 < z.length:=by omega
    have e:wrap64 ((i:Int) - 1)=((i - 1:Nat):Int):=by rw [w64 (by omega) (by omega)]; omega
    have ha:ahead z i=some z[i - 1].f0:=by unfold ahead; rw [if_neg (by omega),List.getElem?_eq_getElem hi1]; rfl
    have hr1:=hs.row _ (List.getElem_mem hi1)
    rw [e]
    refine ev_pos h0 (ev_pos (by omega) (ev_pos (by omega) ?_))
    rw [rdI_at z (i - 1) hi1,ha]
    refine (implLess_ev z[i - 1].f0 z[i].f0 (by omega)).bind ?_
    by_cases hl:lexc z[i - 1].f0 z[i].f0 < 0
    ·refine ev_pos (decide_eq_true hl) ?_
     simpa [hl] using ih
    ·exact ev_neg (by simpa using hl) (ev_now (by simp [hl]))
   ·have ha:ahead z i=none:=by unfold ahead; rw [if_pos (by omega)]
    rw [ha]
    refine ev_neg h0 ?_
    simpa using ih
theorem told_ev (z:List S31) (hs:Small z):Ev (fun k=>impl_told.f k z) (if okZ z=true then (z,true) else ([],false)):=by
 unfold impl_told.f
 refine (implZOk_ev z hs).bind ?_
 by_cases h:okZ z=true
 ·rw [if_pos h]
  exact ev_pos h ((copyItems_ev z hs).bind (ev_now rfl))
 ·rw [if_neg h]
  exact ev_neg h (ev_now rfl)
theorem specRowOk_ev (r:List Int) (hr:r.length < 4611686018427387904):Ev (fun k=>spec_RowOk.f k r) (okRow r):=by
 have h:=ev_down (fun k i=>spec_RowOk.l0 k r (i:Int)) (fun i=>(decide (1≤r.length) && decide (r.length≤6)) && (r.drop i).all cellB) r.length ?_ ?_ 0 (by omega)
 ·simpa [spec_RowOk.f,okRow] using h
 ·refine Ev.step (fun k=>spec_RowOk.l0.eq_2 ..) (ev_neg (by omega) ?_)
  rw [drop_end r _ (Nat.le_refl _)]
  by_cases h:1≤r.length
  ·exact ev_pos (by omega) (ev_now (by simp [h]; omega))
  ·exact ev_neg (by omega) (ev_now (by simp [h]))
 ·intro i hi ih
  refine Ev.step (fun k=>spec_RowOk.l0.eq_2 ..) (ev_pos (by omega) (ev_pos (by omega) (ev_eq (specCell _) ?_)))
  rw [drop_rd r i hi,List.all_cons]
  cases hc:cellB (rd r i) with
  | true =>
   refine ev_pos rfl ?_
   rw [w64n (by omega),Bool.true_and]
   exact ih
  | false=>exact ev_neg (by decide) (ev_now (by simp))
theorem specW (w:Int):spec_l2W.f w=some (okW w):=by
 unfold spec_l2W.f okW
 by_cases h:w=0
 ·rw [if_pos h]; simp [h]
 ·rw [if_neg h]
  by_cases h1:w≥-10000
  ·rw [if_pos h1]; simp [h]; omega
  ·rw [if_neg h1]; simp; omega
theorem specZOk_ev (z:List S31) (hs:Small z):Ev (fun k=>spec_ZOk.f k z) (okZ z):=by
 have hz:=hs.len
 unfold spec_ZOk.f okZ
 by_cases hl:(z.length:Int) > 100
 ·exact ev_pos hl (ev_now (by rw [decide_eq_false (by omega)]; rfl))
 refine ev_neg hl ?_
 rw [decide_eq_true (by omega:z.length≤100),Bool.true_and]
 have h:=ev_down (fun k i=>spec_ZOk.l0 k z (i:Int)) (fun i=>chain (ahead z i) (z.drop i)) z.length ?_ ?_ 0 (by omega)
 ·simpa [ahead] using h
 ·refine Ev.step (fun k=>spec_ZOk.l0.eq_2 ..) (ev_neg (by omega) (ev_now ?_))
  rw [drop_end z _ (Nat.le_refl _),chain_nil]
 ·intro i hi ih
  have hr:=hs.row _ (List.getElem_mem hi)
  refine Ev.step (fun k=>spec_ZOk.l0.eq_2 ..) (ev_pos (by omega) (ev_pos (by omega) ?_))
  rw [rdI_at z i hi,drop_at z i hi,chain_cons]
  refine (specRowOk_ev z[i].f0 (by omega)).bind ?_
  cases hok:okRow z[i].f0 with
  | false=>exact ev_neg (by simp) (ev_now (by simp))
  | true =>
   refine ev_pos rfl (ev_eq (specW _) ?_)
   cases hw:okW z[i].f1 with
   | false=>exact ev_neg (by simp) (ev_now (by simp))
   | true =>
    refine ev_pos rfl ?_
    rw [w64n (by omega)]
    rw [ahead_succ z i hi] at ih
    by_cases h0:(i:Int) > 0
    ·have hi1:i - 1 < z.length:=by omega
     have e:wrap64 ((i:Int) - 1)=((i - 1:Nat):Int):=by rw [w64 (by omega) (by omega)]; omega
     have ha:ahead z i=some z[i - 1].f0:=by unfold ahead; rw [if_neg (by omega),List.getElem?_eq_getElem hi1]; rfl
     have hr1:=hs.row _ (List.getElem_mem hi1)
     rw [e]
     refine ev_pos h0 (ev_pos (by omega) (ev_pos (by omega) ?_))
     rw [rdI_at z (i - 1) hi1,ha]
     refine (specLess_ev z[i - 1].f0 z[i].f0 (by omega) (by omega)).bind ?_
     by_cases hl:lexc z[i - 1].f0 z[i].f0 < 0
     ·refine ev_pos (decide_eq_true hl) ?_
      simpa [hl] using ih
     ·exact ev_neg (by simpa using hl) (ev_now (by simp [hl]))
    ·have ha:ahead z i=none:=by unfold ahead; rw [if_pos (by omega)]
     rw [ha]
     refine ev_neg h0 ?_
     simpa using ih
theorem specTold_ev (z:List S31) (hs:Small z):Ev (fun k=>spec_l2Told.f k z) (if okZ z=true then (z,true) else ([],false)):=by
 unfold spec_l2Told.f
 refine (specZOk_ev z hs).bind ?_
 by_cases h:okZ z=true
 ·rw [if_pos h,if_pos h]
  exact ev_now rfl
 ·rw [if_neg h,if_neg h]
  exact ev_now rfl
theorem putL_wb (r:List Int) (w B C:Int) (hw : -C≤w∧w≤C) (hB:0≤B) (hC:0≤C) : ∀ z:List S31,(∀ x ∈ z,-B≤x.f1∧x.f1≤B)→∀ y ∈ putL r w z,-(B + C)≤y.f1∧y.f1≤B + C:=by
 intro z
 induction z with
 | nil =>
  intro _ y hy
  unfold putL at hy
  split at hy
  ·cases hy
  ·rw [List.mem_singleton.1 hy]; dsimp only; omega
 | cons x z ih =>
  intro h y hy
  have hx:=h x List.mem_cons_self
  have hz : ∀ u ∈ z,-B≤u.f1∧u.f1≤B:=fun u hu=>h u (List.mem_cons_of_mem _ hu)
  have old:y ∈ x :: z→-(B + C)≤y.f1∧y.f1≤B + C:=fun hy=>by have:=h y hy; omega
  unfold putL at hy
  split at hy
  ·rcases List.mem_cons.1 hy with e | e
   ·rw [e]; omega
   ·exact ih hz y e
  ·split at hy
   ·split at hy
    ·exact old (List.mem_cons_of_mem _ hy)
    ·rcases List.mem_cons.1 hy with e | e
     ·rw [e]; dsimp only; omega
     ·exact old (List.mem_cons_of_mem _ e)
   ·split at hy
    ·exact old hy
    ·rcases List.mem_cons.1 hy with e | e
     ·rw [e]; dsimp only; omega
     ·exact old e
theorem implJoin_ev (a b:List Int) (h:a.length + b.length < 17592186044416):Ev (fun k=>impl_RowJoin.f k a b) (a ++ b):=by
 have r0:rd_L2 [a,b] 0=a:=rfl
 have r1:rd_L2 [a,b] 1=b:=rfl
 have w1:wrap64 (0 + (a.length:Int))=a.length:=by rw [w64 (by omega) (by omega)]; omega
 have w2:wrap64 ((a.length:Int) + b.length)=a.length + b.length:=w64 (by omega) (by omega)
 have c1:wrap64 (0 + 1)=1:=w64 (by omega) (by omega)
 have c2:wrap64 (1 + 1)=2:=w64 (by omega) (by omega)
 have main:Ev (fun k=>slices_Concat_int_int.f k [a,b]) (a ++ b):=by
  unfold slices_Concat_int_int.f
  refine Ev.step (fun k=>slices_Concat_int_int.l0.eq_2 ..) (ev_pos (by simp) (ev_pos (by omega) (ev_pos (by simp) ?_)))
  rw [r0,w1,c1]
  refine ev_neg (by omega) (Ev.step (fun k=>slices_Concat_int_int.l0.eq_2 ..) (ev_pos (by simp) (ev_pos (by omega) (ev_pos (by simp) ?_))))
  rw [r1,w2,c2]
  have g:slices_Grow_int_int__nil.f ((a.length:Int) + b.length)=some []:=by
   unfold slices_Grow_int_int__nil.f
   rw [if_pos (by omega),if_pos (by omega)]
  refine ev_neg (by omega) (Ev.step (fun k=>slices_Concat_int_int.l0.eq_2 ..) (ev_neg (by simp) (ev_eq g ?_)))
  refine Ev.step (fun k=>slices_Concat_int_int.l1.eq_2 ..) (ev_pos (by simp) (ev_pos (by omega) (ev_pos (by simp) ?_)))
  rw [r0,c1]
  refine ev_pos (by simp; omega) (Ev.step (fun k=>slices_Concat_int_int.l1.eq_2 ..) (ev_pos (by simp) (ev_pos (by omega) (ev_pos (by simp) ?_))))
  rw [r1,c2]
  exact ev_pos (by simp; omega) (Ev.step (fun k=>slices_Concat_int_int.l1.eq_2 ..) (ev_neg (by simp) (ev_now (by simp))))
 unfold impl_RowJoin.f
 exact main.bind (ev_now rfl)
theorem specJoin (a b:List Int) (h:a.length + b.length < 17592186044416):spec_RowJoin.f a b=some (a ++ b):=by
 unfold spec_RowJoin.f
 rw [specCopy a (by omega)]
 simp only [Option.bind_some]
 rw [if_pos h]
theorem dv_of (d:Nat) (h:d < 10):Lib.digitVal (UInt8.ofNat (48 + d))=some d:=by
 rcases d with _ | _ | _ | _ | _ | _ | _ | _ | _ | _ | d
 all_goals first | rfl | omega
theorem decFrom_snoc (l:List UInt8) (c:UInt8) : ∀ acc,Lib.decFrom acc (l ++ [c])=(Lib.decFrom acc l).bind fun m=>(Lib.digitVal c).map fun d=>m * 10 + d:=by
 induction l with
 | nil =>
  intro acc
  simp only [List.nil_append,Lib.decFrom,Option.bind_some]
  cases Lib.digitVal c <;> rfl
 | cons b l ih =>
  intro acc
  simp only [List.cons_append,Lib.decFrom]
  cases Lib.digitVal b with
  | none=>rfl
  | some e=>exact ih _
theorem dig_lt {u:Nat} (h:u < 10):Lib.decDigits u = [UInt8.ofNat (48 + u)]:=by rw [Lib.decDigits,dif_pos h]
theorem dig_ge {u:Nat} (h : ¬ u < 10):Lib.decDigits u=Lib.decDigits (u / 10) ++ [UInt8.ofNat (48 + u % 10)]:=by rw [Lib.decDigits,dif_neg h]
theorem decFrom_dig (u:Nat):Lib.decFrom 0 (Lib.decDigits u)=some u:=by
 induction u using Nat.strongRecOn with
 | ind u ih =>
  by_cases h:u < 10
  ·rw [dig_lt h]
   simp only [Lib.decFrom,dv_of u h]
   simp
  ·rw [dig_ge h,decFrom_snoc,ih (u / 10) (by omega),dv_of (u % 10) (by omega)]
   simp only [Option.bind_some,Option.map_some]
   congr 1
   omega
theorem dig_len (k u:Nat) (h:u < 10 ^ (k + 1)):(Lib.decDigits u).length≤k + 1:=by
 induction k generalizing u with
 | zero=>rw [dig_lt (by simpa using h)]; simp
 | succ k ih =>
  by_cases h1:u < 10
  ·rw [dig_lt h1]; simp
  ·rw [dig_ge h1,List.length_append,List.length_singleton]
   have:=ih (u / 10) (by rw [Nat.pow_succ] at h; omega)
   omega
theorem dig_head (u:Nat) : ∃ c l,Lib.decDigits u=c :: l∧48≤c.toNat∧c.toNat≤57∧(0 < u→c≠48):=by
 induction u using Nat.strongRecOn with
 | ind u ih =>
  by_cases h:u < 10
  ·rw [dig_lt h]
   refine ⟨_,_,rfl,?_⟩
   rcases u with _ | _ | _ | _ | _ | _ | _ | _ | _ | _ | u
   all_goals first | (exfalso; omega) | decide
  ·obtain ⟨c,l,h1,h2,h3,h4⟩:=ih (u / 10) (by omega)
   rw [dig_ge h,h1]
   exact ⟨c,l ++ [UInt8.ofNat (48 + u % 10)],rfl,h2,h3,fun _=>h4 (by omega)⟩
/-- what the reference reads as a number -/
def numM (neg:Bool) (d:List UInt8):Int × Bool:=match Lib.decFrom 0 d with | some m=>(if neg=true then -(m:Int) else (m:Int),true) | none=>(0,false)
def numF (l:List UInt8):Int × Bool :=
 if l.head?=some 45 then (if l.tail = []∨17 < l.tail.length∨l.tail.head?=some 48 then (0,false) else numM true l.tail)
 else (if l = []∨17 < l.length∨(l.head?=some 48∧1 < l.length) then (0,false) else numM false l)
theorem numF_itoa {n:Int} (h0 : -100000000000000000 < n) (h1:n < 100000000000000000):numF (Lib.itoa n)=(n,true):=by
 unfold Lib.itoa
 by_cases hn:n < 0
 ·rw [if_pos hn]
  obtain ⟨c,l,e,h2,h3,h4⟩:=dig_head n.natAbs
  have hl:=dig_len 16 n.natAbs (by
   have:(10:Nat) ^ (16 + 1)=100000000000000000:=by decide
   omega)
  unfold numF
  rw [if_pos (show (45 :: Lib.decDigits n.natAbs).head?=some 45 from rfl),if_neg]
  ·unfold numM
   show (match Lib.decFrom 0 (Lib.decDigits n.natAbs) with | some m=>(if true=true then -(m:Int) else (m:Int),true) | none=>(0,false))=_
   rw [decFrom_dig]
   simp only [if_true]
   congr 1
   omega
  ·rintro (hc | hc | hc)
   ·rw [List.tail_cons,e] at hc; cases hc
   ·rw [List.tail_cons] at hc; omega
   ·rw [List.tail_cons,e] at hc
    exact h4 (by omega) (by simpa using hc)
 ·rw [if_neg hn]
  obtain ⟨c,l,e,h2,h3,h4⟩:=dig_head n.toNat
  have hl:=dig_len 16 n.toNat (by
   have:(10:Nat) ^ (16 + 1)=100000000000000000:=by decide
   omega)
  have hc45:c≠45:=by rintro rfl; revert h2; decide
  unfold numF
  rw [if_neg (by rw [e]; simpa using hc45),if_neg]
  ·unfold numM
   rw [decFrom_dig]
   simp only [Bool.false_eq_true,if_false]
   congr 1
   omega
  ·rintro (hc | hc | ⟨hc,hc2⟩)
   ·rw [e] at hc; cases hc
   ·omega
   ·by_cases hz:0 < n.toNat
    ·rw [e] at hc
     exact h4 hz (by simpa using hc)
    ·rw [show n.toNat=0 by omega,dig_lt (by decide)] at hc2
     simp at hc2
/-- the pieces of a text between bytes c -/
def cutG (c:UInt8):List UInt8→List UInt8→List (List UInt8)
 | cur,[]=>[cur]
 | cur,x :: l=>if x=c then cur :: cutG c [] l else cutG c (cur ++ [x]) l
theorem cutG_skip (c:UInt8) : ∀ (m l cur:List UInt8),(∀ x ∈ m,x≠c)→cutG c cur (m ++ l)=cutG c (cur ++ m) l:=by
 intro m
 induction m with
 | nil=>intro l cur _; simp
 | cons x m ih =>
  intro l cur h
  rw [List.cons_append,cutG,if_neg (h x List.mem_cons_self),ih _ _ (fun y hy=>h y (List.mem_cons_of_mem _ hy)),List.append_assoc]
  rfl
theorem dig_bytes (u:Nat) : ∀ c ∈ Lib.decDigits u,48≤c.toNat∧c.toNat≤57:=by
 induction u using Nat.strongRecOn with
 | ind u ih =>
  have one : ∀ d,d < 10→48≤(UInt8.ofNat (48 + d)).toNat∧(UInt8.ofNat (48 + d)).toNat≤57:=by
   intro d hd
   rw [UInt8.toNat_ofNat']
   omega
  intro c hc
  by_cases h:u < 10
  ·rw [dig_lt h,List.mem_singleton] at hc
   rw [hc]
   exact one u h
  ·rw [dig_ge h,List.mem_append,List.mem_singleton] at hc
   rcases hc with hc | hc
   ·exact ih (u / 10) (by omega) c hc
   ·rw [hc]
    exact one _ (by omega)
theorem itoa_bytes (n:Int) : ∀ c ∈ Lib.itoa n,c.toNat=45∨(48≤c.toNat∧c.toNat≤57):=by
 intro c hc
 unfold Lib.itoa at hc
 split at hc
 ·rcases List.mem_cons.1 hc with rfl | hc
  ·exact .inl rfl
  ·exact .inr (dig_bytes _ c hc)
 ·exact .inr (dig_bytes _ c hc)
theorem itoa_no (n:Int) (b:UInt8) (hb:b.toNat < 45) : ∀ c ∈ Lib.itoa n,c≠b:=by
 intro c hc e
 have:=itoa_bytes n c hc
 rw [e] at this
 omega
theorem cut_row : ∀ (l:List Int) (x:Int),cutG 44 [] (rowB (x :: l))=(x :: l).map Lib.itoa:=by
 intro l
 induction l with
 | nil =>
  intro x
  rw [rowB,show tailB [] = [] from rfl,cutG_skip 44 _ _ _ (itoa_no x 44 (by decide))]
  rfl
 | cons y l ih =>
  intro x
  rw [rowB,show tailB (y :: l)=44 :: rowB (y :: l) by simp [tailB,rowB],cutG_skip 44 _ _ _ (itoa_no x 44 (by decide)),List.nil_append,cutG,if_pos rfl,ih y]
  rfl
/-- pieces read as numbers -/
def numsF:List (List UInt8)→Option (List Int)
 | []=>some []
 | p :: ps=>if (numF p).2=true then (numsF ps).map ((numF p).1 :: ·) else none
theorem numsF_itoa : ∀ (rs:List Int),(∀ x ∈ rs,-100000000000000000 < x∧x < 100000000000000000)→numsF (rs.map Lib.itoa)=some rs:=by
 intro rs
 induction rs with
 | nil=>intro _; rfl
 | cons x rs ih =>
  intro h
  have hx:=h x List.mem_cons_self
  rw [List.map_cons,numsF,numF_itoa hx.1 hx.2,if_pos rfl,ih (fun y hy=>h y (List.mem_cons_of_mem _ hy))]
  rfl
theorem okRow_mem {r:List Int} (h:okRow r=true):1≤r.length∧r.length≤6∧∀ x ∈ r,-1000000000≤x∧x≤1000000000:=by
 unfold okRow at h
 simp only [Bool.and_eq_true,decide_eq_true_eq,List.all_eq_true] at h
 exact ⟨h.1.1,h.1.2,fun x hx=>by have:=h.2 x hx; unfold cellB at this; simpa using this⟩
theorem hp_lexc : ∀ a b:List Int,Hp.lexc a b=lexc a b:=by
 intro a
 induction a with
 | nil=>intro b; cases b <;> rfl
 | cons x a ih =>
  intro b
  cases b with
  | nil=>rfl
  | cons y b=>simp only [Hp.lexc,lexc,ih]
theorem hp_putL (r:List Int) (w:Int) : ∀ z:List S31,Hp.putL r w z=putL r w z:=by
 intro z
 induction z with
 | nil=>rfl
 | cons x z ih=>simp only [Hp.putL,putL,ih,hp_lexc]
theorem hp_addL : ∀ (b a:List S31),Hp.addL a b=addL a b:=by
 intro b
 induction b with
 | nil=>intro a; rfl
 | cons x b ih =>
  intro a
  show Hp.addL (Hp.putL x.f0 x.f1 a) b=addL (putL x.f0 x.f1 a) b
  rw [ih,hp_putL]
theorem addL_app (a b c:List S31):addL a (b ++ c)=addL (addL a b) c:=by unfold addL; rw [List.foldl_append]
theorem addL_rows : ∀ (b a:List S31) (n:Nat),(∀ x ∈ a,x.f0.length≤n)→(∀ x ∈ b,x.f0.length≤n)→∀ y ∈ addL a b,y.f0.length≤n:=by
 intro b
 induction b with
 | nil=>intro a n ha _; exact ha
 | cons x b ih =>
  intro a n ha hb
  refine ih _ n (fun y hy=>?_) (fun y hy=>hb y (List.mem_cons_of_mem _ hy))
  rcases putL_rows x.f0 x.f1 a y hy with h | ⟨u,hu,h⟩
  ·rw [h]; exact hb x List.mem_cons_self
  ·rw [← h]; exact ha u hu
theorem addL_len : ∀ (b a:List S31),(addL a b).length≤a.length + b.length:=by
 intro b
 induction b with
 | nil=>intro a; exact Nat.le_refl _
 | cons x b ih =>
  intro a
  have h1:=ih (putL x.f0 x.f1 a)
  have h2:=putL_len x.f0 x.f1 a
  show (addL (putL x.f0 x.f1 a) b).length≤_
  rw [List.length_cons]
  omega
theorem rowB_inj {r s:List Int} (hr : ∀ x ∈ r,-100000000000000000 < x∧x < 100000000000000000) (hs : ∀ x ∈ s,-100000000000000000 < x∧x < 100000000000000000) (h0:r≠[]) (h1:s≠[]) (h:rowB r=rowB s):r=s:=by
 cases r with
 | nil=>exact absurd rfl h0
 | cons x r =>
  cases s with
  | nil=>exact absurd rfl h1
  | cons y s =>
   have e1:=cut_row r x
   have e2:=cut_row s y
   rw [h,e2] at e1
   have e3:=numsF_itoa _ hr
   have e4:=numsF_itoa _ hs
   rw [← e1,e4] at e3
   injection e3 with e3
   exact e3.symm
/-- of finitely many, all from some number of rounds on -/
theorem all_ev {α:Type} {P:α→Nat→Prop} : ∀ l:List α,(∀ x ∈ l,∃ K,∀ k,K≤k→P x k)→∃ K,∀ k,K≤k→∀ x ∈ l,P x k:=by
 intro l
 induction l with
 | nil=>intro _; exact ⟨0,fun _ _ x hx=>by cases hx⟩
 | cons a l ih =>
  intro h
  obtain ⟨K1,h1⟩:=h a List.mem_cons_self
  obtain ⟨K2,h2⟩:=ih (fun x hx=>h x (List.mem_cons_of_mem _ hx))
  refine ⟨max K1 K2,fun k hk x hx=>?_⟩
  rcases List.mem_cons.1 hx with e | e
  ·rw [e]; exact h1 k (by omega)
  ·exact h2 k (by omega) x e
/-- what is right for a join: few items, short rows, small cells and weights -/
structure Jn (a:List S31):Prop where
 len:a.length≤100
 row : ∀ p ∈ a,1≤p.f0.length∧p.f0.length≤6
 cell : ∀ p ∈ a,∀ c ∈ p.f0,-1000000000≤c∧c≤1000000000
 w : ∀ p ∈ a,-10000≤p.f1∧p.f1≤10000
theorem okZ_jn {a:List S31} (h:okZ a=true):Jn a where
 len:=(okZ_facts h).1
 row p hp:=by have:=okRow_mem ((okZ_facts h).2.2 p hp).1; exact ⟨this.1,this.2.1⟩
 cell p hp:=(okRow_mem ((okZ_facts h).2.2 p hp).1).2.2
 w p hp:=by have:=okZ_w h p hp; exact ⟨this.1,this.2.1⟩
theorem fineJ_ev {a b:List S31} (ha:Jn a) (hb:Jn b) : ∃ K,∀ k,K≤k→fineJ k a b:=by
 have cells : ∀ p ∈ a,∀ q ∈ b,∀ c ∈ p.f0 ++ q.f0,-100000000000000000 < c∧c < 100000000000000000:=by
  intro p hp q hq c hc
  rcases List.mem_append.1 hc with h | h
  ·have:=ha.cell p hp c h; omega
  ·have:=hb.cell q hq c h; omega
 have ne : ∀ p ∈ a,∀ q ∈ b,p.f0 ++ q.f0≠[]:=by
  intro p hp q hq e
  have h1:=congrArg List.length e
  have h2:=(ha.row p hp).1
  rw [List.length_append,List.length_nil] at h1
  omega
 obtain ⟨K1,h1⟩:=all_ev (P:=fun p k=>∀ q ∈ b,impl_RowJoin.f k p.f0 q.f0=some (p.f0 ++ q.f0)) a (fun p hp=>all_ev (P:=fun q k=>impl_RowJoin.f k p.f0 q.f0=some (p.f0 ++ q.f0)) b (fun q hq=>by
  have hl:p.f0.length + q.f0.length < 17592186044416:=by have:=(ha.row p hp).2; have:=(hb.row q hq).2; omega
  exact implJoin_ev p.f0 q.f0 hl))
 obtain ⟨K2,h2⟩:=all_ev (P:=fun p k=>∀ q ∈ b,∀ p' ∈ a,∀ q' ∈ b,slices_Compare_int_int.f k (p.f0 ++ q.f0) (p'.f0 ++ q'.f0)=some (Hp.lexc (p.f0 ++ q.f0) (p'.f0 ++ q'.f0))) a (fun p hp =>
  all_ev (P:=fun q k=>∀ p' ∈ a,∀ q' ∈ b,slices_Compare_int_int.f k (p.f0 ++ q.f0) (p'.f0 ++ q'.f0)=some (Hp.lexc (p.f0 ++ q.f0) (p'.f0 ++ q'.f0))) b (fun q hq =>
   all_ev (P:=fun p' k=>∀ q' ∈ b,slices_Compare_int_int.f k (p.f0 ++ q.f0) (p'.f0 ++ q'.f0)=some (Hp.lexc (p.f0 ++ q.f0) (p'.f0 ++ q'.f0))) a (fun p' _ =>
    all_ev (P:=fun q' k=>slices_Compare_int_int.f k (p.f0 ++ q.f0) (p'.f0 ++ q'.f0)=some (Hp.lexc (p.f0 ++ q.f0) (p'.f0 ++ q'.f0))) b (fun q' _=>by
     rw [hp_lexc]
     exact compare_ev _ _ (by rw [List.length_append]; have:=(ha.row p hp).2; have:=(hb.row q hq).2; omega)))))
 refine ⟨max K1 K2,fun k hk=>⟨ha.len,hb.len,fun p hp=>⟨(ha.row p hp).2,fun c hc=>okI_iff.2 (by have:=ha.cell p hp c hc; omega),ha.w p hp⟩,fun p hp=>⟨(hb.row p hp).2,fun c hc=>okI_iff.2 (by have:=hb.cell p hp c hc; omega),hb.w p hp⟩,fun p hp q hq=>h1 k (by omega) p hp q hq,fun p hp q hq p' hp' q' hq'=>⟨h2 k (by omega) p hp q hq p' hp' q' hq',fun e=>?_⟩⟩⟩
 exact rowB_inj (cells p hp q hq) (cells p' hp' q' hq') (ne p hp q hq) (ne p' hp' q' hq') e
/-- what JoinOf tells -/
def joinZ (x y:Int) (a b:List S31):List S31 × Bool :=
 if okZ a=true∧okZ b=true∧(0≤x∧x < 6)∧(0≤y∧y < 6)∧(a = []∨b = []∨(Hp.wideAll x a=true∧Hp.wideAll y b=true))∧okZ (addL [] (Hp.pairsOf x y a b))=true then (addL [] (Hp.pairsOf x y a b),true) else ([],false)
theorem pairs_small {x y:Int} {a b:List S31} (ha:Jn a) (hb:Jn b):Small (addL [] (Hp.pairsOf x y a b)):=by
 have h1:=addL_len (Hp.pairsOf x y a b) []
 have h2:=pairsOf_len x y b a
 have h3:=Nat.mul_le_mul ha.len hb.len
 refine ⟨by simp only [List.length_nil] at h1; omega,fun u hu=>?_⟩
 refine addL_rows (Hp.pairsOf x y a b) [] 1048576 (by simp) (fun v hv=>?_) u hu
 obtain ⟨p,hp,q,hq,rfl⟩:=Hp.pairsOf_mem hv
 show (p.f0 ++ q.f0).length≤_
 rw [List.length_append]
 have:=(ha.row p hp).2
 have:=(hb.row q hq).2
 omega
theorem implJoinOf_ev (x y:Int) (a b:List S31) (ha:Small a) (hb:Small b):Ev (fun k=>impl_JoinOf.f k a b x y) (joinZ x y a b):=by
 unfold impl_JoinOf.f joinZ
 refine (implZOk_ev a ha).bind ?_
 by_cases h1:okZ a=true
 case neg=>rw [if_neg (fun h=>h1 h.1)]; exact ev_neg h1 (ev_now rfl)
 refine ev_pos h1 ((implZOk_ev b hb).bind ?_)
 by_cases h2:okZ b=true
 case neg=>rw [if_neg (fun h=>h2 h.2.1)]; exact ev_neg h2 (ev_now rfl)
 refine ev_pos h2 ?_
 by_cases h3:0≤x∧x < 6
 case neg=>rw [if_neg (fun h=>h3 h.2.2.1)]; exact ev_neg h3 (ev_now rfl)
 refine ev_pos h3 ?_
 by_cases h4:0≤y∧y < 6
 case neg=>rw [if_neg (fun h=>h4 h.2.2.2.1)]; exact ev_neg h4 (ev_now rfl)
 refine ev_pos h4 ?_
 obtain ⟨K,hK⟩:=fineJ_ev (okZ_jn h1) (okZ_jn h2)
 have F:Ev (fun k=>if a = []∨b = []∨(Hp.wideAll x a=true∧Hp.wideAll y b=true) then (impl_told.f k (Hp.addL [] (Hp.pairsOf x y a b))) else some ([],false)) (if okZ a=true∧okZ b=true∧(0≤x∧x < 6)∧(0≤y∧y < 6)∧(a = []∨b = []∨(Hp.wideAll x a=true∧Hp.wideAll y b=true))∧okZ (addL [] (Hp.pairsOf x y a b))=true then (addL [] (Hp.pairsOf x y a b),true) else ([],false)):=by
  by_cases h5:a = []∨b = []∨(Hp.wideAll x a=true∧Hp.wideAll y b=true)
  case neg=>rw [if_neg (fun h=>h5 h.2.2.2.2.1)]; exact ev_neg h5 (ev_now rfl)
  refine ev_pos h5 ?_
  rw [hp_addL]
  have T:=told_ev _ (pairs_small (x:=x) (y:=y) (okZ_jn h1) (okZ_jn h2))
  by_cases h6:okZ (addL [] (Hp.pairsOf x y a b))=true
  ·rw [if_pos h6] at T
   rw [if_pos ⟨h1,h2,h3,h4,h5,h6⟩]
   exact T
  ·rw [if_neg h6] at T
   rw [if_neg (fun h=>h6 h.2.2.2.2.2)]
   exact T
 obtain ⟨K2,hF⟩:=F
 refine ⟨max K K2,fun k hk=>?_⟩
 dsimp only
 rw [if_pos (hK k (by omega))]
 exact hF k (by omega)
theorem l3Col_ev (x:Int):spec_l3Col.f x 6=some (decide (0≤x∧x < 6)):=by
 unfold spec_l3Col.f
 by_cases h:x≥0
 ·rw [if_pos h]
  by_cases h2:x < 6
  ·rw [if_pos h2,decide_eq_true h2,decide_eq_true ⟨h,h2⟩]
  ·rw [if_neg h2,decide_eq_false (fun h3=>h2 h3.2)]
 ·rw [if_neg h,decide_eq_false (fun h3=>h h3.1)]
theorem jn_mul {a b:List S31} (ha:Jn a) (hb:Jn b) {p q:S31} (hp:p ∈ a) (hq:q ∈ b) : -100000000≤p.f1 * q.f1∧p.f1 * q.f1≤100000000:=mul_le4 (ha.w p hp).1 (ha.w p hp).2 (hb.w q hq).1 (hb.w q hq).2
/-- what has been put so far: few, short rows, weights that m puts can make -/
structure Acc (m:Nat) (z:List S31):Prop where
 len:z.length≤m
 row : ∀ x ∈ z,x.f0.length≤12
 w : ∀ x ∈ z,-(100000000 * (m:Int))≤x.f1∧x.f1≤100000000 * (m:Int)
theorem Acc.put {m:Nat} {z:List S31} (h:Acc m z) {r:List Int} {w:Int} (hr:r.length≤12) (hw : -100000000≤w∧w≤100000000):Acc (m + 1) (putL r w z) where
 len:=by have:=putL_len r w z; have:=h.len; omega
 row y hy:=by
  rcases putL_rows r w z y hy with e | ⟨u,hu,e⟩
  ·rw [e]; exact hr
  ·rw [← e]; exact h.row u hu
 w y hy:=by
  have:=putL_wb r w (100000000 * (m:Int)) 100000000 hw (by omega) (by omega) z h.w y hy
  omega
theorem wide_at {x:Int} {z:List S31} (h:Hp.wideAll x z=true) (i:Nat) (hi:i < z.length):0≤x∧x < (z[i].f0.length:Int):=by
 have h1:=List.all_eq_true.1 h z[i] (List.getElem_mem hi)
 rw [Bool.and_eq_true,decide_eq_true_eq,decide_eq_true_eq] at h1
 exact h1
theorem mates_cons (x y:Int) (q p:S31) (b:List S31):Hp.mates x y (q :: b) p=(if Hp.cellAt q y=Hp.cellAt p x then [q] else []) ++ Hp.mates x y b p:=by
 unfold Hp.mates
 by_cases h:Hp.cellAt q y=Hp.cellAt p x
 ·rw [if_pos h,List.filter_cons,if_pos (decide_eq_true h)]; rfl
 ·rw [if_neg h,List.filter_cons,if_neg (by simpa using h)]; rfl
theorem specInner (x y:Int) (a b:List S31) (ha:Jn a) (hb:Jn b) (hx:Hp.wideAll x a=true) (hy:Hp.wideAll y b=true) (i:Nat) (hi:i < a.length) (R:List S31→List S31 × Bool)
 (next : ∀ acc m,Acc m acc→m≤100 * (i + 1)→Ev (fun k=>spec_l5Join.l0 k a b x y acc ((i + 1:Nat):Int)) (R acc)) : ∀ (d j:Nat) (acc:List S31) (m:Nat),j + d=b.length→Acc m acc→m≤100 * i + j →
 Ev (fun k=>spec_l5Join.l1 k a b x y acc (i:Int) (j:Int)) (R (addL acc ((Hp.mates x y (b.drop j) a[i]).map (Hp.joined a[i])))):=by
 intro d
 have hla:=ha.len
 have hlb:=hb.len
 obtain ⟨hx0,hx1⟩:=wide_at hx i hi
 induction d with
 | zero =>
  intro j acc m hj hA hm
  refine Ev.step (fun k=>spec_l5Join.l1.eq_2 ..) (ev_neg (by omega) ?_)
  rw [drop_end b _ (by omega),w64n (by omega)]
  exact next acc m hA (by omega)
 | succ d ih =>
  intro j acc m hj hA hm
  have hjl:j < b.length:=by omega
  obtain ⟨hy0,hy1⟩:=wide_at hy j hjl
  have hjn:=ih (j + 1)
  refine Ev.step (fun k=>spec_l5Join.l1.eq_2 ..) (ev_pos (by omega) (ev_pos (by omega) (ev_pos (by omega) ?_)))
  rw [rdI_at a i hi,rdI_at b j hjl]
  refine ev_neg (by omega) (ev_pos (by omega) (ev_neg (by omega) (ev_pos hx0 (ev_pos hx1 (ev_pos hy0 (ev_pos hy1 ?_))))))
  rw [w64n (by omega),drop_at b j hjl,mates_cons]
  have hp:=List.getElem_mem hi
  have hq:=List.getElem_mem hjl
  by_cases e:rd a[i].f0 x=rd b[j].f0 y
  ·have e2:Hp.cellAt b[j] y=Hp.cellAt a[i] x:=e.symm
   have hl:(a[i].f0 ++ b[j].f0).length≤12:=by rw [List.length_append]; have:=(ha.row _ hp).2; have:=(hb.row _ hq).2; omega
   have hm4:=jn_mul ha hb hp hq
   refine ev_pos e (ev_eq (specJoin a[i].f0 b[j].f0 (by rw [List.length_append] at hl; omega)) ?_)
   rw [w64 (by omega) (by omega)]
   refine (specPut_ev acc _ _ ⟨by have:=hA.len; omega,fun u hu=>by have:=hA.row u hu; omega⟩ (by omega) (fun u hu=>by have:=hA.w u hu; omega) (by omega)).bind ?_
   rw [if_pos e2]
   exact hjn _ (m + 1) (by omega) (hA.put hl hm4) (by omega)
  ·have e2 : ¬ Hp.cellAt b[j] y=Hp.cellAt a[i] x:=fun h=>e h.symm
   refine ev_neg e ?_
   rw [if_neg e2]
   exact hjn acc m (by omega) hA (by omega)
theorem specOuter (x y:Int) (a b:List S31) (ha:Jn a) (hb:Jn b) (hx:Hp.wideAll x a=true) (hy:Hp.wideAll y b=true) : ∀ (d i:Nat) (acc:List S31) (m:Nat),i + d=a.length→Acc m acc→m≤100 * i →
 Ev (fun k=>spec_l5Join.l0 k a b x y acc (i:Int)) (addL acc (Hp.pairsOf x y (a.drop i) b),true):=by
 intro d
 have hla:=ha.len
 have hlb:=hb.len
 induction d with
 | zero =>
  intro i acc m hi _ _
  refine Ev.step (fun k=>spec_l5Join.l0.eq_2 ..) (ev_neg (by omega) (ev_now ?_))
  rw [drop_end a _ (by omega)]
  rfl
 | succ d ih =>
  intro i acc m hi hA hm
  have hil:i < a.length:=by omega
  refine Ev.step (fun k=>spec_l5Join.l0.eq_2 ..) (ev_pos (by omega) ?_)
  have h1:=specInner x y a b ha hb hx hy i hil (fun acc=>(addL acc (Hp.pairsOf x y (a.drop (i + 1)) b),true)) (fun acc m hA hm=>ih (i + 1) acc m (by omega) hA hm) b.length 0 acc m (by omega) hA (by omega)
  rw [List.drop_zero] at h1
  have h2:Hp.pairsOf x y (a.drop i) b=(Hp.mates x y b a[i]).map (Hp.joined a[i]) ++ Hp.pairsOf x y (a.drop (i + 1)) b:=by rw [drop_at a i hil]; rfl
  rw [h2,addL_app]
  exact h1
/-- where some row is not wide enough: up to a place at which the loop ends in false -/
theorem specInnerF (x y:Int) (a b:List S31) (ha:Jn a) (hb:Jn b) (hx0:0≤x) (hy0:0≤y) (i:Nat) (hi:i < a.length) (e:Nat) (he:e≤b.length)
 (stop : ∀ acc m,Acc m acc→m≤100 * i + e→∃ g,Ev (fun k=>spec_l5Join.l1 k a b x y acc (i:Int) (e:Int)) (g,false)) : ∀ (d j:Nat) (acc:List S31) (m:Nat),j + d=e→Acc m acc→m≤100 * i + j →
 ∃ g,Ev (fun k=>spec_l5Join.l1 k a b x y acc (i:Int) (j:Int)) (g,false):=by
 intro d
 have hla:=ha.len
 have hlb:=hb.len
 induction d with
 | zero =>
  intro j acc m hj hA hm
  obtain rfl:j=e:=by omega
  exact stop acc m hA hm
 | succ d ih =>
  intro j acc m hj hA hm
  have hjl:j < b.length:=by omega
  have hp:=List.getElem_mem hi
  have hq:=List.getElem_mem hjl
  by_cases hx1:x≥(a[i].f0.length:Int)
  ·refine ⟨acc,Ev.step (fun k=>spec_l5Join.l1.eq_2 ..) (ev_pos (by omega) (ev_pos (by omega) (ev_pos (by omega) ?_)))⟩
   rw [rdI_at a i hi]
   exact ev_pos hx1 (ev_now rfl)
  by_cases hy1:y≥(b[j].f0.length:Int)
  ·refine ⟨acc,Ev.step (fun k=>spec_l5Join.l1.eq_2 ..) (ev_pos (by omega) (ev_pos (by omega) (ev_pos (by omega) ?_)))⟩
   rw [rdI_at a i hi,rdI_at b j hjl]
   exact ev_neg hx1 (ev_pos (by omega) (ev_pos hy1 (ev_now rfl)))
  by_cases ec:rd a[i].f0 x=rd b[j].f0 y
  ·have hl:(a[i].f0 ++ b[j].f0).length≤12:=by rw [List.length_append]; have:=(ha.row _ hp).2; have:=(hb.row _ hq).2; omega
   have hm4:=jn_mul ha hb hp hq
   obtain ⟨g,hg⟩:=ih (j + 1) (putL (a[i].f0 ++ b[j].f0) (a[i].f1 * b[j].f1) acc) (m + 1) (by omega) (hA.put hl hm4) (by omega)
   refine ⟨g,Ev.step (fun k=>spec_l5Join.l1.eq_2 ..) (ev_pos (by omega) (ev_pos (by omega) (ev_pos (by omega) ?_)))⟩
   rw [rdI_at a i hi,rdI_at b j hjl]
   refine ev_neg hx1 (ev_pos (by omega) (ev_neg hy1 (ev_pos hx0 (ev_pos (by omega) (ev_pos hy0 (ev_pos (by omega) (ev_pos ec (ev_eq (specJoin a[i].f0 b[j].f0 (by rw [List.length_append] at hl; omega)) ?_))))))))
   rw [w64n (by omega),w64 (by omega) (by omega)]
   exact (specPut_ev acc _ _ ⟨by have:=hA.len; omega,fun u hu=>by have:=hA.row u hu; omega⟩ (by omega) (fun u hu=>by have:=hA.w u hu; omega) (by omega)).bind hg
  ·obtain ⟨g,hg⟩:=ih (j + 1) acc m (by omega) hA (by omega)
   refine ⟨g,Ev.step (fun k=>spec_l5Join.l1.eq_2 ..) (ev_pos (by omega) (ev_pos (by omega) (ev_pos (by omega) ?_)))⟩
   rw [rdI_at a i hi,rdI_at b j hjl]
   refine ev_neg hx1 (ev_pos (by omega) (ev_neg hy1 (ev_pos hx0 (ev_pos (by omega) (ev_pos hy0 (ev_pos (by omega) (ev_neg ec ?_)))))))
   rw [w64n (by omega)]
   exact hg
theorem wide_no {x:Int} (hx0:0≤x) {z:List S31} (h : ¬ Hp.wideAll x z=true) : ∃ i,∃ hi:i < z.length,x≥(z[i].f0.length:Int):=by
 unfold Hp.wideAll at h
 rw [List.all_eq_true] at h
 have h2 : ∃ p ∈ z,x≥(p.f0.length:Int):=by
  apply Classical.byContradiction
  intro hn
  refine h (fun p hp=>?_)
  rw [Bool.and_eq_true,decide_eq_true_eq,decide_eq_true_eq]
  exact ⟨hx0,Int.not_le.1 (fun e=>hn ⟨p,hp,e⟩)⟩
 obtain ⟨p,hp,e⟩:=h2
 obtain ⟨i,hi,rfl⟩:=List.getElem_of_mem hp
 exact ⟨i,hi,e⟩
theorem specOuterF (x y:Int) (a b:List S31) (ha:Jn a) (hb:Jn b) (hx0:0≤x) (hy0:0≤y) (hbn:0 < b.length) (i0:Nat) (hi0:i0 < a.length) (hbad:x≥(a[i0].f0.length:Int)) : ∀ (d i:Nat) (acc:List S31) (m:Nat),i + d=i0→Acc m acc→m≤100 * i →
 ∃ g,Ev (fun k=>spec_l5Join.l0 k a b x y acc (i:Int)) (g,false):=by
 intro d
 have hla:=ha.len
 have hlb:=hb.len
 induction d with
 | zero =>
  intro i acc m hi _ _
  obtain rfl:i=i0:=by omega
  refine ⟨acc,Ev.step (fun k=>spec_l5Join.l0.eq_2 ..) (ev_pos (by omega) (Ev.step (fun k=>spec_l5Join.l1.eq_2 ..) (ev_pos (by omega) (ev_pos (by omega) (ev_pos (by omega) ?_)))))⟩
  rw [rdI_at a i hi0]
  exact ev_pos hbad (ev_now rfl)
 | succ d ih =>
  intro i acc m hi hA hm
  have hil:i < a.length:=by omega
  obtain ⟨g,hg⟩:=specInnerF x y a b ha hb hx0 hy0 i hil b.length (Nat.le_refl _) (fun acc m hA hm=>by
   obtain ⟨g,hg⟩:=ih (i + 1) acc m (by omega) hA (by omega)
   refine ⟨g,Ev.step (fun k=>spec_l5Join.l1.eq_2 ..) (ev_neg (by omega) ?_)⟩
   rw [w64n (by omega)]
   exact hg) b.length 0 acc m (by omega) hA (by omega)
  exact ⟨g,Ev.step (fun k=>spec_l5Join.l0.eq_2 ..) (ev_pos (by omega) hg)⟩
theorem specL5_ev (x y:Int) (a b:List S31) (ha:Jn a) (hb:Jn b) (h:a = []∨b = []∨(Hp.wideAll x a=true∧Hp.wideAll y b=true)):Ev (fun k=>spec_l5Join.f k a b x y) (addL [] (Hp.pairsOf x y a b),true):=by
 have hla:=ha.len
 have hlb:=hb.len
 have A0:Acc 0 ([]:List S31):=⟨Nat.le_refl _,by simp,by simp⟩
 unfold spec_l5Join.f
 rcases h with rfl | rfl | ⟨h1,h2⟩
 ·exact Ev.step (fun k=>spec_l5Join.l0.eq_2 ..) (ev_neg (by simp) (ev_now rfl))
 ·have hp:Hp.pairsOf x y a [] = []:=by
   apply List.eq_nil_of_length_eq_zero
   have:=pairsOf_len x y ([]:List S31) a
   simpa using this
  rw [hp]
  have go : ∀ (d i:Nat),i + d=a.length→Ev (fun k=>spec_l5Join.l0 k a [] x y [] (i:Int)) (([]:List S31),true):=by
   intro d
   induction d with
   | zero=>intro i hi; exact Ev.step (fun k=>spec_l5Join.l0.eq_2 ..) (ev_neg (by omega) (ev_now rfl))
   | succ d ih =>
    intro i hi
    refine Ev.step (fun k=>spec_l5Join.l0.eq_2 ..) (ev_pos (by omega) (Ev.step (fun k=>spec_l5Join.l1.eq_2 ..) (ev_neg (by simp) ?_)))
    rw [w64n (by omega)]
    exact ih (i + 1) (by omega)
  exact go a.length 0 (by omega)
 ·have:=specOuter x y a b ha hb h1 h2 a.length 0 [] 0 (by omega) A0 (by omega)
  rw [List.drop_zero] at this
  exact this
theorem specL5_no (x y:Int) (a b:List S31) (ha:Jn a) (hb:Jn b) (hx0:0≤x) (hy0:0≤y) (h : ¬ (a = []∨b = []∨(Hp.wideAll x a=true∧Hp.wideAll y b=true))) : ∃ g,Ev (fun k=>spec_l5Join.f k a b x y) (g,false):=by
 have A0:Acc 0 ([]:List S31):=⟨Nat.le_refl _,by simp,by simp⟩
 have ha0:0 < a.length:=List.length_pos_iff.2 (fun e=>h (.inl e))
 have hb0:0 < b.length:=List.length_pos_iff.2 (fun e=>h (.inr (.inl e)))
 unfold spec_l5Join.f
 by_cases h1:Hp.wideAll x a=true
 ·have h2 : ¬ Hp.wideAll y b=true:=fun e=>h (.inr (.inr ⟨h1,e⟩))
  obtain ⟨j0,hj0,hbad⟩:=wide_no hy0 h2
  obtain ⟨g,hg⟩:=specInnerF x y a b ha hb hx0 hy0 0 ha0 j0 (Nat.le_of_lt hj0) (fun acc m hA hm=>by
   by_cases hx1:x≥(a[0].f0.length:Int)
   ·refine ⟨acc,Ev.step (fun k=>spec_l5Join.l1.eq_2 ..) (ev_pos (by omega) (ev_pos (by omega) (ev_pos (by omega) ?_)))⟩
    rw [rdI_at a 0 ha0]
    exact ev_pos hx1 (ev_now rfl)
   ·refine ⟨acc,Ev.step (fun k=>spec_l5Join.l1.eq_2 ..) (ev_pos (by omega) (ev_pos (by omega) (ev_pos (by omega) ?_)))⟩
    rw [rdI_at a 0 ha0,rdI_at b j0 hj0]
    exact ev_neg hx1 (ev_pos (by omega) (ev_pos hbad (ev_now rfl)))) j0 0 [] 0 (by omega) A0 (by omega)
  exact ⟨g,Ev.step (fun k=>spec_l5Join.l0.eq_2 ..) (ev_pos (by omega) hg)⟩
 ·obtain ⟨i0,hi0,hbad⟩:=wide_no hx0 h1
  exact specOuterF x y a b ha hb hx0 hy0 hb0 i0 hi0 hbad i0 0 [] 0 (by omega) A0 (by omega)
theorem specJoinOf_ev (x y:Int) (a b:List S31) (ha:Small a) (hb:Small b):Ev (fun k=>spec_JoinOf.f k a b x y) (joinZ x y a b):=by
 unfold spec_JoinOf.f joinZ
 refine (specZOk_ev a ha).bind ?_
 by_cases h1:okZ a=true
 case neg=>rw [if_neg (fun h=>h1 h.1)]; exact ev_neg h1 (ev_now rfl)
 refine ev_pos h1 ((specZOk_ev b hb).bind ?_)
 by_cases h2:okZ b=true
 case neg=>rw [if_neg (fun h=>h2 h.2.1)]; exact ev_neg h2 (ev_now rfl)
 refine ev_pos h2 (ev_eq (l3Col_ev x) ?_)
 by_cases h3:0≤x∧x < 6
 case neg=>rw [if_neg (fun h=>h3 h.2.2.1)]; exact ev_neg (by simpa using h3) (ev_now rfl)
 refine ev_pos (decide_eq_true h3) (ev_eq (l3Col_ev y) ?_)
 by_cases h4:0≤y∧y < 6
 case neg=>rw [if_neg (fun h=>h4 h.2.2.2.1)]; exact ev_neg (by simpa using h4) (ev_now rfl)
 refine ev_pos (decide_eq_true h4) ?_
 by_cases h5:a = []∨b = []∨(Hp.wideAll x a=true∧Hp.wideAll y b=true)
 case neg =>
  rw [if_neg (fun h=>h5 h.2.2.2.2.1)]
  obtain ⟨g,hg⟩:=specL5_no x y a b (okZ_jn h1) (okZ_jn h2) h3.1 h4.1 h5
  exact hg.bind (ev_neg (by simp) (ev_now rfl))
 refine (specL5_ev x y a b (okZ_jn h1) (okZ_jn h2) h5).bind (ev_pos rfl ?_)
 have T:=specTold_ev _ (pairs_small (x:=x) (y:=y) (okZ_jn h1) (okZ_jn h2))
 by_cases h6:okZ (addL [] (Hp.pairsOf x y a b))=true
 ·rw [if_pos h6] at T
  rw [if_pos ⟨h1,h2,h3,h4,h5,h6⟩]
  exact T.bind (ev_now rfl)
 ·rw [if_neg h6] at T
  rw [if_neg (fun h=>h6 h.2.2.2.2.2)]
  exact T.bind (ev_now rfl)
/-- the sum of a number of each row, weighted -/
def dot (f:List Int→Int):List S31→Int
 | []=>0
 | x :: z=>x.f1 * f x.f0 + dot f z
theorem dot_put (f:List Int→Int) (r:List Int) (w:Int) : ∀ z:List S31,dot f (putL r w z)=dot f z + w * f r:=by
 intro z
 induction z with
 | nil =>
  unfold putL
  split
  ·next h=>rw [h]; simp [dot]
  ·simp [dot]
 | cons x z ih =>
  unfold putL
  split
  ·rw [dot,ih,dot]; omega
  ·split
   ·next h2 =>
    split
    ·next h3 =>
     have e:(x.f1 + w) * f r=0:=by rw [h3]; simp
     rw [Int.add_mul] at e
     rw [dot,h2]; omega
    ·rw [dot,dot]
     show (x.f1 + w) * f x.f0 + dot f z=_
     rw [h2,Int.add_mul]; omega
   ·split
    ·next h3=>rw [h3]; simp
    ·rw [dot,dot]
     show w * f r + _=_
     omega
theorem dot_addL (f:List Int→Int) : ∀ (b a:List S31),dot f (addL a b)=dot f a + dot f b:=by
 intro b
 induction b with
 | nil=>intro a; simp [addL,dot]
 | cons x b ih =>
  intro a
  show dot f (addL (putL x.f0 x.f1 a) b)=_
  rw [ih,dot_put,dot]; omega
theorem dot_app (f:List Int→Int) : ∀ (a b:List S31),dot f (a ++ b)=dot f a + dot f b:=by
 intro a
 induction a with
 | nil=>intro b; simp [dot]
 | cons x a ih=>intro b; rw [List.cons_append,dot,dot,ih]; omega
theorem dot_congr {f g:List Int→Int} : ∀ z:List S31,(∀ x ∈ z,f x.f0=g x.f0)→dot f z=dot g z:=by
 intro z
 induction z with
 | nil=>intro _; rfl
 | cons x z ih=>intro h; rw [dot,dot,h x List.mem_cons_self,ih (fun y hy=>h y (List.mem_cons_of_mem _ hy))]
theorem dot_add (f g:List Int→Int) : ∀ z:List S31,dot (fun r=>f r + g r) z=dot f z + dot g z:=by
 intro z
 induction z with
 | nil=>rfl
 | cons x z ih=>rw [dot,dot,dot,ih,Int.mul_add]; omega
theorem sumW_dot (r:List Int) : ∀ z:List S31,sumW r z=dot (fun s=>if s=r then 1 else 0) z:=by
 intro z
 induction z with
 | nil=>rfl
 | cons x z ih =>
  rw [sumW,dot,ih]
  by_cases h:x.f0=r
  ·rw [if_pos h,if_pos h]; omega
  ·rw [if_neg h,if_neg h]; omega
/-- a row's cell -/
def cellR (r:List Int) (x:Int):Int:=r.getD x.toNat 0
/-- what a row joins with -/
def kern (x y:Int) (b:List S31) (f:List Int→Int) (u:List Int):Int:=dot (fun v=>if cellR v y=cellR u x then f (u ++ v) else 0) b
theorem dot_mates (x y:Int) (f:List Int→Int) (p:S31) : ∀ b:List S31,dot f ((Hp.mates x y b p).map (Hp.joined p))=p.f1 * kern x y b f p.f0:=by
 intro b
 induction b with
 | nil=>simp [Hp.mates,kern,dot]
 | cons q b ih =>
  unfold kern at ih ⊢
  rw [dot]
  have e:Hp.mates x y (q :: b) p=(if Hp.cellAt q y=Hp.cellAt p x then [q] else []) ++ Hp.mates x y b p:=by
   unfold Hp.mates
   by_cases h:Hp.cellAt q y=Hp.cellAt p x
   ·rw [if_pos h,List.filter_cons,if_pos (decide_eq_true h)]; rfl
   ·rw [if_neg h,List.filter_cons,if_neg (by simpa using h)]; rfl
  rw [e,List.map_append,dot_app,ih,Int.mul_add]
  congr 1
  by_cases h:Hp.cellAt q y=Hp.cellAt p x
  ·rw [if_pos h,if_pos (show cellR q.f0 y=cellR p.f0 x from h)]
   show p.f1 * q.f1 * f (p.f0 ++ q.f0) + 0=_
   rw [Int.add_zero,Int.mul_assoc]
  ·rw [if_neg h,if_neg (show ¬ cellR q.f0 y=cellR p.f0 x from h)]
   simp [dot]
theorem dot_pairs (x y:Int) (b:List S31) (f:List Int→Int) : ∀ a:List S31,dot f (Hp.pairsOf x y a b)=dot (kern x y b f) a:=by
 intro a
 induction a with
 | nil=>rfl
 | cons p a ih =>
  have e:Hp.pairsOf x y (p :: a) b=(Hp.mates x y b p).map (Hp.joined p) ++ Hp.pairsOf x y a b:=rfl
  rw [e,dot_app,dot_mates,ih,dot]
theorem wOf_join (r:List Int) (x y:Int) (a b:List S31):wOf r (addL [] (Hp.pairsOf x y a b))=dot (kern x y b (fun s=>if s=r then 1 else 0)) a:=by
 rw [addL_sum r _ [] Canon.nil,sumW_dot,dot_pairs]
 show 0 + _=_
 omega
theorem joinZ_ok {x y:Int} {a b:List S31} (h:(joinZ x y a b).2=true):okZ a=true∧okZ b=true∧(0≤x∧x < 6)∧(0≤y∧y < 6)∧(a = []∨b = []∨(Hp.wideAll x a=true∧Hp.wideAll y b=true))∧okZ (addL [] (Hp.pairsOf x y a b))=true∧(joinZ x y a b).1=addL [] (Hp.pairsOf x y a b):=by
 unfold joinZ at h ⊢
 split at h
 ·next c=>rw [if_pos c]; exact ⟨c.1,c.2.1,c.2.2.1,c.2.2.2.1,c.2.2.2.2.1,c.2.2.2.2.2,rfl⟩
 ·cases h
theorem joinZ_small (x y:Int) (a b:List S31):Small (joinZ x y a b).1:=by
 unfold joinZ
 split
 ·next h=>exact okZ_small h.2.2.2.2.2
 ·exact ⟨by simp,by simp⟩
theorem cmpItem_ev (x y:S31) (h:x.f0.length≤1048576):Ev (fun k=>impl_cmpItem.f k x.f0 x.f1 y.f0 y.f1) (lexc x.f0 y.f0):=by
 unfold impl_cmpItem.f
 exact (compare_ev x.f0 y.f0 (by omega)).bind (ev_now rfl)
theorem rdI_0 (x:S31) (l:List S31):rd_T31 (x :: l) 0=x:=rfl
theorem merged_ev : ∀ (n:Nat) (a b acc:List S31),a.length + b.length≤n→acc.length + n≤1048576→(∀ x ∈ a,x.f0.length≤1048576)→(∀ x ∈ a,-1000000000≤x.f1∧x.f1≤1000000000)→(∀ x ∈ b,-1000000000≤x.f1∧x.f1≤1000000000) →
 Ev (fun k=>impl_merged_impl_Item__impl_cmpItem_impl_together_1.l0 k a b acc) (acc ++ merL a b):=by
 intro n
 induction n with
 | zero =>
  intro a b acc h hn _ _ _
  obtain rfl:a = []:=List.length_eq_zero_iff.1 (by omega)
  obtain rfl:b = []:=List.length_eq_zero_iff.1 (by omega)
  refine Ev.step (fun k=>impl_merged_impl_Item__impl_cmpItem_impl_together_1.l0.eq_2 ..) (ev_neg (by simp <;> omega) (ev_pos (by simp <;> omega) (ev_some (ev_pos (by simp <;> omega) (ev_now ?_)))))
  simp [merL]
 | succ n ih =>
  intro a b acc h hn hr hwa hwb
  cases a with
  | nil =>
   refine Ev.step (fun k=>impl_merged_impl_Item__impl_cmpItem_impl_together_1.l0.eq_2 ..) (ev_neg (by simp <;> omega) (ev_pos (by simp <;> omega) (ev_some (ev_pos (by simp at h ⊢ <;> omega) (ev_now ?_)))))
   simp [merL]
  | cons x a =>
   cases b with
   | nil =>
    refine Ev.step (fun k=>impl_merged_impl_Item__impl_cmpItem_impl_together_1.l0.eq_2 ..) (ev_pos (by simp <;> omega) (ev_neg (by simp <;> omega) (ev_pos (by simp at h ⊢ <;> omega) (ev_some (ev_pos (by simp at h ⊢ <;> omega) (ev_now ?_))))))
    simp [merL]
   | cons y b =>
    simp only [List.length_cons] at h
    refine Ev.step (fun k=>impl_merged_impl_Item__impl_cmpItem_impl_together_1.l0.eq_2 ..) (ev_pos (by simp <;> omega) (ev_pos (by simp <;> omega) (ev_pos (by simp <;> omega) (ev_pos (by simp <;> omega) ?_))))
    rw [rdI_0,rdI_0]
    refine (cmpItem_ev x y (hr x List.mem_cons_self)).bind ?_
    have hra:=fun u hu=>hr u (List.mem_cons_of_mem _ hu)
    have hwa':=fun u hu=>hwa u (List.mem_cons_of_mem _ hu)
    have hwb':=fun u hu=>hwb u (List.mem_cons_of_mem _ hu)
    rw [merL]
    by_cases h1:lexc x.f0 y.f0 < 0
    ·rw [if_pos h1]
     refine ev_pos h1 (ev_pos (by omega) (ev_pos (by simp <;> omega) ?_))
     have:=ih a (y :: b) (acc ++ [x]) (by simp <;> omega) (by simp <;> omega) hra hwa' hwb
     rw [List.append_assoc] at this
     exact this
    ·rw [if_neg h1]
     have hs:=lexc_swap x.f0 y.f0
     by_cases h2:lexc y.f0 x.f0 < 0
     ·rw [if_pos h2]
      refine ev_neg h1 (ev_pos (by omega) (ev_pos (by omega) (ev_pos (by simp <;> omega) ?_)))
      have:=ih (x :: a) b (acc ++ [y]) (by simp <;> omega) (by simp <;> omega) hr hwa hwb'
      rw [List.append_assoc] at this
      exact this
     ·rw [if_neg h2]
      have hx:=hwa x List.mem_cons_self
      have hy:=hwb y List.mem_cons_self
      refine ev_neg h1 (ev_neg (by omega) ?_)
      unfold impl_together_1.f
      rw [w64 (x:=x.f1 + y.f1) (by omega) (by omega)]
      refine ev_some ?_
      by_cases h3:x.f1 + y.f1=0
      ·rw [if_pos h3]
       refine ev_neg (by simp [h3]) (ev_pos (by simp <;> omega) (ev_pos (by simp <;> omega) ?_))
       exact ih a b acc (by omega) (by omega) hra hwa' hwb'
      ·rw [if_neg h3]
       refine ev_pos (by simpa using h3) (ev_pos (by omega) (ev_pos (by simp <;> omega) (ev_pos (by simp <;> omega) ?_)))
       have:=ih a b (acc ++ [⟨x.f0,x.f1 + y.f1⟩]) (by omega) (by simp <;> omega) hra hwa' hwb'
       rw [List.append_assoc] at this
       exact this
theorem merL_len : ∀ (n:Nat) (a b:List S31),a.length + b.length≤n→(merL a b).length≤a.length + b.length:=by
 intro n
 induction n with
 | zero=>intro a b h; cases a <;> cases b <;> simp [merL] at h ⊢
 | succ n ih =>
  intro a b h
  cases a with
  | nil=>simp [merL]
  | cons x a =>
   cases b with
   | nil=>simp [merL]
   | cons y b =>
    simp only [List.length_cons] at h
    rw [merL]
    have h1:=ih a (y :: b) (by simp <;> omega)
    have h2:=ih (x :: a) b (by simp <;> omega)
    have h3:=ih a b (by omega)
    simp only [List.length_cons] at h1 h2 ⊢
    repeat' split
    all_goals (try simp only [List.length_cons])
    all_goals omega
theorem merL_small {a b:List S31} (ha:Small a) (hb:Small b) (hl:a.length + b.length≤1048576):Small (merL a b) :=
 ⟨by have:=merL_len _ a b (Nat.le_refl _); omega,fun y hy=>by
  rcases merL_rows _ a b (Nat.le_refl _) y hy with ⟨x,hx,e⟩ | ⟨x,hx,e⟩
  ·rw [← e]; exact ha.row x hx
  ·rw [← e]; exact hb.row x hx⟩
/-- what ZAdd tells -/
def addZ (a b:List S31):List S31 × Bool:=if okZ a=true∧okZ b=true∧okZ (addL a b)=true then (addL a b,true) else ([],false)
theorem together_ev (a b:List S31) (ha:Small a) (hl:a.length + b.length≤100000) (hwa : ∀ x ∈ a,-1000000000≤x.f1∧x.f1≤1000000000) (hwb : ∀ x ∈ b,-1000000000≤x.f1∧x.f1≤1000000000):Ev (fun k=>impl_together.f k a b) (merL a b):=by
 unfold impl_together.f impl_merged_impl_Item__impl_cmpItem_impl_together_1.f
 have:=merged_ev (a.length + b.length) a b [] (Nat.le_refl _) (by simp <;> omega) ha.row hwa hwb
 exact this.bind (ev_now (by simp <;> omega))
theorem implZAdd_ev (a b:List S31) (ha:Small a) (hb:Small b):Ev (fun k=>impl_ZAdd.f k a b) (addZ a b):=by
 unfold impl_ZAdd.f addZ
 refine (implZOk_ev a ha).bind ?_
 by_cases h1:okZ a=true
 ·refine ev_pos h1 ((implZOk_ev b hb).bind ?_)
  by_cases h2:okZ b=true
  ·have l1:=(okZ_facts h1).1
   have l2:=(okZ_facts h2).1
   have e:=merL_addL a b (okZ_canon h1) (okZ_canon h2)
   have T:=told_ev _ (merL_small ha hb (by omega))
   rw [e] at T
   have E:(if okZ (addL a b)=true then (addL a b,true) else ([],false))=(if okZ a=true∧okZ b=true∧okZ (addL a b)=true then (addL a b,true) else (([]:List S31),false)):=by
    by_cases h3:okZ (addL a b)=true
    ·rw [if_pos h3,if_pos ⟨h1,h2,h3⟩]
    ·rw [if_neg h3,if_neg (fun h=>h3 h.2.2)]
   rw [E] at T
   have tog:=together_ev a b ha (by omega) (fun x hx=>by have:=okZ_w h1 x hx; omega) (fun x hx=>by have:=okZ_w h2 x hx; omega)
   rw [e] at tog
   refine ev_pos h2 (tog.bind ?_)
   first
    | exact T
    | exact T.bind (ev_now rfl)
  ·rw [if_neg (fun h=>h2 h.2.1)]
   exact ev_neg h2 (ev_now rfl)
 ·rw [if_neg (fun h=>h1 h.1)]
  exact ev_neg h1 (ev_now rfl)
theorem addZ_small (a b:List S31):Small (addZ a b).1:=by
 unfold addZ
 split
 ·next h=>exact okZ_small h.2.2
 ·exact ⟨by simp,by simp⟩
theorem addZ_ok {a b:List S31} (h:(addZ a b).2=true):okZ a=true∧okZ b=true∧okZ (addL a b)=true∧(addZ a b).1=addL a b:=by
 unfold addZ at h ⊢
 by_cases c:okZ a=true∧okZ b=true∧okZ (addL a b)=true
 ·rw [if_pos c]; exact ⟨c.1,c.2.1,c.2.2,rfl⟩
 ·rw [if_neg c] at h; cases h
theorem equal_ev (a b:List Int) (ha:a.length < 4611686018427387904):Ev (fun k=>slices_Equal_int_int.f k a b) (decide (a=b)):=by
 unfold slices_Equal_int_int.f
 by_cases hl:a.length=b.length
 ·refine ev_pos (by omega) ?_
  have h:=ev_down (fun k i=>slices_Equal_int_int.l0 k a b (a.length:Int) (i:Int)) (fun i=>decide (a.drop i=b.drop i)) a.length ?_ ?_ 0 (by omega)
  ·simpa using h
  ·refine Ev.step (fun k=>slices_Equal_int_int.l0.eq_2 ..) (ev_neg (by omega) (ev_now ?_))
   rw [drop_end a _ (Nat.le_refl _),drop_end b _ (by omega)]; simp
  ·intro i hi ih
   refine Ev.step (fun k=>slices_Equal_int_int.l0.eq_2 ..) (ev_pos (by omega) (ev_pos (by omega) (ev_pos (by omega) (ev_pos (by omega) ?_))))
   rw [drop_rd a i hi,drop_rd b i (by omega)]
   by_cases h1:rd a i=rd b i
   ·refine ev_pos h1 ?_
    rw [w64n (by omega)]
    simpa [h1] using ih
   ·exact ev_neg h1 (ev_now (by simp [h1]))
 ·exact ev_neg (by omega) (ev_now (by symm; rw [decide_eq_false_iff_not]; intro h; exact hl (by rw [h])))
theorem implSame_ev (a b:List Int) (ha:a.length < 4611686018427387904):Ev (fun k=>impl_RowSame.f k a b) (decide (a=b)):=by
 unfold impl_RowSame.f
 exact (equal_ev a b ha).bind (ev_now rfl)
theorem sameItem_ev (x y:S31) (ha:x.f0.length≤1048576):Ev (fun k=>impl_ZSame_1.f k x.f0 x.f1 y.f0 y.f1) (decide (x=y)):=by
 unfold impl_ZSame_1.f
 by_cases h1:x.f1=y.f1
 ·refine ev_pos h1 ((implSame_ev x.f0 y.f0 (by omega)).bind (ev_now ?_))
  rw [decide_eq_decide]
  exact ⟨fun h=>ext_item h h1,fun h=>by rw [h]⟩
 ·exact ev_neg h1 (ev_now (decide_eq_false (fun e=>h1 (by rw [e]))).symm)
theorem implZSame_ev (a b:List S31) (hs:Small a):Ev (fun k=>impl_ZSame.f k a b) (decide (a=b)):=by
 have ha:=hs.len
 have main:Ev (fun k=>slices_EqualFunc_impl_Item_impl_Item_impl_Item_impl_Item__impl_ZSame_1.f k a b) (decide (a=b)):=by
  unfold slices_EqualFunc_impl_Item_impl_Item_impl_Item_impl_Item__impl_ZSame_1.f
  by_cases hl:a.length=b.length
  ·refine ev_pos (by omega) ?_
   have h:=ev_down (fun k i=>slices_EqualFunc_impl_Item_impl_Item_impl_Item_impl_Item__impl_ZSame_1.l0 k b a (a.length:Int) (i:Int)) (fun i=>decide (a.drop i=b.drop i)) a.length ?_ ?_ 0 (by omega)
   ·simpa using h
   ·refine Ev.step (fun k=>slices_EqualFunc_impl_Item_impl_Item_impl_Item_impl_Item__impl_ZSame_1.l0.eq_2 ..) (ev_neg (by omega) (ev_now ?_))
    rw [drop_end a _ (Nat.le_refl _),drop_end b _ (by omega)]; simp
   ·intro i hi ih
    have he:=sameItem_ev a[i] b[i] (hs.row _ (List.getElem_mem _))
    refine Ev.step (fun k=>slices_EqualFunc_impl_Item_impl_Item_impl_Item_impl_Item__impl_ZSame_1.l0.eq_2 ..) (ev_pos (by omega) (ev_pos (by omega) (ev_pos (by omega) (ev_pos (by omega) ?_))))
    rw [rdI_at a i hi,rdI_at b i (by omega)]
    refine he.bind ?_
    rw [drop_at a i hi,drop_at b i (by omega)]
    by_cases h1:a[i]=b[i]
    ·refine ev_pos (decide_eq_true h1) ?_
     rw [w64n (by omega),dec_cons h1]
     exact ih
    ·exact ev_neg (by rw [decide_eq_true_iff]; exact h1) (ev_now (dec_cons_ne h1).symm)
  ·exact ev_neg (by omega) (ev_now (by symm; rw [decide_eq_false_iff_not]; intro h; exact hl (by rw [h])))
 unfold impl_ZSame.f
 exact main.bind (ev_now rfl)
theorem wOf_at (r:List Int) : ∀ (z:List S31) (i:Nat) (h:i < z.length),(∀ j (hj:j < z.length),j < i→z[j].f0≠r)→z[i].f0=r→wOf r z=z[i].f1:=by
 intro z
 induction z with
 | nil=>intro i h; simp at h
 | cons x z ih =>
  intro i h hne he
  cases i with
  | zero=>simp only [List.getElem_cons_zero] at he ⊢; rw [wOf,if_pos he]
  | succ i =>
   have h0:=hne 0 (by simp) (by omega)
   simp only [List.getElem_cons_zero] at h0
   rw [wOf,if_neg h0]
   simp only [List.getElem_cons_succ] at he ⊢
   exact ih i (by simpa using h) (fun j hj hji=>by have:=hne (j + 1) (by simpa using hj) (by omega); simpa using this) he
theorem wOf_none (r:List Int) : ∀ (z:List S31),(∀ x ∈ z,x.f0≠r)→wOf r z=0:=by
 intro z
 induction z with
 | nil=>intro _; rfl
 | cons x z ih=>intro h; rw [wOf,if_neg (h x (by simp)),ih (fun y hy=>h y (by simp [hy]))]
theorem u64w {x:Int} (h0:0≤x) (h1:x < 9223372036854775808):IntKind.u64.wrap x=x:=by
 simp [IntKind.wrap,IntKind.bits,IntKind.signed]; omega
theorem cmpGet_ev (x:S31) (r:List Int) (hx:x.f0.length≤1048576):Ev (fun k=>impl_ZGet_1.f k x.f0 x.f1 r) (lexc x.f0 r):=by
 unfold impl_ZGet_1.f
 exact (compare_ev x.f0 r (by omega)).bind (ev_now rfl)
theorem search_ev (z:List S31) (r:List Int) (hs:Small z) (hp:z.Pairwise (fun x y=>lexc x.f0 y.f0 < 0)) :
 ∃ (n:Nat) (b:Bool),Ev (fun k=>slices_BinarySearchFunc_impl_Item_impl_Item_int__impl_ZGet_1.f k z r) ((n:Int),b) ∧
  (b=true→∃ h:n < z.length,z[n].f0=r∧∀ j (hj:j < z.length),j < n→z[j].f0≠r)∧(b=false→∀ x ∈ z,x.f0≠r):=by
 have hz:=hs.len
 have go : ∀ (d i j:Nat),j - i≤d→i≤j→j≤z.length→(∀ m (hm:m < z.length),m < i→lexc z[m].f0 r < 0)→(∀ m (hm:m < z.length),j≤m→¬ lexc z[m].f0 r < 0) →
  ∃ (n:Nat) (b:Bool),Ev (fun k=>slices_BinarySearchFunc_impl_Item_impl_Item_int__impl_ZGet_1.l0 k z r (z.length:Int) (i:Int) (j:Int)) ((n:Int),b) ∧
   (b=true→∃ h:n < z.length,z[n].f0=r∧∀ j (hj:j < z.length),j < n→z[j].f0≠r)∧(b=false→∀ x ∈ z,x.f0≠r):=by
  intro d
  induction d with
  | zero =>
   intro i j hd hij hj lo hi
   obtain rfl:i=j:=by omega
   by_cases hin:i < z.length
   ·have hc:=cmpGet_ev z[i] r (hs.row _ (List.getElem_mem hin))
    refine ⟨i,decide (lexc z[i].f0 r=0),Ev.step (fun k=>slices_BinarySearchFunc_impl_Item_impl_Item_int__impl_ZGet_1.l0.eq_2 ..) (ev_neg (by omega) (ev_pos (by omega) (ev_pos (by omega) (ev_pos (by omega) ?_)))),?_,?_⟩
    ·rw [rdI_at z i hin]
     exact hc.bind (ev_now (by rw [Prod.mk.injEq]; exact ⟨rfl,by rw [Bool.eq_iff_iff]; simp⟩))
    ·intro hb
     have e:z[i].f0=r:=(lexc_zero _ _).1 (by simpa using hb)
     refine ⟨hin,e,fun m hm hmi he=>?_⟩
     have:=lo m hm hmi
     rw [(lexc_zero _ _).2 he] at this
     omega
    ·intro hb x hx he
     have hne : ¬ lexc z[i].f0 r=0:=by simpa using hb
     obtain ⟨m,hm,rfl⟩:=List.getElem_of_mem hx
     have h0:=(lexc_zero _ _).2 he
     by_cases hmi:m < i
     ·have:=lo m hm hmi; omega
     ·by_cases e:m=i
      ·subst e; exact hne h0
      ·have h1:=pairwise_at hp hin hm (by omega)
       rw [he] at h1
       exact hi i hin (Nat.le_refl _) h1
   ·refine ⟨i,false,Ev.step (fun k=>slices_BinarySearchFunc_impl_Item_impl_Item_int__impl_ZGet_1.l0.eq_2 ..) (ev_neg (by omega) (ev_neg (by omega) (ev_now rfl))),by simp,fun _ x hx he=>?_⟩
    obtain ⟨m,hm,rfl⟩:=List.getElem_of_mem hx
    have h1:=lo m hm (by omega)
    rw [(lexc_zero _ _).2 he] at h1
    omega
  | succ d ih =>
   intro i j hd hij hj lo hi
   by_cases hlt:i < j
   ·have e:wrap64 ((IntKind.u64.wrap (wrap64 ((i:Int) + j))) / 2)=(((i + j) / 2:Nat):Int):=by
     rw [w64 (x:=(i:Int) + j) (by omega) (by omega),u64w (by omega) (by omega),w64 (by omega) (by omega)]
     omega
    have hm:(i + j) / 2 < z.length:=by omega
    have hc:=cmpGet_ev z[(i + j) / 2] r (hs.row _ (List.getElem_mem hm))
    by_cases c:lexc z[(i + j) / 2].f0 r < 0
    ·obtain ⟨n,b,h1,h2⟩:=ih ((i + j) / 2 + 1) j (by omega) (by omega) hj (fun m hm' hlt'=>by
      by_cases e2:m=(i + j) / 2
      ·subst e2; exact c
      ·exact lexc_trans _ _ _ (pairwise_at hp hm' hm (by omega)) c) hi
     refine ⟨n,b,Ev.step (fun k=>slices_BinarySearchFunc_impl_Item_impl_Item_int__impl_ZGet_1.l0.eq_2 ..) (ev_pos (by omega) ?_),h2⟩
     rw [e]
     refine ev_pos (by omega) (ev_pos (by omega) ?_)
     rw [rdI_at z _ hm]
     refine hc.bind (ev_pos c ?_)
     rw [w64n (by omega)]
     exact h1
    ·obtain ⟨n,b,h1,h2⟩:=ih i ((i + j) / 2) (by omega) (by omega) (by omega) lo (fun m hm' hle h=>by
      by_cases e2:m=(i + j) / 2
      ·subst e2; exact c h
      ·exact c (lexc_trans _ _ _ (pairwise_at hp hm hm' (by omega)) h))
     refine ⟨n,b,Ev.step (fun k=>slices_BinarySearchFunc_impl_Item_impl_Item_int__impl_ZGet_1.l0.eq_2 ..) (ev_pos (by omega) ?_),h2⟩
     rw [e]
     refine ev_pos (by omega) (ev_pos (by omega) ?_)
     rw [rdI_at z _ hm]
     exact hc.bind (ev_neg c h1)
   ·obtain rfl:i=j:=by omega
    exact ih i i (by omega) hij hj lo hi
 obtain ⟨n,b,h1,h2⟩:=go z.length 0 z.length (by omega) (by omega) (Nat.le_refl _) (by simp) (fun m hm h=>by omega)
 exact ⟨n,b,by simpa [slices_BinarySearchFunc_impl_Item_impl_Item_int__impl_ZGet_1.f] using h1,h2⟩
theorem implZGet_ev (z:List S31) (r:List Int) (hs:Small z):Ev (fun k=>impl_ZGet.f k z r) (getZ z r):=by
 unfold impl_ZGet.f getZ
 refine (implZOk_ev z hs).bind ?_
 cases hk:okZ z with
 | false=>exact ev_neg (by simp) (ev_now (by simp))
 | true =>
  obtain ⟨_,hp,_⟩:=okZ_facts hk
  obtain ⟨n,b,h1,h2,h3⟩:=search_ev z r hs hp
  refine ev_pos rfl (h1.bind ?_)
  rw [if_pos rfl]
  cases b with
  | false =>
   refine ev_neg (by simp) (ev_now ?_)
   rw [wOf_none r z (h3 rfl)]
  | true =>
   obtain ⟨hn,he,hne⟩:=h2 rfl
   refine ev_pos rfl (ev_pos (by omega) (ev_pos (by omega) (ev_now ?_)))
   rw [wOf_at r z n hn hne he]
   show (rd_T31 z (n:Int)).f1=_
   rw [rdI_at z n hn]
theorem mates_at (x y:Int) (b:List S31) (p:S31) (k:Nat) (h:k < b.length):(Hp.mates x y (b.drop k) p).length=(if Hp.cellAt b[k] y=Hp.cellAt p x then 1 else 0) + (Hp.mates x y (b.drop (k + 1)) p).length:=by
 rw [drop_at b k h,mates_cons,List.length_append]
 split <;> rfl
theorem pairs_at (x y:Int) (a b:List S31) (i:Nat) (h:i < a.length):(Hp.pairsOf x y (a.drop i) b).length=(Hp.mates x y b a[i]).length + (Hp.pairsOf x y (a.drop (i + 1)) b).length:=by
 rw [drop_at a i h]
 show ((Hp.mates x y b a[i]).map (Hp.joined a[i]) ++ Hp.pairsOf x y (a.drop (i + 1)) b).length=_
 rw [List.length_append,List.length_map]
theorem one_row {x y:Int} {a b:List S31} (hb:okZ b=true) (i k:Nat) (hi:i < a.length) (hk:k < b.length) (ha:a.length < 2) (h0:a[i].f1≠0) (e:cellR b[k].f0 y=cellR a[i].f0 x):wOf (a[i].f0 ++ b[k].f0) (addL [] (Hp.pairsOf x y a b))≠0:=by
 have h1:a = [a[i]]:=by
  obtain rfl:i=0:=by omega
  exact List.ext_getElem (by simp; omega) (fun j h2 h3=>by
   obtain rfl:j=0:=by omega
   rfl)
 have h2:dot (kern x y b (fun s=>if s=a[i].f0 ++ b[k].f0 then 1 else 0)) a=a[i].f1 * b[k].f1:=by
  rw [show dot (kern x y b (fun s=>if s=a[i].f0 ++ b[k].f0 then 1 else 0)) a=dot (kern x y b (fun s=>if s=a[i].f0 ++ b[k].f0 then 1 else 0)) [a[i]] from congrArg _ h1,dot,dot,Int.add_zero]
  congr 1
  rw [← wOf_mem (okZ_canon hb) (List.getElem_mem hk),← sumW_canon _ _ (okZ_canon hb),sumW_dot]
  refine dot_congr b (fun q _=>?_)
  dsimp only
  by_cases c:q.f0=b[k].f0
  ·rw [if_pos c,if_pos (by rw [c]; exact e),if_pos (by rw [c])]
  ·rw [if_neg c,if_neg (fun h=>c (List.append_cancel_left h))]
   split <;> rfl
 rw [wOf_join,h2]
 exact Int.mul_ne_zero h0 (okZ_w hb _ (List.getElem_mem hk)).2.2
theorem mul_small {p q:Int} (hp : -10000≤p∧p≤10000) (hq : -10000≤q∧q≤10000) : -9000000000000≤p * q∧p * q≤9000000000000:=by
 have:=mul_le4 hp.1 hp.2 hq.1 hq.2
 omega
theorem join_inner (c:List Int) (a b:List S31) (x y T:Int) (oa:okZ a=true) (ob:okZ b=true) (oj:okZ (addL [] (Hp.pairsOf x y a b))=true) (hx:Hp.wideAll x a=true) (hy:Hp.wideAll y b=true) (hT:T≤10000) (i:Nat) (hi:i < a.length)
 (next : ∀ n:Int,0≤n→n + ((Hp.pairsOf x y (a.drop (i + 1)) b).length:Int)=T→Ev (fun k=>laws_FnJoin.l0 k c a b x y (addL [] (Hp.pairsOf x y a b)) n ((i + 1:Nat):Int)) true) :
 ∀ (d j:Nat) (n:Int),j + d=b.length→0≤n→n + ((Hp.mates x y (b.drop j) a[i]).length:Int) + ((Hp.pairsOf x y (a.drop (i + 1)) b).length:Int)=T→Ev (fun k=>laws_FnJoin.l1 k c a b x y (addL [] (Hp.pairsOf x y a b)) n (i:Int) (j:Int)) true:=by
 have hla:=(okZ_facts oa).1
 have hlb:=(okZ_facts ob).1
 obtain ⟨hx0,hx1⟩:=wide_at hx i hi
 intro d
 induction d with
 | zero =>
  intro j n hj hn he
  rw [drop_end b j (by omega)] at he
  refine Ev.step (fun k=>laws_FnJoin.l1.eq_2 ..) (ev_neg (by omega) ?_)
  rw [w64n (by omega)]
  exact next n hn (by simpa [Hp.mates] using he)
 | succ d ih =>
  intro j n hj hn he
  have hjl:j < b.length:=by omega
  obtain ⟨hy0,hy1⟩:=wide_at hy j hjl
  have hp:=List.getElem_mem hi
  have hq:=List.getElem_mem hjl
  rw [mates_at x y b a[i] j hjl] at he
  have a0:0 < a.length:=by omega
  have b0:0 < b.length:=by omega
  have r0:=rdI_at a 0 a0
  have r1:=rdI_at b 0 b0
  rw [show ((0:Nat):Int)=0 from rfl] at r0 r1
  refine Ev.step (fun k=>laws_FnJoin.l1.eq_2 ..) (ev_pos (by omega) (ev_pos (by omega) (ev_pos (by omega) (ev_pos hx0 ?_))))
  rw [rdI_at a i hi,rdI_at b j hjl,r0,r1]
  refine ev_pos hx1 (ev_pos (by omega) (ev_pos hy0 (ev_pos hy1 ?_)))
  rw [w64n (by omega)]
  by_cases e:rd a[i].f0 x=rd b[j].f0 y
  ·rw [if_pos (show Hp.cellAt b[j] y=Hp.cellAt a[i] x from e.symm)] at he
   rw [w64 (x:=n + 1) (by omega) (by omega)]
   have on:=ih (j + 1) (n + 1) (by omega) (by omega) (by omega)
   refine ev_pos e (ev_pos (by omega) ?_)
   by_cases c1:(a[i].f0.length:Int)=(a[0].f0.length:Int)
   case neg=>exact ev_neg c1 on
   refine ev_pos c1 (ev_pos (by omega) ?_)
   by_cases c2:(b[j].f0.length:Int)=(b[0].f0.length:Int)
   case neg=>exact ev_neg c2 on
   refine ev_pos c2 ?_
   have w0:=okZ_w oa _ (List.getElem_mem a0)
   have w1:=okZ_w ob _ (List.getElem_mem b0)
   have hm:=mul_small ⟨w0.1,w0.2.1⟩ ⟨w1.1,w1.2.1⟩
   rw [w64 (x:=a[0].f1 * b[0].f1) (by omega) (by omega)]
   refine ev_neg (Int.mul_ne_zero w0.2.2 w1.2.2) ?_
   have ra:=okRow_mem ((okZ_facts oa).2.2 _ hp).1
   have rb:=okRow_mem ((okZ_facts ob).2.2 _ hq).1
   refine (implJoin_ev a[i].f0 b[j].f0 (by omega)).bind ((implZGet_ev _ (a[i].f0 ++ b[j].f0) (okZ_small oj)).bind ?_)
   by_cases c3:getZ (addL [] (Hp.pairsOf x y a b)) (a[i].f0 ++ b[j].f0)=0
   case neg=>exact ev_neg c3 on
   refine ev_pos c3 (ev_neg (fun h2=>?_) on)
   unfold getZ at c3
   rw [if_pos oj] at c3
   exact one_row ob i j hi hjl (by omega) (okZ_w oa _ hp).2.2 e.symm c3
  ·rw [if_neg (show ¬ Hp.cellAt b[j] y=Hp.cellAt a[i] x from fun h=>e h.symm)] at he
   exact ev_neg e (ih (j + 1) n (by omega) hn (by omega))
theorem join_outer (c:List Int) (a b:List S31) (x y T:Int) (oa:okZ a=true) (ob:okZ b=true) (oj:okZ (addL [] (Hp.pairsOf x y a b))=true) (ow:a = []∨b = []∨(Hp.wideAll x a=true∧Hp.wideAll y b=true)) (hT:T≤10000)
 (last:Ev (fun k=>laws_FnJoin.l0 k c a b x y (addL [] (Hp.pairsOf x y a b)) T (a.length:Int)) true) :
 ∀ (d i:Nat) (n:Int),i + d=a.length→0≤n→n + ((Hp.pairsOf x y (a.drop i) b).length:Int)=T→Ev (fun k=>laws_FnJoin.l0 k c a b x y (addL [] (Hp.pairsOf x y a b)) n (i:Int)) true:=by
 have hla:=(okZ_facts oa).1
 intro d
 induction d with
 | zero =>
  intro i n hi _ he
  rw [drop_end a i (by omega)] at he
  obtain rfl:i=a.length:=by omega
  obtain rfl:n=T:=by simpa [Hp.pairsOf] using he
  exact last
 | succ d ih =>
  intro i n hi hn he
  have hil:i < a.length:=by omega
  rw [pairs_at x y a b i hil] at he
  refine Ev.step (fun k=>laws_FnJoin.l0.eq_2 ..) (ev_pos (by omega) ?_)
  by_cases hb:b = []
  ·refine Ev.step (fun k=>laws_FnJoin.l1.eq_2 ..) (ev_neg (by rw [hb]; simp) ?_)
   rw [w64n (by omega)]
   refine ih (i + 1) n (by omega) hn ?_
   rw [show (Hp.mates x y b a[i]).length=0 by rw [hb]; rfl] at he
   omega
  ·have h2:Hp.wideAll x a=true∧Hp.wideAll y b=true:=by
    rcases ow with e | e | e
    ·rw [e] at hil; exact absurd hil (by simp)
    ·exact absurd e hb
    ·exact e
   exact join_inner c a b x y T oa ob oj h2.1 h2.2 hT i hil (fun n h1 h3=>ih (i + 1) n (by omega) h1 h3) b.length 0 n (by omega) hn (by rw [List.drop_zero]; omega)
/-- joined with more it is the two joins together -/
theorem join_add (x y:Int) (a b c:List S31):addL (addL [] (Hp.pairsOf x y a b)) (addL [] (Hp.pairsOf x y a c))=addL [] (Hp.pairsOf x y a (addL b c)):=by
 have hc:=addL_canon (Hp.pairsOf x y a b) [] Canon.nil
 have hc2:=addL_canon (Hp.pairsOf x y a c) [] Canon.nil
 refine canon_ext (addL_canon _ _ hc) (addL_canon _ _ Canon.nil) (fun r=>?_)
 rw [addL_wOf r _ _ hc hc2,wOf_join,wOf_join,wOf_join,← dot_add]
 refine dot_congr a (fun p _=>?_)
 unfold kern
 rw [dot_addL]
theorem FnJoin:laws_FnJoin.Pure:=by
 intro code more _ _ hw _ _ hw2
 refine Ev.rounds ?_
 unfold laws_FnJoin.f
 by_cases h1:(code.length:Int) > 1048576
 ·exact ev_pos h1 (ev_now rfl)
 refine ev_neg h1 ?_
 by_cases h2:(more.length:Int) > 1048576
 ·exact ev_pos h2 (ev_now rfl)
 refine ev_neg h2 ?_
 obtain ⟨a,b,x,y,hd,da,db,_,_⟩:=drawJoinOf_ev code hw
 obtain ⟨c,c',z,z',hd2,dc,_,_,_⟩:=drawJoinOf_ev more hw2
 have sa:=da.small (by omega)
 have sb:=db.small (by omega)
 have sc:=dc.small (by omega)
 have im:=implJoinOf_ev x y a b sa sb
 have sp:=specJoinOf_ev x y a b sa sb
 have sj:=joinZ_small x y a b
 have zs:=implZSame_ev (joinZ x y a b).1 (joinZ x y a b).1 sj
 rw [decide_eq_true rfl] at zs
 refine hd.bind (im.bind (sp.bind (ev_neg (by simp) ?_)))
 dsimp only
 refine zs.bind (ev_pos rfl ?_)
 by_cases hok:(joinZ x y a b).2=true
 case neg =>
  refine ev_neg hok (ev_now ?_)
  have e:(joinZ x y a b).1 = []:=by
   unfold joinZ at hok ⊢
   split
   ·next h=>rw [if_pos h] at hok; exact absurd rfl hok
   ·rfl
  rw [e]; rfl
 refine ev_pos hok ?_
 obtain ⟨oa,ob,ox,oy,ow,oj,ej⟩:=joinZ_ok hok
 rw [ej] at sj ⊢
 have hla:=(okZ_facts oa).1
 have hlb:=(okZ_facts ob).1
 have hT:(Hp.pairsOf x y a b).length≤10000:=Nat.le_trans (pairsOf_len x y b a) (Nat.mul_le_mul hla hlb)
 have hlen:=addL_len (Hp.pairsOf x y a b) []
 rw [List.length_nil,Nat.zero_add] at hlen
 refine join_outer more a b x y ((Hp.pairsOf x y a b).length:Int) oa ob oj ow (by omega) ?_ a.length 0 0 (by omega) (by omega) (by rw [List.drop_zero]; omega)
 have z1:=implZAdd_ev b c sb sc
 have ss:=addZ_small b c
 have j1:=implJoinOf_ev x y a c sa sc
 have su:=joinZ_small x y a c
 have j2:=implJoinOf_ev x y a (addZ b c).1 sa ss
 have z2:=implZAdd_ev (addL [] (Hp.pairsOf x y a b)) (joinZ x y a c).1 sj su
 refine Ev.step (fun k=>laws_FnJoin.l0.eq_2 ..) (ev_neg (by omega) (hd2.bind (z1.bind (j1.bind (j2.bind (z2.bind (ev_pos (by omega) ?_)))))))
 by_cases k1:(addZ b c).2=true
 case neg=>exact ev_neg k1 (ev_now rfl)
 refine ev_pos k1 ?_
 by_cases k2:(joinZ x y a c).2=true
 case neg=>exact ev_neg k2 (ev_now rfl)
 refine ev_pos k2 ?_
 by_cases k3:(joinZ x y a (addZ b c).1).2=true
 case neg=>exact ev_neg k3 (ev_now rfl)
 refine ev_pos k3 ?_
 by_cases k4:(addZ (addL [] (Hp.pairsOf x y a b)) (joinZ x y a c).1).2=true
 case neg=>exact ev_neg k4 (ev_now rfl)
 refine ev_pos k4 ?_
 have e:(addZ (addL [] (Hp.pairsOf x y a b)) (joinZ x y a c).1).1=(joinZ x y a (addZ b c).1).1:=by
  rw [(addZ_ok k4).2.2.2,(joinZ_ok k3).2.2.2.2.2.2,(joinZ_ok k2).2.2.2.2.2.2,(addZ_ok k1).2.2.2]
  exact join_add x y a b c
 rw [← e]
 have zs2:=implZSame_ev (addZ (addL [] (Hp.pairsOf x y a b)) (joinZ x y a c).1).1 (addZ (addL [] (Hp.pairsOf x y a b)) (joinZ x y a c).1).1 (addZ_small _ _)
 rw [decide_eq_true rfl] at zs2
 exact zs2.bind (ev_now rfl)

end Go.Proofs.YtlknceioincaeaaDoor.Pure
