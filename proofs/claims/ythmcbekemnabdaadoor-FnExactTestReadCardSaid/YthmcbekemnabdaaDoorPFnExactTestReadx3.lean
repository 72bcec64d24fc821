-- Written by wip/tools/pp.py, a program of this session over the kit's printer: not the kit's own print
import Derived.Test.YthmcbekemnabdaaDoorPFnExactTestReadx0
import Derived.Test.YthmcbekemnabdaaDoorPFnExactTestReadx2
namespace Go.Proofs.YthmcbekemnabdaaDoor.PFnExactTestRead
open Go.RowKit Go.Proofs.YthmcbekemnabdaaDoorW.PrintWords Go.Proofs.YthmcbekemnabdaaDoorW.PrintLast Go.Proofs.YthmcbekemnabdaaDoorW.PrintMore
attribute [local go_sem] max2_int min2_int max_two min_two max_three min_three max_four min_four   -- for this text's walks alone
set_option linter.unusedVariables false
set_option linter.unusedSimpArgs false

/-! ### spec_TestRead: function 8 (by hand) -/
theorem Addr_add_add (a:Addr) (i j:Nat):(a.add i).add j=a.add (i + j):=by
 unfold Addr.add
 repeat' split
 all_goals first|rfl|omega|(simp_all;done)|(simp_all;omega)
section
variable {P:Program} {ops:Array Oper} {rest:List Oper} {o:Oper} {a:Act} {Q:Exit→Act→World→Prop}
/-- A struct is loaded whole, its cells told as a list that is not laid open. -/
theorem load_ {W:World} (ty:TypeId) (x:Operand) (ho:o.op=.load ty x) (hgd:o.guard=none) (ad:Addr) (hx:a.eval x=.pointer (some ad)) (cs:List Value) (fs:Array Field) (hu:P.underlying ty=some (.struct fs)) (hi:(P.info? ty).map (·.size)=some cs.length)
  (hc : ∀ j v,cs[j]?=some v→W.cell? (ad.add j)=some v) (h:wpList P ops Q rest (a.put o.dst (.agg cs.toArray)) W):wpList P ops Q (o :: rest) a W:=by
 refine wpList_plain hgd fun K hK=>?_
 have hl:(loadCells ad cs.length).run P W=.ok cs.toArray W:=run_loadCells_list (P:=P) W ad cs hc
 have hr:(loadVar ty ad).run P W=.ok (.agg cs.toArray) W:=by
  cases hq:P.info? ty with
  | none=>simp [hq] at hi
  | some i =>
   have hs:i.size=cs.length:=by simpa [hq] using hi
   have hagg:(isAgg ty).run P W=.ok true W:=by
    unfold isAgg
    rw [Sem.run_bind,run_underlying hu W]
    simp
   simp [loadVar,Sem.run_bind,hagg,sizeOf,typeInfo,hq,hs,hl]
 unfold Oper.wp execOp
 simp only [ho,hx,Instr.loadAt,Instr.sureAddr,Sem.run_bind,Sem.run_pure,Result.andThen_ok,hr]
 exact hK _ _ h
end
section
variable {P:Program} {ops:Array Oper} {rest:List Oper} {o:Oper} {a:Act} {Q:Exit→Act→World→Prop}
/-- A variable of a struct's type is laid. -/
theorem alloc_ {W:World} (ty:TypeId) (ho:o.op=.alloc ty) (hgd:o.guard=none) (z:List Value) (n b:Nat) (hi:(P.info? ty).map (fun i=>(i.zero,i.size,i.bytes))=some (some (.agg z.toArray),n,b))
  (h : ∀ g,g=W.heap.size→∀ w1,w1.heap[g]?=some (.cells z.toArray ty (0,0))→Below W.heap.size W w1→wpList P ops Q rest (a.put o.dst (.pointer (some ⟨g,0,none⟩))) w1):wpList P ops Q (o :: rest) a W:=by
 refine Kd.event_run hgd ?_ (h _ rfl _ (blk_new W _) (below_alloc (Below.refl _ _) _))
 obtain ⟨i,hi1,hi2⟩:=Option.map_eq_some_iff.1 hi
 simp only [Prod.mk.injEq] at hi2
 obtain ⟨hz,-,-⟩:=hi2
 unfold execOp
 simp only [ho]
 simp [Instr.alloc,zeroValue,typeInfo,hi1,hz,go_sem]
/-- A store into a block of one's own: what the block is behind it. -/
theorem store_ {W:World} (t:TypeId) (p x:Operand) (ho:o.op=.store t p x) (hd:o.dst=none) (hgd:o.guard=none) (g o':Nat) (hp:a.eval p=.pointer (some ⟨g,o',none⟩)) (u:Value) (hx:a.eval x=u) (seg:List Value) (hu:u.cells.toList=seg)
  (ht:(P.info? t).map (·.size)=some seg.length) (h1 : ∀ q ∈ seg,q.oneCell'=true) (cur:List Value) (e:TypeId) (hh:W.heap[g]?=some (.cells cur.toArray e (0,0))) (hfit:o' + seg.length≤cur.length)
  (h : ∀ w1,w1.heap[g]?=some (.cells (cur.take o' ++ seg ++ cur.drop (o' + seg.length)).toArray e (0,0))→W.grownBy w1 (some g)→wpList P ops Q rest a w1):wpList P ops Q (o :: rest) a W:=by
 have hrun:=run_store_run (P:=P) t u seg hh hu ht (by simpa using hfit) h1
 obtain ⟨cur',h3,h4,h5⟩:=setCells_row seg o' W cur.toArray hh (by simpa using hfit)
 obtain ⟨s1,s2,s3,s4⟩:=setCells_same g seg o' W
 refine wpList_plain hgd fun K hK=>?_
 unfold Oper.wp execOp
 simp only [ho,hp,hx,Sem.run_bind,Sem.run_pure,Result.andThen_ok,hrun]
 show K (a.put o.dst undef) _
 rw [hd]
 refine hK a _ (h _ ?_ ⟨s1,s2,s3,by rw [s4];exact Nat.le_refl _,fun k _ hk=>setCells_far _ _ k (fun he=>hk (by rw [he]))⟩)
 rw [h3]
 congr 2
 apply Array.toList_inj.1
 rw [h5]
end
theorem sub_ {W:World} {g e:Nat} {cs:Array Value} (h:W.heap[g]?=some (.cells cs e (0,0))) (pre mid post:List Value) (hcs:cs.toList=pre ++ (mid ++ post)) : ∀ j v,mid[j]?=some v→W.cell? ((⟨g,pre.length,none⟩:Addr).add j)=some v:=by
 intro j v hj
 rw [Addr.add_mid,blk_cell h,← Array.getElem?_toList,hcs,List.getElem?_append_right (by omega),Nat.add_sub_cancel_left,List.getElem?_append_left (List.getElem?_eq_some_iff.1 hj).1]
 exact hj
section
variable {P:Program} {ops:Array Oper} {rest:List Oper} {o:Oper} {a:Act} {Q:Exit→Act→World→Prop}
/-- A whole struct is stored into a variable of its type. -/
theorem storeAll_ {W:World} (t:TypeId) (p x:Operand) (ho:o.op=.store t p x) (hd:o.dst=none) (hgd:o.guard=none) (g:Nat) (hp:a.eval p=.pointer (some ⟨g,0,none⟩)) (seg:List Value) (hx:a.eval x=.agg seg.toArray)
  (ht:(P.info? t).map (·.size)=some seg.length) (h1 : ∀ q ∈ seg,q.oneCell'=true) (cur:List Value) (e:TypeId) (hh:W.heap[g]?=some (.cells cur.toArray e (0,0))) (hfit:seg.length=cur.length)
  (h : ∀ w1,w1.heap[g]?=some (.cells seg.toArray e (0,0))→W.grownBy w1 (some g)→wpList P ops Q rest a w1):wpList P ops Q (o :: rest) a W :=
 store_ t p x ho hd hgd g 0 hp (.agg seg.toArray) hx seg rfl ht h1 cur e hh (by omega) (fun w1 hb hg=>h w1 (by
  have e:cur.take 0 ++ seg ++ cur.drop (0 + seg.length)=seg:=by rw [List.take_zero,List.nil_append,List.drop_of_length_le (by omega),List.append_nil]
  rw [e] at hb;exact hb) hg)
/-- A struct in a variable is loaded whole. -/
theorem loadVar_ {W:World} (ty:TypeId) (x:Operand) (ho:o.op=.load ty x) (hgd:o.guard=none) (g:Nat) (hx:a.eval x=.pointer (some ⟨g,0,none⟩)) (cs:List Value) (fs:Array Field) (hu:P.underlying ty=some (.struct fs)) (hi:(P.info? ty).map (·.size)=some cs.length)
  (e:TypeId) (hh:W.heap[g]?=some (.cells cs.toArray e (0,0))) (h:wpList P ops Q rest (a.put o.dst (.agg cs.toArray)) W):wpList P ops Q (o :: rest) a W :=
 load_ ty x ho hgd ⟨g,0,none⟩ hx cs fs hu hi (sub_ hh [] cs [] (by simp)) h
end
theorem range_ {W:World} {g e:Nat} {cs:List Value} (h:W.heap[g]?=some (.cells cs.toArray e (0,0))):W.rangeAt g 0 cs:=fun j v hj=>by
 rw [Nat.zero_add,blk_cell h];simpa using hj
section
variable {P:Program} {ops:Array Oper} {rest:List Oper} {o:Oper} {a:Act} {Q:Exit→Act→World→Prop}
/-- A struct is loaded whole, by an operation that is guarded (and let by). -/
theorem loadW_ {W:World} (ty:TypeId) (x:Operand) (ho:o.op=.load ty x) (hw:Region.wanted o (yielded ops a.tmps)=true) (ad:Addr) (hx:a.eval x=.pointer (some ad)) (cs:List Value) (fs:Array Field) (hu:P.underlying ty=some (.struct fs)) (hi:(P.info? ty).map (·.size)=some cs.length)
  (hc : ∀ j v,cs[j]?=some v→W.cell? (ad.add j)=some v) (h:wpList P ops Q rest (a.put o.dst (.agg cs.toArray)) W):wpList P ops Q (o :: rest) a W:=by
 refine wpList_step fun K hK=>?_
 rw [if_pos hw]
 have hl:(loadCells ad cs.length).run P W=.ok cs.toArray W:=run_loadCells_list (P:=P) W ad cs hc
 have hr:(loadVar ty ad).run P W=.ok (.agg cs.toArray) W:=by
  cases hq:P.info? ty with
  | none=>simp [hq] at hi
  | some i =>
   have hs:i.size=cs.length:=by simpa [hq] using hi
   have hagg:(isAgg ty).run P W=.ok true W:=by
    unfold isAgg
    rw [Sem.run_bind,run_underlying hu W]
    simp
   simp [loadVar,Sem.run_bind,hagg,sizeOf,typeInfo,hq,hs,hl]
 unfold Oper.wp execOp
 simp only [ho,hx,Instr.loadAt,Instr.sureAddr,Sem.run_bind,Sem.run_pure,Result.andThen_ok,hr]
 exact hK _ _ h
end
section
variable {P:Program} {ops:Array Oper} {o:Oper} {a:Act} {Q:Exit→Act→World→Prop}
/-- A store into a block of one's own, in a region that draws its order. -/
theorem storeH_ {W:World} {K:Act→World→Prop} (t:TypeId) (p x:Operand) (ho:o.op=.store t p x) (hd:o.dst=none) (hw:Region.wanted o (yielded ops a.tmps)=true) (g o':Nat) (hp:a.eval p=.pointer (some ⟨g,o',none⟩)) (u:Value) (hx:a.eval x=u) (seg:List Value) (hu:u.cells.toList=seg)
  (ht:(P.info? t).map (·.size)=some seg.length) (h1 : ∀ q ∈ seg,q.oneCell'=true) (cur:List Value) (e:TypeId) (hh:W.heap[g]?=some (.cells cur.toArray e (0,0))) (hfit:o' + seg.length≤cur.length)
  (h : ∀ w1,w1.heap[g]?=some (.cells (cur.take o' ++ seg ++ cur.drop (o' + seg.length)).toArray e (0,0))→W.grownBy w1 (some g)→K a w1):if Region.wanted o (yielded ops a.tmps)=true then Oper.wp P o a W K Q else K (a.put o.dst undef) W:=by
 rw [if_pos hw]
 have hrun:=run_store_run (P:=P) t u seg hh hu ht (by simpa using hfit) h1
 obtain ⟨cur',h3,h4,h5⟩:=setCells_row seg o' W cur.toArray hh (by simpa using hfit)
 obtain ⟨s1,s2,s3,s4⟩:=setCells_same g seg o' W
 unfold Oper.wp execOp
 simp only [ho,hp,hx,Sem.run_bind,Sem.run_pure,Result.andThen_ok,hrun]
 show K (a.put o.dst undef) _
 rw [hd]
 refine h _ ?_ ⟨s1,s2,s3,by rw [s4];exact Nat.le_refl _,fun k _ hk=>setCells_far _ _ k (fun he=>hk (by rw [he]))⟩
 rw [h3]
 congr 2
 apply Array.toList_inj.1
 rw [h5]
end
/-- The walk's own blocks: what comes back, the test, and the cells that are laid so far. -/
structure TS (w:World) (gr gt:Nat) (cr ct:List Value) (bs:List (Nat × List Value)) (W:World):Prop where
 hR:W.heap[gr]?=some (.cells cr.toArray 29 (0,0))
 hT:W.heap[gt]?=some (.cells ct.toArray 29 (0,0))
 hB : ∀ p ∈ bs,W.heap[p.1]?=some (.cells p.2.toArray 23 (0,0))∧p.1≠gt∧p.1≠gr
 bel:Below w.heap.size w W
 ge:w.heap.size≤gr
 ge':w.heap.size≤gt
 ne:gr≠gt
theorem TS.call {w:World} {gr gt:Nat} {cr ct:List Value} {bs:List (Nat × List Value)} {W W1:World} (h:TS w gr gt cr ct bs W) (hb:Below W.heap.size W W1):TS w gr gt cr ct bs W1 :=
 ⟨(hb.block gr (blk_lt h.hR)).trans h.hR,(hb.block gt (blk_lt h.hT)).trans h.hT,fun p hp=>⟨(hb.block p.1 (blk_lt (h.hB p hp).1)).trans (h.hB p hp).1,(h.hB p hp).2⟩,below_step h.bel hb,h.ge,h.ge',h.ne⟩
theorem TS.storeT {w:World} {gr gt:Nat} {cr ct ct':List Value} {bs:List (Nat × List Value)} {W W1:World} (h:TS w gr gt cr ct bs W) (hb:W1.heap[gt]?=some (.cells ct'.toArray 29 (0,0))) (hg:W.grownBy W1 (some gt)):TS w gr gt cr ct' bs W1 :=
 ⟨(hg.block gr (blk_lt h.hR) (fun e=>h.ne (by injection e))).trans h.hR,hb,fun p hp=>⟨(hg.block p.1 (blk_lt (h.hB p hp).1) (fun e=>(h.hB p hp).2.1 (by injection e))).trans (h.hB p hp).1,(h.hB p hp).2⟩,h.bel.grown hg h.bel.size (fun k e=>by injection e with e;rw [← e];exact h.ge'),h.ge,h.ge',h.ne⟩
theorem TS.storeR {w:World} {gr gt:Nat} {cr cr' ct:List Value} {bs:List (Nat × List Value)} {W W1:World} (h:TS w gr gt cr ct bs W) (hb:W1.heap[gr]?=some (.cells cr'.toArray 29 (0,0))) (hg:W.grownBy W1 (some gr)):TS w gr gt cr' ct bs W1 :=
 ⟨hb,(hg.block gt (blk_lt h.hT) (fun e=>h.ne (by injection e with e;exact e.symm))).trans h.hT,fun p hp=>⟨(hg.block p.1 (blk_lt (h.hB p hp).1) (fun e=>(h.hB p hp).2.2 (by injection e))).trans (h.hB p hp).1,(h.hB p hp).2⟩,h.bel.grown hg h.bel.size (fun k e=>by injection e with e;rw [← e];exact h.ge),h.ge,h.ge',h.ne⟩
/-- A new cell's block: laid at the world's end and written. -/
theorem TS.add {w:World} {gr gt:Nat} {cr ct:List Value} {bs:List (Nat × List Value)} {W W1 W2:World} (h:TS w gr gt cr ct bs W) {g:Nat} {c:List Value} (hg:g=W.heap.size) (h1:Below W.heap.size W W1) (hb:W2.heap[g]?=some (.cells c.toArray 23 (0,0))) (hgr:W1.grownBy W2 (some g)):TS w gr gt cr ct ((g,c) :: bs) W2:=by
 have h2:=h.call (h1.grown hgr h1.size (fun k e=>by injection e with e;rw [← e];exact Nat.le_of_eq hg.symm))
 refine ⟨h2.hR,h2.hT,fun p hp=>?_,h2.bel,h2.ge,h2.ge',h2.ne⟩
 rcases List.mem_cons.1 hp with rfl|hp
 ·refine ⟨hb,fun e=>?_,fun e=>?_⟩
  ·have:=blk_lt h.hT;simp only at e;omega
  ·have:=blk_lt h.hR;simp only at e;omega
 ·exact h2.hB p hp
def cellL (a b c d:Int):List Value:=[.int .i64 a,.int .i64 b,.int .i64 c,.int .i64 d]
def zeroL:List Value:=[.int .i64 0,.bool false,.int .i64 0,.int .i64 0,.int .i64 0,.int .i64 0,.int .i64 0,.int .i64 0,.int .i64 0,.int .i64 0]
theorem info29_:(Tryd.prog.info? 29).map (fun i=>(i.zero,i.size,i.bytes))=some (some (.agg zeroL.toArray),10,80):=by kernel_rfl
theorem info23_:(Tryd.prog.info? 23).map (fun i=>(i.zero,i.size,i.bytes))=some (some (.agg (cellL 0 0 0 0).toArray),4,32):=by kernel_rfl
def testL (k:Int) (n:Bool) (x y:List Value):List Value:=.int .i64 k :: .bool n :: (x ++ y)
theorem cellL_one (a b c d:Int) : ∀ q ∈ cellL a b c d,q.oneCell'=true:=by
 intro q hq
 simp only [cellL,List.mem_cons,List.not_mem_nil,or_false] at hq
 rcases hq with rfl|rfl|rfl|rfl <;> rfl
theorem testL_one (k:Int) (n:Bool) (a b c d e f g h:Int) : ∀ q ∈ testL k n (cellL a b c d) (cellL e f g h),q.oneCell'=true:=by
 intro q hq
 simp only [testL,cellL,List.cons_append,List.nil_append,List.mem_cons,List.not_mem_nil,or_false] at hq
 rcases hq with rfl|rfl|rfl|rfl|rfl|rfl|rfl|rfl|rfl|rfl <;> rfl
set_option maxHeartbeats 8000000 in
set_option maxRecDepth 100000 in
theorem spec_neg_1ok (k:Nat) (a0:ByteArray) (w:World) (h0:(a0.size:Int) > 0) (h33:bt a0 0=33) (T:ByteArray) (hT:a0.extract 1 a0.size=T) (j:Int) (hf1:spec_l12Find.f k T 60=some j) (hj : ¬ j < 0) (hlt:j < (T.size:Int)) (hbig:j < 4611686018427387904) (x1 x2 x3 x4 y1 y2 y3 y4:Int) (x5 y5:Bool) (hc1:spec_CellRead.f k (T.extract 0 j.toNat)=some (x1,x2,x3,x4,x5)) (hc2:spec_CellRead.f k (T.extract (j + 1).toNat T.size)=some (y1,y2,y3,y4,y5)):Calls Tryd.prog 8 #[.string a0] w fun e w'=>e=.returned (if (x5 && y5)=true then .tuple #[.agg (testL 1 true (cellL x1 x2 x3 x4) (cellL y1 y2 y3 y4)).toArray,.bool true] else .tuple #[.agg zeroL.toArray,.bool false])∧Below w.heap.size w w':=by
 have hq:((bt a0 0) == 33)=true:=by simpa using h33
 have hq2:((bt a0 0) != 33)=false:=by simpa using h33
 clear h33
 have p0:decide (0 < (a0.size:Int))=true:=decide_eq_true h0
 have p1:decide (0 < a0.size)=true:=decide_eq_true (by omega)
 have p2:=eq_true (show (1:Int)≤(a0.size:Int) by omega)
 have p3:decide ((1:Int)≤(a0.size:Int))=true:=decide_eq_true (by omega)
 have p4:=eq_true (show 0 < a0.size by omega)
 have p5:=eq_true (show (0:Int) < (a0.size:Int) by omega)
 clear h0
 have hx0 : ∀ h:0 < a0.size,((a0[0]).toNat:Int)=bt a0 0:=fun h=>bt_at a0 0 h
 have HF1:=Aside0.mk hf1
 clear hf1
 have HC1:=Aside0.mk hc1
 have HC2:=Aside0.mk hc2
 clear hc1 hc2
 have j0p:(0:Int)≤j:=by omega
 have j0:=eq_true j0p
 have j00:decide ((0:Int)≤j)=true:=decide_eq_true j0p
 have q2:=eq_false hj
 have j2p:j≤(T.size:Int):=by omega
 have j2:=eq_true j2p
 have hw:wrap64 (j + 1)=j + 1:=by unfold wrap64;omega
 have hwk:IntKind.i64.wrap (j + 1)=j + 1:=(i64_w _).trans hw
 have j3:=eq_true (show (0:Int)≤j + 1 by omega)
 have j4:=eq_true (show j + 1≤(T.size:Int) by omega)
 clear j0p j2p hj hlt hbig
 cases x5 <;> cases y5 <;> (
  go_enter Tryd.func8,Tryd.ntmps8
  go_wp2_with (first
   | ((with_reducible refine gate_dst (N:=2) rfl ?_);refine alloc_ 29 rfl rfl zeroL _ _ info29_ ?_;intro gr hgr w1 hb hB;have HR1:=Aside0.mk hb;have BR1:=Aside0.mk hB;have GR1:=Aside0.mk (show w.heap.size≤gr from Nat.le_of_eq hgr.symm);clear hb hB hgr)
   | ((with_reducible refine gate_dst (N:=4) rfl ?_);refine alloc_ 29 rfl rfl zeroL _ _ info29_ ?_;intro gt hgt w2 hb hB;have E:=Aside0.mk (show TS w gr gt zeroL zeroL [] w2 from ⟨(hB.block gr (blk_lt HR1.out)).trans HR1.out,hb,(fun p hp=>by cases hp),below_step BR1.out hB,GR1.out,Nat.le_trans (below_size BR1.out) (Nat.le_of_eq hgt.symm),(by rw [hgt];exact Nat.ne_of_lt (blk_lt HR1.out))⟩);clear hb hB hgt HR1 BR1 GR1)
   | ((with_reducible refine gate_ (.store 29 (.tmp 4) (.tmp 10)) rfl ?_);refine storeAll_ 29 (.tmp 4) (.tmp 10) rfl rfl rfl gt ?hp (testL 1 false (cellL 0 0 0 0) (cellL 0 0 0 0)) ?hx2 (by kernel_rfl) (testL_one _ _ _ _ _ _ _ _ _ _) _ _ E.out.hT rfl ?_;(case hp=>first | rfl | (go_simp;done) | (go_simp;rfl));(case hx2=>first | rfl | (go_simp;done) | (go_simp;rfl));intro w3 hb hg;have E2:=Aside0.mk (E.out.storeT hb hg);clear E hb hg;have E:=E2;clear E2)
   | ((with_reducible refine gate_ (.store 4 (.tmp 19) (.const (.bool true))) rfl ?_);refine store_ 4 (.tmp 19) (.const (.bool true)) rfl rfl rfl gt 1 ?hp (.bool true) rfl [.bool true] rfl (by kernel_rfl) (by intro q hq;simp at hq;rw [hq];rfl) _ _ E.out.hT (Nat.le_of_ble_eq_true rfl) ?_;(case hp=>first | rfl | (go_simp;done) | (go_simp;rfl));intro w4 hb hg;have E2:=Aside0.mk (show TS w gr gt zeroL (testL 1 true (cellL 0 0 0 0) (cellL 0 0 0 0)) [] w4 from E.out.storeT hb hg);clear E hb hg;have E:=E2;clear E2)
   | (go_at_call 13;refine (spec_l12Find.calls k _ 60 _ _ HF1.out).mono ?_;rintro e w5 ⟨rfl,hB⟩;have E2:=Aside0.mk (E.out.call hB.below);clear E HF1 hB;have E:=E2;clear E2)
   | ((with_reducible refine gate_ (.store 3 (.tmp 26) (.const (.int .i64 2))) rfl ?_);refine store_ 3 (.tmp 26) (.const (.int .i64 2)) rfl rfl rfl gt 0 ?hp (.int .i64 2) rfl [.int .i64 2] rfl (by kernel_rfl) (by intro q hq;simp at hq;rw [hq];rfl) _ _ E.out.hT (Nat.le_of_ble_eq_true rfl) ?_;(case hp=>first | rfl | (go_simp;done) | (go_simp;rfl));intro w6 hb hg;have E2:=Aside0.mk (show TS w gr gt zeroL (testL 2 true (cellL 0 0 0 0) (cellL 0 0 0 0)) [] w6 from E.out.storeT hb hg);clear E hb hg;have E:=E2;clear E2)
   | (go_at_call 13;refine (spec_l12Find.calls k _ 61 _ _ HF2.out).mono ?_;rintro e w7 ⟨rfl,hB⟩;have E2:=Aside0.mk (E.out.call hB.below);clear E HF2 hB;have E:=E2;clear E2)
   | ((with_reducible refine gate_ (.store 29 (.tmp 2) (.tmp 31)) rfl ?_);refine storeAll_ 29 (.tmp 2) (.tmp 31) rfl rfl rfl gr ?hp zeroL ?hx2 (by kernel_rfl) (fun q hq=>testL_one 0 false 0 0 0 0 0 0 0 0 q hq) _ _ E.out.hR rfl ?_;(case hp=>first | rfl | (go_simp;done) | (go_simp;rfl));(case hx2=>first | rfl | (go_simp;done) | (go_simp;rfl));intro w8 hb hg;have E2:=Aside0.mk (E.out.storeR hb hg);clear E hb hg;have E:=E2;clear E2)
   | (go_at_call 5;refine (spec_CellRead.calls k _ x1 x2 x3 x4 _ _ HC1.out).mono ?_;rintro e w9 ⟨rfl,hB⟩;have E2:=Aside0.mk (E.out.call hB);clear E HC1 hB;have E:=E2;clear E2)
   | ((with_reducible refine gate_dst (N:=6) rfl ?_);refine alloc_ 23 rfl rfl (cellL 0 0 0 0) _ _ info23_ ?_;intro ga hga w10 hb hB;have BA:=Aside0.mk hB;have YA:=Aside0.mk hb;have GA:=Aside0.mk hga;clear hb hB hga)
   | ((with_reducible refine gate_ (.store 23 (.tmp 6) (.tmp 37)) rfl ?_);refine storeAll_ 23 (.tmp 6) (.tmp 37) rfl rfl rfl ga ?hp (cellL x1 x2 x3 x4) ?hx2 (by kernel_rfl) (cellL_one _ _ _ _) _ _ YA.out rfl ?_;(case hp=>first | rfl | (go_simp;done) | (go_simp;rfl));(case hx2=>first | rfl | (go_simp;done) | (go_simp;rfl));intro w11 hb hg;have E2:=Aside0.mk (E.out.add GA.out BA.out hb hg);clear E BA YA GA hb hg;have E:=E2;clear E2)
   | (go_at_call 5;refine (spec_CellRead.calls k _ y1 y2 y3 y4 _ _ HC2.out).mono ?_;rintro e w12 ⟨rfl,hB⟩;have E2:=Aside0.mk (E.out.call hB);clear E HC2 hB;have E:=E2;clear E2)
   | ((with_reducible refine gate_dst (N:=8) rfl ?_);refine alloc_ 23 rfl rfl (cellL 0 0 0 0) _ _ info23_ ?_;intro gb hgb w13 hb hB;have BA:=Aside0.mk hB;have YA:=Aside0.mk hb;have GA:=Aside0.mk hgb;clear hb hB hgb)
   | ((with_reducible refine gate_ (.store 23 (.tmp 8) (.tmp 45)) rfl ?_);refine storeAll_ 23 (.tmp 8) (.tmp 45) rfl rfl rfl gb ?hp (cellL y1 y2 y3 y4) ?hx2 (by kernel_rfl) (cellL_one _ _ _ _) _ _ YA.out rfl ?_;(case hp=>first | rfl | (go_simp;done) | (go_simp;rfl));(case hx2=>first | rfl | (go_simp;done) | (go_simp;rfl));intro w14 hb hg;have E2:=Aside0.mk (E.out.add GA.out BA.out hb hg);clear E BA YA GA hb hg;have E:=E2;clear E2)
   | ((with_reducible refine gate_dst (N:=47) rfl ?_);refine loadVar_ 23 (.tmp 6) rfl rfl ga ?hx (cellL x1 x2 x3 x4) _ Tryd.underlying23 (by kernel_rfl) _ (E.out.hB (ga,cellL x1 x2 x3 x4) (by simp)).1 ?_;(case hx=>first | rfl | (go_simp;done) | (go_simp;rfl)))
   | ((with_reducible refine gate_ (.store 23 (.tmp 48) (.tmp 47)) rfl ?_);refine store_ 23 (.tmp 48) (.tmp 47) rfl rfl rfl gt 2 ?hp (.agg (cellL x1 x2 x3 x4).toArray) ?hx2 (cellL x1 x2 x3 x4) rfl (by kernel_rfl) (cellL_one _ _ _ _) _ _ E.out.hT (Nat.le_of_ble_eq_true rfl) ?_;(case hp=>first | rfl | (go_simp;done) | (go_simp;rfl));(case hx2=>first | rfl | (go_simp;done) | (go_simp;rfl));intro w15 hb hg;have E2:=Aside0.mk (show TS w gr gt zeroL (testL 1 true (cellL x1 x2 x3 x4) (cellL 0 0 0 0)) [(gb,cellL y1 y2 y3 y4),(ga,cellL x1 x2 x3 x4)] w15 from E.out.storeT hb hg);clear E hb hg;have E:=E2;clear E2)
   | ((with_reducible refine gate_dst (N:=49) rfl ?_);refine loadVar_ 23 (.tmp 8) rfl rfl gb ?hx (cellL y1 y2 y3 y4) _ Tryd.underlying23 (by kernel_rfl) _ (E.out.hB (gb,cellL y1 y2 y3 y4) (by simp)).1 ?_;(case hx=>first | rfl | (go_simp;done) | (go_simp;rfl)))
   | ((with_reducible refine gate_ (.store 23 (.tmp 50) (.tmp 49)) rfl ?_);refine store_ 23 (.tmp 50) (.tmp 49) rfl rfl rfl gt 6 ?hp (.agg (cellL y1 y2 y3 y4).toArray) ?hx2 (cellL y1 y2 y3 y4) rfl (by kernel_rfl) (cellL_one _ _ _ _) _ _ E.out.hT (Nat.le_of_ble_eq_true rfl) ?_;(case hp=>first | rfl | (go_simp;done) | (go_simp;rfl));(case hx2=>first | rfl | (go_simp;done) | (go_simp;rfl));intro w16 hb hg;have E2:=Aside0.mk (show TS w gr gt zeroL (testL 1 true (cellL x1 x2 x3 x4) (cellL y1 y2 y3 y4)) [(gb,cellL y1 y2 y3 y4),(ga,cellL x1 x2 x3 x4)] w16 from E.out.storeT hb hg);clear E hb hg;have E:=E2;clear E2)
   | ((with_reducible refine gate_ (.store 29 (.tmp 2) (.tmp 57)) rfl ?_);refine storeAll_ 29 (.tmp 2) (.tmp 57) rfl rfl rfl gr ?hp zeroL ?hx2 (by kernel_rfl) (fun q hq=>testL_one 0 false 0 0 0 0 0 0 0 0 q hq) _ _ E.out.hR rfl ?_;(case hp=>first | rfl | (go_simp;done) | (go_simp;rfl));(case hx2=>first | rfl | (go_simp;done) | (go_simp;rfl));intro w17 hb hg;have E2:=Aside0.mk (E.out.storeR hb hg);clear E hb hg;have E:=E2;clear E2)
   | ((with_reducible refine gate_dst (N:=58) rfl ?_);refine loadVar_ 29 (.tmp 4) rfl rfl gt ?hx (testL 1 true (cellL x1 x2 x3 x4) (cellL y1 y2 y3 y4)) _ Tryd.underlying29 (by kernel_rfl) _ E.out.hT ?_;(case hx=>first | rfl | (go_simp;done) | (go_simp;rfl)))
   | ((with_reducible refine gate_ (.store 29 (.tmp 2) (.tmp 58)) rfl ?_);refine storeAll_ 29 (.tmp 2) (.tmp 58) rfl rfl rfl gr ?hp (testL 1 true (cellL x1 x2 x3 x4) (cellL y1 y2 y3 y4)) ?hx2 (by kernel_rfl) (testL_one _ _ _ _ _ _ _ _ _ _) _ _ E.out.hR rfl ?_;(case hp=>first | rfl | (go_simp;done) | (go_simp;rfl));(case hx2=>first | rfl | (go_simp;done) | (go_simp;rfl));intro w18 hb hg;have E2:=Aside0.mk (E.out.storeR hb hg);clear E hb hg;have E:=E2;clear E2))
  first
   | exact bodyPost_ret (results_ct rfl _ _ gr 29 zeroL.toArray (0,0) _ rfl E.out.hR Tryd.underlying29 rfl (by kernel_rfl)) rfl ⟨rfl,E.out.bel⟩
   | exact bodyPost_ret (results_ct rfl _ _ gr 29 (testL 1 true (cellL x1 x2 x3 x4) (cellL y1 y2 y3 y4)).toArray (0,0) _ rfl E.out.hR Tryd.underlying29 rfl (by kernel_rfl)) rfl ⟨rfl,E.out.bel⟩)
set_option maxHeartbeats 8000000 in
set_option maxRecDepth 100000 in
theorem spec_neg_2bad (k:Nat) (a0:ByteArray) (w:World) (h0:(a0.size:Int) > 0) (h33:bt a0 0=33) (T:ByteArray) (hT:a0.extract 1 a0.size=T) (j:Int) (j1:Int) (hf1:spec_l12Find.f k T 60=some j1) (hj1:j1 < 0) (hf2:spec_l12Find.f k T 61=some j) (hj:j < 0):Calls Tryd.prog 8 #[.string a0] w fun e w'=>e=.returned (.tuple #[.agg zeroL.toArray,.bool false])∧Below w.heap.size w w':=by
 have hq:((bt a0 0) == 33)=true:=by simpa using h33
 have hq2:((bt a0 0) != 33)=false:=by simpa using h33
 clear h33
 have p0:decide (0 < (a0.size:Int))=true:=decide_eq_true h0
 have p1:decide (0 < a0.size)=true:=decide_eq_true (by omega)
 have p2:=eq_true (show (1:Int)≤(a0.size:Int) by omega)
 have p3:decide ((1:Int)≤(a0.size:Int))=true:=decide_eq_true (by omega)
 have p4:=eq_true (show 0 < a0.size by omega)
 have p5:=eq_true (show (0:Int) < (a0.size:Int) by omega)
 clear h0
 have hx0 : ∀ h:0 < a0.size,((a0[0]).toNat:Int)=bt a0 0:=fun h=>bt_at a0 0 h
 have q1:=eq_true hj1
 clear hj1
 have q2:=eq_true hj
 clear hj
 have HF1:=Aside0.mk hf1
 clear hf1
 have HF2:=Aside0.mk hf2
 clear hf2
 go_enter Tryd.func8,Tryd.ntmps8
 go_wp2_with (first
  | ((with_reducible refine gate_dst (N:=2) rfl ?_);refine alloc_ 29 rfl rfl zeroL _ _ info29_ ?_;intro gr hgr w1 hb hB;have HR1:=Aside0.mk hb;have BR1:=Aside0.mk hB;have GR1:=Aside0.mk (show w.heap.size≤gr from Nat.le_of_eq hgr.symm);clear hb hB hgr)
  | ((with_reducible refine gate_dst (N:=4) rfl ?_);refine alloc_ 29 rfl rfl zeroL _ _ info29_ ?_;intro gt hgt w2 hb hB;have E:=Aside0.mk (show TS w gr gt zeroL zeroL [] w2 from ⟨(hB.block gr (blk_lt HR1.out)).trans HR1.out,hb,(fun p hp=>by cases hp),below_step BR1.out hB,GR1.out,Nat.le_trans (below_size BR1.out) (Nat.le_of_eq hgt.symm),(by rw [hgt];exact Nat.ne_of_lt (blk_lt HR1.out))⟩);clear hb hB hgt HR1 BR1 GR1)
  | ((with_reducible refine gate_ (.store 29 (.tmp 4) (.tmp 10)) rfl ?_);refine storeAll_ 29 (.tmp 4) (.tmp 10) rfl rfl rfl gt ?hp (testL 1 false (cellL 0 0 0 0) (cellL 0 0 0 0)) ?hx2 (by kernel_rfl) (testL_one _ _ _ _ _ _ _ _ _ _) _ _ E.out.hT rfl ?_;(case hp=>first | rfl | (go_simp;done) | (go_simp;rfl));(case hx2=>first | rfl | (go_simp;done) | (go_simp;rfl));intro w3 hb hg;have E2:=Aside0.mk (E.out.storeT hb hg);clear E hb hg;have E:=E2;clear E2)
  | ((with_reducible refine gate_ (.store 4 (.tmp 19) (.const (.bool true))) rfl ?_);refine store_ 4 (.tmp 19) (.const (.bool true)) rfl rfl rfl gt 1 ?hp (.bool true) rfl [.bool true] rfl (by kernel_rfl) (by intro q hq;simp at hq;rw [hq];rfl) _ _ E.out.hT (Nat.le_of_ble_eq_true rfl) ?_;(case hp=>first | rfl | (go_simp;done) | (go_simp;rfl));intro w4 hb hg;have E2:=Aside0.mk (show TS w gr gt zeroL (testL 1 true (cellL 0 0 0 0) (cellL 0 0 0 0)) [] w4 from E.out.storeT hb hg);clear E hb hg;have E:=E2;clear E2)
  | (go_at_call 13;refine (spec_l12Find.calls k _ 60 _ _ HF1.out).mono ?_;rintro e w5 ⟨rfl,hB⟩;have E2:=Aside0.mk (E.out.call hB.below);clear E HF1 hB;have E:=E2;clear E2)
  | ((with_reducible refine gate_ (.store 3 (.tmp 26) (.const (.int .i64 2))) rfl ?_);refine store_ 3 (.tmp 26) (.const (.int .i64 2)) rfl rfl rfl gt 0 ?hp (.int .i64 2) rfl [.int .i64 2] rfl (by kernel_rfl) (by intro q hq;simp at hq;rw [hq];rfl) _ _ E.out.hT (Nat.le_of_ble_eq_true rfl) ?_;(case hp=>first | rfl | (go_simp;done) | (go_simp;rfl));intro w6 hb hg;have E2:=Aside0.mk (show TS w gr gt zeroL (testL 2 true (cellL 0 0 0 0) (cellL 0 0 0 0)) [] w6 from E.out.storeT hb hg);clear E hb hg;have E:=E2;clear E2)
  | (go_at_call 13;refine (spec_l12Find.calls k _ 61 _ _ HF2.out).mono ?_;rintro e w7 ⟨rfl,hB⟩;have E2:=Aside0.mk (E.out.call hB.below);clear E HF2 hB;have E:=E2;clear E2)
  | ((with_reducible refine gate_ (.store 29 (.tmp 2) (.tmp 31)) rfl ?_);refine storeAll_ 29 (.tmp 2) (.tmp 31) rfl rfl rfl gr ?hp zeroL ?hx2 (by kernel_rfl) (fun q hq=>testL_one 0 false 0 0 0 0 0 0 0 0 q hq) _ _ E.out.hR rfl ?_;(case hp=>first | rfl | (go_simp;done) | (go_simp;rfl));(case hx2=>first | rfl | (go_simp;done) | (go_simp;rfl));intro w8 hb hg;have E2:=Aside0.mk (E.out.storeR hb hg);clear E hb hg;have E:=E2;clear E2)
  | (go_at_call 5;refine (spec_CellRead.calls k _ x1 x2 x3 x4 _ _ HC1.out).mono ?_;rintro e w9 ⟨rfl,hB⟩;have E2:=Aside0.mk (E.out.call hB);clear E HC1 hB;have E:=E2;clear E2)
  | ((with_reducible refine gate_dst (N:=6) rfl ?_);refine alloc_ 23 rfl rfl (cellL 0 0 0 0) _ _ info23_ ?_;intro ga hga w10 hb hB;have BA:=Aside0.mk hB;have YA:=Aside0.mk hb;have GA:=Aside0.mk hga;clear hb hB hga)
  | ((with_reducible refine gate_ (.store 23 (.tmp 6) (.tmp 37)) rfl ?_);refine storeAll_ 23 (.tmp 6) (.tmp 37) rfl rfl rfl ga ?hp (cellL x1 x2 x3 x4) ?hx2 (by kernel_rfl) (cellL_one _ _ _ _) _ _ YA.out rfl ?_;(case hp=>first | rfl | (go_simp;done) | (go_simp;rfl));(case hx2=>first | rfl | (go_simp;done) | (go_simp;rfl));intro w11 hb hg;have E2:=Aside0.mk (E.out.add GA.out BA.out hb hg);clear E BA YA GA hb hg;have E:=E2;clear E2)
  | (go_at_call 5;refine (spec_CellRead.calls k _ y1 y2 y3 y4 _ _ HC2.out).mono ?_;rintro e w12 ⟨rfl,hB⟩;have E2:=Aside0.mk (E.out.call hB);clear E HC2 hB;have E:=E2;clear E2)
  | ((with_reducible refine gate_dst (N:=8) rfl ?_);refine alloc_ 23 rfl rfl (cellL 0 0 0 0) _ _ info23_ ?_;intro gb hgb w13 hb hB;have BA:=Aside0.mk hB;have YA:=Aside0.mk hb;have GA:=Aside0.mk hgb;clear hb hB hgb)
  | ((with_reducible refine gate_ (.store 23 (.tmp 8) (.tmp 45)) rfl ?_);refine storeAll_ 23 (.tmp 8) (.tmp 45) rfl rfl rfl gb ?hp (cellL y1 y2 y3 y4) ?hx2 (by kernel_rfl) (cellL_one _ _ _ _) _ _ YA.out rfl ?_;(case hp=>first | rfl | (go_simp;done) | (go_simp;rfl));(case hx2=>first | rfl | (go_simp;done) | (go_simp;rfl));intro w14 hb hg;have E2:=Aside0.mk (E.out.add GA.out BA.out hb hg);clear E BA YA GA hb hg;have E:=E2;clear E2)
  | ((with_reducible refine gate_dst (N:=47) rfl ?_);refine loadVar_ 23 (.tmp 6) rfl rfl ga ?hx (cellL x1 x2 x3 x4) _ Tryd.underlying23 (by kernel_rfl) _ (E.out.hB (ga,cellL x1 x2 x3 x4) (by simp)).1 ?_;(case hx=>first | rfl | (go_simp;done) | (go_simp;rfl)))
  | ((with_reducible refine gate_ (.store 23 (.tmp 48) (.tmp 47)) rfl ?_);refine store_ 23 (.tmp 48) (.tmp 47) rfl rfl rfl gt 2 ?hp (.agg (cellL x1 x2 x3 x4).toArray) ?hx2 (cellL x1 x2 x3 x4) rfl (by kernel_rfl) (cellL_one _ _ _ _) _ _ E.out.hT (Nat.le_of_ble_eq_true rfl) ?_;(case hp=>first | rfl | (go_simp;done) | (go_simp;rfl));(case hx2=>first | rfl | (go_simp;done) | (go_simp;rfl));intro w15 hb hg;have E2:=Aside0.mk (show TS w gr gt zeroL (testL 2 true (cellL x1 x2 x3 x4) (cellL 0 0 0 0)) [(gb,cellL y1 y2 y3 y4),(ga,cellL x1 x2 x3 x4)] w15 from E.out.storeT hb hg);clear E hb hg;have E:=E2;clear E2)
  | ((with_reducible refine gate_dst (N:=49) rfl ?_);refine loadVar_ 23 (.tmp 8) rfl rfl gb ?hx (cellL y1 y2 y3 y4) _ Tryd.underlying23 (by kernel_rfl) _ (E.out.hB (gb,cellL y1 y2 y3 y4) (by simp)).1 ?_;(case hx=>first | rfl | (go_simp;done) | (go_simp;rfl)))
  | ((with_reducible refine gate_ (.store 23 (.tmp 50) (.tmp 49)) rfl ?_);refine store_ 23 (.tmp 50) (.tmp 49) rfl rfl rfl gt 6 ?hp (.agg (cellL y1 y2 y3 y4).toArray) ?hx2 (cellL y1 y2 y3 y4) rfl (by kernel_rfl) (cellL_one _ _ _ _) _ _ E.out.hT (Nat.le_of_ble_eq_true rfl) ?_;(case hp=>first | rfl | (go_simp;done) | (go_simp;rfl));(case hx2=>first | rfl | (go_simp;done) | (go_simp;rfl));intro w16 hb hg;have E2:=Aside0.mk (show TS w gr gt zeroL (testL 2 true (cellL x1 x2 x3 x4) (cellL y1 y2 y3 y4)) [(gb,cellL y1 y2 y3 y4),(ga,cellL x1 x2 x3 x4)] w16 from E.out.storeT hb hg);clear E hb hg;have E:=E2;clear E2)
  | ((with_reducible refine gate_ (.store 29 (.tmp 2) (.tmp 57)) rfl ?_);refine storeAll_ 29 (.tmp 2) (.tmp 57) rfl rfl rfl gr ?hp zeroL ?hx2 (by kernel_rfl) (fun q hq=>testL_one 0 false 0 0 0 0 0 0 0 0 q hq) _ _ E.out.hR rfl ?_;(case hp=>first | rfl | (go_simp;done) | (go_simp;rfl));(case hx2=>first | rfl | (go_simp;done) | (go_simp;rfl));intro w17 hb hg;have E2:=Aside0.mk (E.out.storeR hb hg);clear E hb hg;have E:=E2;clear E2)
  | ((with_reducible refine gate_dst (N:=58) rfl ?_);refine loadVar_ 29 (.tmp 4) rfl rfl gt ?hx (testL 2 true (cellL x1 x2 x3 x4) (cellL y1 y2 y3 y4)) _ Tryd.underlying29 (by kernel_rfl) _ E.out.hT ?_;(case hx=>first | rfl | (go_simp;done) | (go_simp;rfl)))
  | ((with_reducible refine gate_ (.store 29 (.tmp 2) (.tmp 58)) rfl ?_);refine storeAll_ 29 (.tmp 2) (.tmp 58) rfl rfl rfl gr ?hp (testL 2 true (cellL x1 x2 x3 x4) (cellL y1 y2 y3 y4)) ?hx2 (by kernel_rfl) (testL_one _ _ _ _ _ _ _ _ _ _) _ _ E.out.hR rfl ?_;(case hp=>first | rfl | (go_simp;done) | (go_simp;rfl));(case hx2=>first | rfl | (go_simp;done) | (go_simp;rfl));intro w18 hb hg;have E2:=Aside0.mk (E.out.storeR hb hg);clear E hb hg;have E:=E2;clear E2))
 refine bodyPost_ret (results_ct rfl _ _ gr 29 zeroL.toArray (0,0) _ rfl E.out.hR Tryd.underlying29 rfl (by kernel_rfl)) rfl ⟨rfl,E.out.bel⟩
set_option maxHeartbeats 8000000 in
set_option maxRecDepth 100000 in
theorem spec_neg_2ok (k:Nat) (a0:ByteArray) (w:World) (h0:(a0.size:Int) > 0) (h33:bt a0 0=33) (T:ByteArray) (hT:a0.extract 1 a0.size=T) (j:Int) (j1:Int) (hf1:spec_l12Find.f k T 60=some j1) (hj1:j1 < 0) (hf2:spec_l12Find.f k T 61=some j) (hj : ¬ j < 0) (hlt:j < (T.size:Int)) (hbig:j < 4611686018427387904) (x1 x2 x3 x4 y1 y2 y3 y4:Int) (x5 y5:Bool) (hc1:spec_CellRead.f k (T.extract 0 j.toNat)=some (x1,x2,x3,x4,x5)) (hc2:spec_CellRead.f k (T.extract (j + 1).toNat T.size)=some (y1,y2,y3,y4,y5)):Calls Tryd.prog 8 #[.string a0] w fun e w'=>e=.returned (if (x5 && y5)=true then .tuple #[.agg (testL 2 true (cellL x1 x2 x3 x4) (cellL y1 y2 y3 y4)).toArray,.bool true] else .tuple #[.agg zeroL.toArray,.bool false])∧Below w.heap.size w w':=by
 have hq:((bt a0 0) == 33)=true:=by simpa using h33
 have hq2:((bt a0 0) != 33)=false:=by simpa using h33
 clear h33
 have p0:decide (0 < (a0.size:Int))=true:=decide_eq_true h0
 have p1:decide (0 < a0.size)=true:=decide_eq_true (by omega)
 have p2:=eq_true (show (1:Int)≤(a0.size:Int) by omega)
 have p3:decide ((1:Int)≤(a0.size:Int))=true:=decide_eq_true (by omega)
 have p4:=eq_true (show 0 < a0.size by omega)
 have p5:=eq_true (show (0:Int) < (a0.size:Int) by omega)
 clear h0
 have hx0 : ∀ h:0 < a0.size,((a0[0]).toNat:Int)=bt a0 0:=fun h=>bt_at a0 0 h
 have q1:=eq_true hj1
 clear hj1
 have HF1:=Aside0.mk hf1
 clear hf1
 have HF2:=Aside0.mk hf2
 clear hf2
 have HC1:=Aside0.mk hc1
 have HC2:=Aside0.mk hc2
 clear hc1 hc2
 have j0p:(0:Int)≤j:=by omega
 have j0:=eq_true j0p
 have j00:decide ((0:Int)≤j)=true:=decide_eq_true j0p
 have q2:=eq_false hj
 have j2p:j≤(T.size:Int):=by omega
 have j2:=eq_true j2p
 have hw:wrap64 (j + 1)=j + 1:=by unfold wrap64;omega
 have hwk:IntKind.i64.wrap (j + 1)=j + 1:=(i64_w _).trans hw
 have j3:=eq_true (show (0:Int)≤j + 1 by omega)
 have j4:=eq_true (show j + 1≤(T.size:Int) by omega)
 clear j0p j2p hj hlt hbig
 cases x5 <;> cases y5 <;> (
  go_enter Tryd.func8,Tryd.ntmps8
  go_wp2_with (first
   | ((with_reducible refine gate_dst (N:=2) rfl ?_);refine alloc_ 29 rfl rfl zeroL _ _ info29_ ?_;intro gr hgr w1 hb hB;have HR1:=Aside0.mk hb;have BR1:=Aside0.mk hB;have GR1:=Aside0.mk (show w.heap.size≤gr from Nat.le_of_eq hgr.symm);clear hb hB hgr)
   | ((with_reducible refine gate_dst (N:=4) rfl ?_);refine alloc_ 29 rfl rfl zeroL _ _ info29_ ?_;intro gt hgt w2 hb hB;have E:=Aside0.mk (show TS w gr gt zeroL zeroL [] w2 from ⟨(hB.block gr (blk_lt HR1.out)).trans HR1.out,hb,(fun p hp=>by cases hp),below_step BR1.out hB,GR1.out,Nat.le_trans (below_size BR1.out) (Nat.le_of_eq hgt.symm),(by rw [hgt];exact Nat.ne_of_lt (blk_lt HR1.out))⟩);clear hb hB hgt HR1 BR1 GR1)
   | ((with_reducible refine gate_ (.store 29 (.tmp 4) (.tmp 10)) rfl ?_);refine storeAll_ 29 (.tmp 4) (.tmp 10) rfl rfl rfl gt ?hp (testL 1 false (cellL 0 0 0 0) (cellL 0 0 0 0)) ?hx2 (by kernel_rfl) (testL_one _ _ _ _ _ _ _ _ _ _) _ _ E.out.hT rfl ?_;(case hp=>first | rfl | (go_simp;done) | (go_simp;rfl));(case hx2=>first | rfl | (go_simp;done) | (go_simp;rfl));intro w3 hb hg;have E2:=Aside0.mk (E.out.storeT hb hg);clear E hb hg;have E:=E2;clear E2)
   | ((with_reducible refine gate_ (.store 4 (.tmp 19) (.const (.bool true))) rfl ?_);refine store_ 4 (.tmp 19) (.const (.bool true)) rfl rfl rfl gt 1 ?hp (.bool true) rfl [.bool true] rfl (by kernel_rfl) (by intro q hq;simp at hq;rw [hq];rfl) _ _ E.out.hT (Nat.le_of_ble_eq_true rfl) ?_;(case hp=>first | rfl | (go_simp;done) | (go_simp;rfl));intro w4 hb hg;have E2:=Aside0.mk (show TS w gr gt zeroL (testL 1 true (cellL 0 0 0 0) (cellL 0 0 0 0)) [] w4 from E.out.storeT hb hg);clear E hb hg;have E:=E2;clear E2)
   | (go_at_call 13;refine (spec_l12Find.calls k _ 60 _ _ HF1.out).mono ?_;rintro e w5 ⟨rfl,hB⟩;have E2:=Aside0.mk (E.out.call hB.below);clear E HF1 hB;have E:=E2;clear E2)
   | ((with_reducible refine gate_ (.store 3 (.tmp 26) (.const (.int .i64 2))) rfl ?_);refine store_ 3 (.tmp 26) (.const (.int .i64 2)) rfl rfl rfl gt 0 ?hp (.int .i64 2) rfl [.int .i64 2] rfl (by kernel_rfl) (by intro q hq;simp at hq;rw [hq];rfl) _ _ E.out.hT (Nat.le_of_ble_eq_true rfl) ?_;(case hp=>first | rfl | (go_simp;done) | (go_simp;rfl));intro w6 hb hg;have E2:=Aside0.mk (show TS w gr gt zeroL (testL 2 true (cellL 0 0 0 0) (cellL 0 0 0 0)) [] w6 from E.out.storeT hb hg);clear E hb hg;have E:=E2;clear E2)
   | (go_at_call 13;refine (spec_l12Find.calls k _ 61 _ _ HF2.out).mono ?_;rintro e w7 ⟨rfl,hB⟩;have E2:=Aside0.mk (E.out.call hB.below);clear E HF2 hB;have E:=E2;clear E2)
   | ((with_reducible refine gate_ (.store 29 (.tmp 2) (.tmp 31)) rfl ?_);refine storeAll_ 29 (.tmp 2) (.tmp 31) rfl rfl rfl gr ?hp zeroL ?hx2 (by kernel_rfl) (fun q hq=>testL_one 0 false 0 0 0 0 0 0 0 0 q hq) _ _ E.out.hR rfl ?_;(case hp=>first | rfl | (go_simp;done) | (go_simp;rfl));(case hx2=>first | rfl | (go_simp;done) | (go_simp;rfl));intro w8 hb hg;have E2:=Aside0.mk (E.out.storeR hb hg);clear E hb hg;have E:=E2;clear E2)
   | (go_at_call 5;refine (spec_CellRead.calls k _ x1 x2 x3 x4 _ _ HC1.out).mono ?_;rintro e w9 ⟨rfl,hB⟩;have E2:=Aside0.mk (E.out.call hB);clear E HC1 hB;have E:=E2;clear E2)
   | ((with_reducible refine gate_dst (N:=6) rfl ?_);refine alloc_ 23 rfl rfl (cellL 0 0 0 0) _ _ info23_ ?_;intro ga hga w10 hb hB;have BA:=Aside0.mk hB;have YA:=Aside0.mk hb;have GA:=Aside0.mk hga;clear hb hB hga)
   | ((with_reducible refine gate_ (.store 23 (.tmp 6) (.tmp 37)) rfl ?_);refine storeAll_ 23 (.tmp 6) (.tmp 37) rfl rfl rfl ga ?hp (cellL x1 x2 x3 x4) ?hx2 (by kernel_rfl) (cellL_one _ _ _ _) _ _ YA.out rfl ?_;(case hp=>first | rfl | (go_simp;done) | (go_simp;rfl));(case hx2=>first | rfl | (go_simp;done) | (go_simp;rfl));intro w11 hb hg;have E2:=Aside0.mk (E.out.add GA.out BA.out hb hg);clear E BA YA GA hb hg;have E:=E2;clear E2)
   | (go_at_call 5;refine (spec_CellRead.calls k _ y1 y2 y3 y4 _ _ HC2.out).mono ?_;rintro e w12 ⟨rfl,hB⟩;have E2:=Aside0.mk (E.out.call hB);clear E HC2 hB;have E:=E2;clear E2)
   | ((with_reducible refine gate_dst (N:=8) rfl ?_);refine alloc_ 23 rfl rfl (cellL 0 0 0 0) _ _ info23_ ?_;intro gb hgb w13 hb hB;have BA:=Aside0.mk hB;have YA:=Aside0.mk hb;have GA:=Aside0.mk hgb;clear hb hB hgb)
   | ((with_reducible refine gate_ (.store 23 (.tmp 8) (.tmp 45)) rfl ?_);refine storeAll_ 23 (.tmp 8) (.tmp 45) rfl rfl rfl gb ?hp (cellL y1 y2 y3 y4) ?hx2 (by kernel_rfl) (cellL_one _ _ _ _) _ _ YA.out rfl ?_;(case hp=>first | rfl | (go_simp;done) | (go_simp;rfl));(case hx2=>first | rfl | (go_simp;done) | (go_simp;rfl));intro w14 hb hg;have E2:=Aside0.mk (E.out.add GA.out BA.out hb hg);clear E BA YA GA hb hg;have E:=E2;clear E2)
   | ((with_reducible refine gate_dst (N:=47) rfl ?_);refine loadVar_ 23 (.tmp 6) rfl rfl ga ?hx (cellL x1 x2 x3 x4) _ Tryd.underlying23 (by kernel_rfl) _ (E.out.hB (ga,cellL x1 x2 x3 x4) (by simp)).1 ?_;(case hx=>first | rfl | (go_simp;done) | (go_simp;rfl)))
   | ((with_reducible refine gate_ (.store 23 (.tmp 48) (.tmp 47)) rfl ?_);refine store_ 23 (.tmp 48) (.tmp 47) rfl rfl rfl gt 2 ?hp (.agg (cellL x1 x2 x3 x4).toArray) ?hx2 (cellL x1 x2 x3 x4) rfl (by kernel_rfl) (cellL_one _ _ _ _) _ _ E.out.hT (Nat.le_of_ble_eq_true rfl) ?_;(case hp=>first | rfl | (go_simp;done) | (go_simp;rfl));(case hx2=>first | rfl | (go_simp;done) | (go_simp;rfl));intro w15 hb hg;have E2:=Aside0.mk (show TS w gr gt zeroL (testL 2 true (cellL x1 x2 x3 x4) (cellL 0 0 0 0)) [(gb,cellL y1 y2 y3 y4),(ga,cellL x1 x2 x3 x4)] w15 from E.out.storeT hb hg);clear E hb hg;have E:=E2;clear E2)
   | ((with_reducible refine gate_dst (N:=49) rfl ?_);refine loadVar_ 23 (.tmp 8) rfl rfl gb ?hx (cellL y1 y2 y3 y4) _ Tryd.underlying23 (by kernel_rfl) _ (E.out.hB (gb,cellL y1 y2 y3 y4) (by simp)).1 ?_;(case hx=>first | rfl | (go_simp;done) | (go_simp;rfl)))
   | ((with_reducible refine gate_ (.store 23 (.tmp 50) (.tmp 49)) rfl ?_);refine store_ 23 (.tmp 50) (.tmp 49) rfl rfl rfl gt 6 ?hp (.agg (cellL y1 y2 y3 y4).toArray) ?hx2 (cellL y1 y2 y3 y4) rfl (by kernel_rfl) (cellL_one _ _ _ _) _ _ E.out.hT (Nat.le_of_ble_eq_true rfl) ?_;(case hp=>first | rfl | (go_simp;done) | (go_simp;rfl));(case hx2=>first | rfl | (go_simp;done) | (go_simp;rfl));intro w16 hb hg;have E2:=Aside0.mk (show TS w gr gt zeroL (testL 2 true (cellL x1 x2 x3 x4) (cellL y1 y2 y3 y4)) [(gb,cellL y1 y2 y3 y4),(ga,cellL x1 x2 x3 x4)] w16 from E.out.storeT hb hg);clear E hb hg;have E:=E2;clear E2)
   | ((with_reducible refine gate_ (.store 29 (.tmp 2) (.tmp 57)) rfl ?_);refine storeAll_ 29 (.tmp 2) (.tmp 57) rfl rfl rfl gr ?hp zeroL ?hx2 (by kernel_rfl) (fun q hq=>testL_one 0 false 0 0 0 0 0 0 0 0 q hq) _ _ E.out.hR rfl ?_;(case hp=>first | rfl | (go_simp;done) | (go_simp;rfl));(case hx2=>first | rfl | (go_simp;done) | (go_simp;rfl));intro w17 hb hg;have E2:=Aside0.mk (E.out.storeR hb hg);clear E hb hg;have E:=E2;clear E2)
   | ((with_reducible refine gate_dst (N:=58) rfl ?_);refine loadVar_ 29 (.tmp 4) rfl rfl gt ?hx (testL 2 true (cellL x1 x2 x3 x4) (cellL y1 y2 y3 y4)) _ Tryd.underlying29 (by kernel_rfl) _ E.out.hT ?_;(case hx=>first | rfl | (go_simp;done) | (go_simp;rfl)))
   | ((with_reducible refine gate_ (.store 29 (.tmp 2) (.tmp 58)) rfl ?_);refine storeAll_ 29 (.tmp 2) (.tmp 58) rfl rfl rfl gr ?hp (testL 2 true (cellL x1 x2 x3 x4) (cellL y1 y2 y3 y4)) ?hx2 (by kernel_rfl) (testL_one _ _ _ _ _ _ _ _ _ _) _ _ E.out.hR rfl ?_;(case hp=>first | rfl | (go_simp;done) | (go_simp;rfl));(case hx2=>first | rfl | (go_simp;done) | (go_simp;rfl));intro w18 hb hg;have E2:=Aside0.mk (E.out.storeR hb hg);clear E hb hg;have E:=E2;clear E2))
  first
   | exact bodyPost_ret (results_ct rfl _ _ gr 29 zeroL.toArray (0,0) _ rfl E.out.hR Tryd.underlying29 rfl (by kernel_rfl)) rfl ⟨rfl,E.out.bel⟩
   | exact bodyPost_ret (results_ct rfl _ _ gr 29 (testL 2 true (cellL x1 x2 x3 x4) (cellL y1 y2 y3 y4)).toArray (0,0) _ rfl E.out.hR Tryd.underlying29 rfl (by kernel_rfl)) rfl ⟨rfl,E.out.bel⟩)
set_option maxHeartbeats 8000000 in
set_option maxRecDepth 100000 in
theorem spec_pos_1ok (k:Nat) (a0:ByteArray) (w:World) (h0:(a0.size:Int) > 0) (h33 : ¬ bt a0 0=33) (j:Int) (hf1:spec_l12Find.f k a0 60=some j) (hj : ¬ j < 0) (hlt:j < (a0.size:Int)) (hbig:j < 4611686018427387904) (x1 x2 x3 x4 y1 y2 y3 y4:Int) (x5 y5:Bool) (hc1:spec_CellRead.f k (a0.extract 0 j.toNat)=some (x1,x2,x3,x4,x5)) (hc2:spec_CellRead.f k (a0.extract (j + 1).toNat a0.size)=some (y1,y2,y3,y4,y5)):Calls Tryd.prog 8 #[.string a0] w fun e w'=>e=.returned (if (x5 && y5)=true then .tuple #[.agg (testL 1 false (cellL x1 x2 x3 x4) (cellL y1 y2 y3 y4)).toArray,.bool true] else .tuple #[.agg zeroL.toArray,.bool false])∧Below w.heap.size w w':=by
 have hq:((bt a0 0) == 33)=false:=by simpa using h33
 have hq2:((bt a0 0) != 33)=true:=by simpa using h33
 clear h33
 have p0:decide (0 < (a0.size:Int))=true:=decide_eq_true h0
 have p1:decide (0 < a0.size)=true:=decide_eq_true (by omega)
 have p2:=eq_true (show (1:Int)≤(a0.size:Int) by omega)
 have p3:decide ((1:Int)≤(a0.size:Int))=true:=decide_eq_true (by omega)
 have p4:=eq_true (show 0 < a0.size by omega)
 have p5:=eq_true (show (0:Int) < (a0.size:Int) by omega)
 clear h0
 have hx0 : ∀ h:0 < a0.size,((a0[0]).toNat:Int)=bt a0 0:=fun h=>bt_at a0 0 h
 have HF1:=Aside0.mk hf1
 clear hf1
 have HC1:=Aside0.mk hc1
 have HC2:=Aside0.mk hc2
 clear hc1 hc2
 have j0p:(0:Int)≤j:=by omega
 have j0:=eq_true j0p
 have j00:decide ((0:Int)≤j)=true:=decide_eq_true j0p
 have q2:=eq_false hj
 have j2p:j≤(a0.size:Int):=by omega
 have j2:=eq_true j2p
 have hw:wrap64 (j + 1)=j + 1:=by unfold wrap64;omega
 have hwk:IntKind.i64.wrap (j + 1)=j + 1:=(i64_w _).trans hw
 have j3:=eq_true (show (0:Int)≤j + 1 by omega)
 have j4:=eq_true (show j + 1≤(a0.size:Int) by omega)
 clear j0p j2p hj hlt hbig
 cases x5 <;> cases y5 <;> (
  go_enter Tryd.func8,Tryd.ntmps8
  go_wp2_with (first
   | ((with_reducible refine gate_dst (N:=2) rfl ?_);refine alloc_ 29 rfl rfl zeroL _ _ info29_ ?_;intro gr hgr w1 hb hB;have HR1:=Aside0.mk hb;have BR1:=Aside0.mk hB;have GR1:=Aside0.mk (show w.heap.size≤gr from Nat.le_of_eq hgr.symm);clear hb hB hgr)
   | ((with_reducible refine gate_dst (N:=4) rfl ?_);refine alloc_ 29 rfl rfl zeroL _ _ info29_ ?_;intro gt hgt w2 hb hB;have E:=Aside0.mk (show TS w gr gt zeroL zeroL [] w2 from ⟨(hB.block gr (blk_lt HR1.out)).trans HR1.out,hb,(fun p hp=>by cases hp),below_step BR1.out hB,GR1.out,Nat.le_trans (below_size BR1.out) (Nat.le_of_eq hgt.symm),(by rw [hgt];exact Nat.ne_of_lt (blk_lt HR1.out))⟩);clear hb hB hgt HR1 BR1 GR1)
   | ((with_reducible refine gate_ (.store 29 (.tmp 4) (.tmp 10)) rfl ?_);refine storeAll_ 29 (.tmp 4) (.tmp 10) rfl rfl rfl gt ?hp (testL 1 false (cellL 0 0 0 0) (cellL 0 0 0 0)) ?hx2 (by kernel_rfl) (testL_one _ _ _ _ _ _ _ _ _ _) _ _ E.out.hT rfl ?_;(case hp=>first | rfl | (go_simp;done) | (go_simp;rfl));(case hx2=>first | rfl | (go_simp;done) | (go_simp;rfl));intro w3 hb hg;have E2:=Aside0.mk (E.out.storeT hb hg);clear E hb hg;have E:=E2;clear E2)
   | ((with_reducible refine gate_ (.store 4 (.tmp 19) (.const (.bool true))) rfl ?_);refine store_ 4 (.tmp 19) (.const (.bool true)) rfl rfl rfl gt 1 ?hp (.bool true) rfl [.bool true] rfl (by kernel_rfl) (by intro q hq;simp at hq;rw [hq];rfl) _ _ E.out.hT (Nat.le_of_ble_eq_true rfl) ?_;(case hp=>first | rfl | (go_simp;done) | (go_simp;rfl));intro w4 hb hg;have E2:=Aside0.mk (show TS w gr gt zeroL (testL 1 true (cellL 0 0 0 0) (cellL 0 0 0 0)) [] w4 from E.out.storeT hb hg);clear E hb hg;have E:=E2;clear E2)
   | (go_at_call 13;refine (spec_l12Find.calls k _ 60 _ _ HF1.out).mono ?_;rintro e w5 ⟨rfl,hB⟩;have E2:=Aside0.mk (E.out.call hB.below);clear E HF1 hB;have E:=E2;clear E2)
   | ((with_reducible refine gate_ (.store 3 (.tmp 26) (.const (.int .i64 2))) rfl ?_);refine store_ 3 (.tmp 26) (.const (.int .i64 2)) rfl rfl rfl gt 0 ?hp (.int .i64 2) rfl [.int .i64 2] rfl (by kernel_rfl) (by intro q hq;simp at hq;rw [hq];rfl) _ _ E.out.hT (Nat.le_of_ble_eq_true rfl) ?_;(case hp=>first | rfl | (go_simp;done) | (go_simp;rfl));intro w6 hb hg;have E2:=Aside0.mk (show TS w gr gt zeroL (testL 2 false (cellL 0 0 0 0) (cellL 0 0 0 0)) [] w6 from E.out.storeT hb hg);clear E hb hg;have E:=E2;clear E2)
   | (go_at_call 13;refine (spec_l12Find.calls k _ 61 _ _ HF2.out).mono ?_;rintro e w7 ⟨rfl,hB⟩;have E2:=Aside0.mk (E.out.call hB.below);clear E HF2 hB;have E:=E2;clear E2)
   | ((with_reducible refine gate_ (.store 29 (.tmp 2) (.tmp 31)) rfl ?_);refine storeAll_ 29 (.tmp 2) (.tmp 31) rfl rfl rfl gr ?hp zeroL ?hx2 (by kernel_rfl) (fun q hq=>testL_one 0 false 0 0 0 0 0 0 0 0 q hq) _ _ E.out.hR rfl ?_;(case hp=>first | rfl | (go_simp;done) | (go_simp;rfl));(case hx2=>first | rfl | (go_simp;done) | (go_simp;rfl));intro w8 hb hg;have E2:=Aside0.mk (E.out.storeR hb hg);clear E hb hg;have E:=E2;clear E2)
   | (go_at_call 5;refine (spec_CellRead.calls k _ x1 x2 x3 x4 _ _ HC1.out).mono ?_;rintro e w9 ⟨rfl,hB⟩;have E2:=Aside0.mk (E.out.call hB);clear E HC1 hB;have E:=E2;clear E2)
   | ((with_reducible refine gate_dst (N:=6) rfl ?_);refine alloc_ 23 rfl rfl (cellL 0 0 0 0) _ _ info23_ ?_;intro ga hga w10 hb hB;have BA:=Aside0.mk hB;have YA:=Aside0.mk hb;have GA:=Aside0.mk hga;clear hb hB hga)
   | ((with_reducible refine gate_ (.store 23 (.tmp 6) (.tmp 37)) rfl ?_);refine storeAll_ 23 (.tmp 6) (.tmp 37) rfl rfl rfl ga ?hp (cellL x1 x2 x3 x4) ?hx2 (by kernel_rfl) (cellL_one _ _ _ _) _ _ YA.out rfl ?_;(case hp=>first | rfl | (go_simp;done) | (go_simp;rfl));(case hx2=>first | rfl | (go_simp;done) | (go_simp;rfl));intro w11 hb hg;have E2:=Aside0.mk (E.out.add GA.out BA.out hb hg);clear E BA YA GA hb hg;have E:=E2;clear E2)
   | (go_at_call 5;refine (spec_CellRead.calls k _ y1 y2 y3 y4 _ _ HC2.out).mono ?_;rintro e w12 ⟨rfl,hB⟩;have E2:=Aside0.mk (E.out.call hB);clear E HC2 hB;have E:=E2;clear E2)
   | ((with_reducible refine gate_dst (N:=8) rfl ?_);refine alloc_ 23 rfl rfl (cellL 0 0 0 0) _ _ info23_ ?_;intro gb hgb w13 hb hB;have BA:=Aside0.mk hB;have YA:=Aside0.mk hb;have GA:=Aside0.mk hgb;clear hb hB hgb)
   | ((with_reducible refine gate_ (.store 23 (.tmp 8) (.tmp 45)) rfl ?_);refine storeAll_ 23 (.tmp 8) (.tmp 45) rfl rfl rfl gb ?hp (cellL y1 y2 y3 y4) ?hx2 (by kernel_rfl) (cellL_one _ _ _ _) _ _ YA.out rfl ?_;(case hp=>first | rfl | (go_simp;done) | (go_simp;rfl));(case hx2=>first | rfl | (go_simp;done) | (go_simp;rfl));intro w14 hb hg;have E2:=Aside0.mk (E.out.add GA.out BA.out hb hg);clear E BA YA GA hb hg;have E:=E2;clear E2)
   | ((with_reducible refine gate_dst (N:=47) rfl ?_);refine loadVar_ 23 (.tmp 6) rfl rfl ga ?hx (cellL x1 x2 x3 x4) _ Tryd.underlying23 (by kernel_rfl) _ (E.out.hB (ga,cellL x1 x2 x3 x4) (by simp)).1 ?_;(case hx=>first | rfl | (go_simp;done) | (go_simp;rfl)))
   | ((with_reducible refine gate_ (.store 23 (.tmp 48) (.tmp 47)) rfl ?_);refine store_ 23 (.tmp 48) (.tmp 47) rfl rfl rfl gt 2 ?hp (.agg (cellL x1 x2 x3 x4).toArray) ?hx2 (cellL x1 x2 x3 x4) rfl (by kernel_rfl) (cellL_one _ _ _ _) _ _ E.out.hT (Nat.le_of_ble_eq_true rfl) ?_;(case hp=>first | rfl | (go_simp;done) | (go_simp;rfl));(case hx2=>first | rfl | (go_simp;done) | (go_simp;rfl));intro w15 hb hg;have E2:=Aside0.mk (show TS w gr gt zeroL (testL 1 false (cellL x1 x2 x3 x4) (cellL 0 0 0 0)) [(gb,cellL y1 y2 y3 y4),(ga,cellL x1 x2 x3 x4)] w15 from E.out.storeT hb hg);clear E hb hg;have E:=E2;clear E2)
   | ((with_reducible refine gate_dst (N:=49) rfl ?_);refine loadVar_ 23 (.tmp 8) rfl rfl gb ?hx (cellL y1 y2 y3 y4) _ Tryd.underlying23 (by kernel_rfl) _ (E.out.hB (gb,cellL y1 y2 y3 y4) (by simp)).1 ?_;(case hx=>first | rfl | (go_simp;done) | (go_simp;rfl)))
   | ((with_reducible refine gate_ (.store 23 (.tmp 50) (.tmp 49)) rfl ?_);refine store_ 23 (.tmp 50) (.tmp 49) rfl rfl rfl gt 6 ?hp (.agg (cellL y1 y2 y3 y4).toArray) ?hx2 (cellL y1 y2 y3 y4) rfl (by kernel_rfl) (cellL_one _ _ _ _) _ _ E.out.hT (Nat.le_of_ble_eq_true rfl) ?_;(case hp=>first | rfl | (go_simp;done) | (go_simp;rfl));(case hx2=>first | rfl | (go_simp;done) | (go_simp;rfl));intro w16 hb hg;have E2:=Aside0.mk (show TS w gr gt zeroL (testL 1 false (cellL x1 x2 x3 x4) (cellL y1 y2 y3 y4)) [(gb,cellL y1 y2 y3 y4),(ga,cellL x1 x2 x3 x4)] w16 from E.out.storeT hb hg);clear E hb hg;have E:=E2;clear E2)
   | ((with_reducible refine gate_ (.store 29 (.tmp 2) (.tmp 57)) rfl ?_);refine storeAll_ 29 (.tmp 2) (.tmp 57) rfl rfl rfl gr ?hp zeroL ?hx2 (by kernel_rfl) (fun q hq=>testL_one 0 false 0 0 0 0 0 0 0 0 q hq) _ _ E.out.hR rfl ?_;(case hp=>first | rfl | (go_simp;done) | (go_simp;rfl));(case hx2=>first | rfl | (go_simp;done) | (go_simp;rfl));intro w17 hb hg;have E2:=Aside0.mk (E.out.storeR hb hg);clear E hb hg;have E:=E2;clear E2)
   | ((with_reducible refine gate_dst (N:=58) rfl ?_);refine loadVar_ 29 (.tmp 4) rfl rfl gt ?hx (testL 1 false (cellL x1 x2 x3 x4) (cellL y1 y2 y3 y4)) _ Tryd.underlying29 (by kernel_rfl) _ E.out.hT ?_;(case hx=>first | rfl | (go_simp;done) | (go_simp;rfl)))
   | ((with_reducible refine gate_ (.store 29 (.tmp 2) (.tmp 58)) rfl ?_);refine storeAll_ 29 (.tmp 2) (.tmp 58) rfl rfl rfl gr ?hp (testL 1 false (cellL x1 x2 x3 x4) (cellL y1 y2 y3 y4)) ?hx2 (by kernel_rfl) (testL_one _ _ _ _ _ _ _ _ _ _) _ _ E.out.hR rfl ?_;(case hp=>first | rfl | (go_simp;done) | (go_simp;rfl));(case hx2=>first | rfl | (go_simp;done) | (go_simp;rfl));intro w18 hb hg;have E2:=Aside0.mk (E.out.storeR hb hg);clear E hb hg;have E:=E2;clear E2))
  first
   | exact bodyPost_ret (results_ct rfl _ _ gr 29 zeroL.toArray (0,0) _ rfl E.out.hR Tryd.underlying29 rfl (by kernel_rfl)) rfl ⟨rfl,E.out.bel⟩
   | exact bodyPost_ret (results_ct rfl _ _ gr 29 (testL 1 false (cellL x1 x2 x3 x4) (cellL y1 y2 y3 y4)).toArray (0,0) _ rfl E.out.hR Tryd.underlying29 rfl (by kernel_rfl)) rfl ⟨rfl,E.out.bel⟩)
set_option maxHeartbeats 8000000 in
set_option maxRecDepth 100000 in
theorem spec_pos_2bad (k:Nat) (a0:ByteArray) (w:World) (h0:(a0.size:Int) > 0) (h33 : ¬ bt a0 0=33) (j:Int) (j1:Int) (hf1:spec_l12Find.f k a0 60=some j1) (hj1:j1 < 0) (hf2:spec_l12Find.f k a0 61=some j) (hj:j < 0):Calls Tryd.prog 8 #[.string a0] w fun e w'=>e=.returned (.tuple #[.agg zeroL.toArray,.bool false])∧Below w.heap.size w w':=by
 have hq:((bt a0 0) == 33)=false:=by simpa using h33
 have hq2:((bt a0 0) != 33)=true:=by simpa using h33
 clear h33
 have p0:decide (0 < (a0.size:Int))=true:=decide_eq_true h0
 have p1:decide (0 < a0.size)=true:=decide_eq_true (by omega)
 have p2:=eq_true (show (1:Int)≤(a0.size:Int) by omega)
 have p3:decide ((1:Int)≤(a0.size:Int))=true:=decide_eq_true (by omega)
 have p4:=eq_true (show 0 < a0.size by omega)
 have p5:=eq_true (show (0:Int) < (a0.size:Int) by omega)
 clear h0
 have hx0 : ∀ h:0 < a0.size,((a0[0]).toNat:Int)=bt a0 0:=fun h=>bt_at a0 0 h
 have q1:=eq_true hj1
 clear hj1
 have q2:=eq_true hj
 clear hj
 have HF1:=Aside0.mk hf1
 clear hf1
 have HF2:=Aside0.mk hf2
 clear hf2
 go_enter Tryd.func8,Tryd.ntmps8
 go_wp2_with (first
  | ((with_reducible refine gate_dst (N:=2) rfl ?_);refine alloc_ 29 rfl rfl zeroL _ _ info29_ ?_;intro gr hgr w1 hb hB;have HR1:=Aside0.mk hb;have BR1:=Aside0.mk hB;have GR1:=Aside0.mk (show w.heap.size≤gr from Nat.le_of_eq hgr.symm);clear hb hB hgr)
  | ((with_reducible refine gate_dst (N:=4) rfl ?_);refine alloc_ 29 rfl rfl zeroL _ _ info29_ ?_;intro gt hgt w2 hb hB;have E:=Aside0.mk (show TS w gr gt zeroL zeroL [] w2 from ⟨(hB.block gr (blk_lt HR1.out)).trans HR1.out,hb,(fun p hp=>by cases hp),below_step BR1.out hB,GR1.out,Nat.le_trans (below_size BR1.out) (Nat.le_of_eq hgt.symm),(by rw [hgt];exact Nat.ne_of_lt (blk_lt HR1.out))⟩);clear hb hB hgt HR1 BR1 GR1)
  | ((with_reducible refine gate_ (.store 29 (.tmp 4) (.tmp 10)) rfl ?_);refine storeAll_ 29 (.tmp 4) (.tmp 10) rfl rfl rfl gt ?hp (testL 1 false (cellL 0 0 0 0) (cellL 0 0 0 0)) ?hx2 (by kernel_rfl) (testL_one _ _ _ _ _ _ _ _ _ _) _ _ E.out.hT rfl ?_;(case hp=>first | rfl | (go_simp;done) | (go_simp;rfl));(case hx2=>first | rfl | (go_simp;done) | (go_simp;rfl));intro w3 hb hg;have E2:=Aside0.mk (E.out.storeT hb hg);clear E hb hg;have E:=E2;clear E2)
  | ((with_reducible refine gate_ (.store 4 (.tmp 19) (.const (.bool true))) rfl ?_);refine store_ 4 (.tmp 19) (.const (.bool true)) rfl rfl rfl gt 1 ?hp (.bool true) rfl [.bool true] rfl (by kernel_rfl) (by intro q hq;simp at hq;rw [hq];rfl) _ _ E.out.hT (Nat.le_of_ble_eq_true rfl) ?_;(case hp=>first | rfl | (go_simp;done) | (go_simp;rfl));intro w4 hb hg;have E2:=Aside0.mk (show TS w gr gt zeroL (testL 1 true (cellL 0 0 0 0) (cellL 0 0 0 0)) [] w4 from E.out.storeT hb hg);clear E hb hg;have E:=E2;clear E2)
  | (go_at_call 13;refine (spec_l12Find.calls k _ 60 _ _ HF1.out).mono ?_;rintro e w5 ⟨rfl,hB⟩;have E2:=Aside0.mk (E.out.call hB.below);clear E HF1 hB;have E:=E2;clear E2)
  | ((with_reducible refine gate_ (.store 3 (.tmp 26) (.const (.int .i64 2))) rfl ?_);refine store_ 3 (.tmp 26) (.const (.int .i64 2)) rfl rfl rfl gt 0 ?hp (.int .i64 2) rfl [.int .i64 2] rfl (by kernel_rfl) (by intro q hq;simp at hq;rw [hq];rfl) _ _ E.out.hT (Nat.le_of_ble_eq_true rfl) ?_;(case hp=>first | rfl | (go_simp;done) | (go_simp;rfl));intro w6 hb hg;have E2:=Aside0.mk (show TS w gr gt zeroL (testL 2 false (cellL 0 0 0 0) (cellL 0 0 0 0)) [] w6 from E.out.storeT hb hg);clear E hb hg;have E:=E2;clear E2)
  | (go_at_call 13;refine (spec_l12Find.calls k _ 61 _ _ HF2.out).mono ?_;rintro e w7 ⟨rfl,hB⟩;have E2:=Aside0.mk (E.out.call hB.below);clear E HF2 hB;have E:=E2;clear E2)
  | ((with_reducible refine gate_ (.store 29 (.tmp 2) (.tmp 31)) rfl ?_);refine storeAll_ 29 (.tmp 2) (.tmp 31) rfl rfl rfl gr ?hp zeroL ?hx2 (by kernel_rfl) (fun q hq=>testL_one 0 false 0 0 0 0 0 0 0 0 q hq) _ _ E.out.hR rfl ?_;(case hp=>first | rfl | (go_simp;done) | (go_simp;rfl));(case hx2=>first | rfl | (go_simp;done) | (go_simp;rfl));intro w8 hb hg;have E2:=Aside0.mk (E.out.storeR hb hg);clear E hb hg;have E:=E2;clear E2)
  | (go_at_call 5;refine (spec_CellRead.calls k _ x1 x2 x3 x4 _ _ HC1.out).mono ?_;rintro e w9 ⟨rfl,hB⟩;have E2:=Aside0.mk (E.out.call hB);clear E HC1 hB;have E:=E2;clear E2)
  | ((with_reducible refine gate_dst (N:=6) rfl ?_);refine alloc_ 23 rfl rfl (cellL 0 0 0 0) _ _ info23_ ?_;intro ga hga w10 hb hB;have BA:=Aside0.mk hB;have YA:=Aside0.mk hb;have GA:=Aside0.mk hga;clear hb hB hga)
  | ((with_reducible refine gate_ (.store 23 (.tmp 6) (.tmp 37)) rfl ?_);refine storeAll_ 23 (.tmp 6) (.tmp 37) rfl rfl rfl ga ?hp (cellL x1 x2 x3 x4) ?hx2 (by kernel_rfl) (cellL_one _ _ _ _) _ _ YA.out rfl ?_;(case hp=>first | rfl | (go_simp;done) | (go_simp;rfl));(case hx2=>first | rfl | (go_simp;done) | (go_simp;rfl));intro w11 hb hg;have E2:=Aside0.mk (E.out.add GA.out BA.out hb hg);clear E BA YA GA hb hg;have E:=E2;clear E2)
  | (go_at_call 5;refine (spec_CellRead.calls k _ y1 y2 y3 y4 _ _ HC2.out).mono ?_;rintro e w12 ⟨rfl,hB⟩;have E2:=Aside0.mk (E.out.call hB);clear E HC2 hB;have E:=E2;clear E2)
  | ((with_reducible refine gate_dst (N:=8) rfl ?_);refine alloc_ 23 rfl rfl (cellL 0 0 0 0) _ _ info23_ ?_;intro gb hgb w13 hb hB;have BA:=Aside0.mk hB;have YA:=Aside0.mk hb;have GA:=Aside0.mk hgb;clear hb hB hgb)
  | ((with_reducible refine gate_ (.store 23 (.tmp 8) (.tmp 45)) rfl ?_);refine storeAll_ 23 (.tmp 8) (.tmp 45) rfl rfl rfl gb ?hp (cellL y1 y2 y3 y4) ?hx2 (by kernel_rfl) (cellL_one _ _ _ _) _ _ YA.out rfl ?_;(case hp=>first | rfl | (go_simp;done) | (go_simp;rfl));(case hx2=>first | rfl | (go_simp;done) | (go_simp;rfl));intro w14 hb hg;have E2:=Aside0.mk (E.out.add GA.out BA.out hb hg);clear E BA YA GA hb hg;have E:=E2;clear E2)
  | ((with_reducible refine gate_dst (N:=47) rfl ?_);refine loadVar_ 23 (.tmp 6) rfl rfl ga ?hx (cellL x1 x2 x3 x4) _ Tryd.underlying23 (by kernel_rfl) _ (E.out.hB (ga,cellL x1 x2 x3 x4) (by simp)).1 ?_;(case hx=>first | rfl | (go_simp;done) | (go_simp;rfl)))
  | ((with_reducible refine gate_ (.store 23 (.tmp 48) (.tmp 47)) rfl ?_);refine store_ 23 (.tmp 48) (.tmp 47) rfl rfl rfl gt 2 ?hp (.agg (cellL x1 x2 x3 x4).toArray) ?hx2 (cellL x1 x2 x3 x4) rfl (by kernel_rfl) (cellL_one _ _ _ _) _ _ E.out.hT (Nat.le_of_ble_eq_true rfl) ?_;(case hp=>first | rfl | (go_simp;done) | (go_simp;rfl));(case hx2=>first | rfl | (go_simp;done) | (go_simp;rfl));intro w15 hb hg;have E2:=Aside0.mk (show TS w gr gt zeroL (testL 2 false (cellL x1 x2 x3 x4) (cellL 0 0 0 0)) [(gb,cellL y1 y2 y3 y4),(ga,cellL x1 x2 x3 x4)] w15 from E.out.storeT hb hg);clear E hb hg;have E:=E2;clear E2)
  | ((with_reducible refine gate_dst (N:=49) rfl ?_);refine loadVar_ 23 (.tmp 8) rfl rfl gb ?hx (cellL y1 y2 y3 y4) _ Tryd.underlying23 (by kernel_rfl) _ (E.out.hB (gb,cellL y1 y2 y3 y4) (by simp)).1 ?_;(case hx=>first | rfl | (go_simp;done) | (go_simp;rfl)))
  | ((with_reducible refine gate_ (.store 23 (.tmp 50) (.tmp 49)) rfl ?_);refine store_ 23 (.tmp 50) (.tmp 49) rfl rfl rfl gt 6 ?hp (.agg (cellL y1 y2 y3 y4).toArray) ?hx2 (cellL y1 y2 y3 y4) rfl (by kernel_rfl) (cellL_one _ _ _ _) _ _ E.out.hT (Nat.le_of_ble_eq_true rfl) ?_;(case hp=>first | rfl | (go_simp;done) | (go_simp;rfl));(case hx2=>first | rfl | (go_simp;done) | (go_simp;rfl));intro w16 hb hg;have E2:=Aside0.mk (show TS w gr gt zeroL (testL 2 false (cellL x1 x2 x3 x4) (cellL y1 y2 y3 y4)) [(gb,cellL y1 y2 y3 y4),(ga,cellL x1 x2 x3 x4)] w16 from E.out.storeT hb hg);clear E hb hg;have E:=E2;clear E2)
  | ((with_reducible refine gate_ (.store 29 (.tmp 2) (.tmp 57)) rfl ?_);refine storeAll_ 29 (.tmp 2) (.tmp 57) rfl rfl rfl gr ?hp zeroL ?hx2 (by kernel_rfl) (fun q hq=>testL_one 0 false 0 0 0 0 0 0 0 0 q hq) _ _ E.out.hR rfl ?_;(case hp=>first | rfl | (go_simp;done) | (go_simp;rfl));(case hx2=>first | rfl | (go_simp;done) | (go_simp;rfl));intro w17 hb hg;have E2:=Aside0.mk (E.out.storeR hb hg);clear E hb hg;have E:=E2;clear E2)
  | ((with_reducible refine gate_dst (N:=58) rfl ?_);refine loadVar_ 29 (.tmp 4) rfl rfl gt ?hx (testL 2 false (cellL x1 x2 x3 x4) (cellL y1 y2 y3 y4)) _ Tryd.underlying29 (by kernel_rfl) _ E.out.hT ?_;(case hx=>first | rfl | (go_simp;done) | (go_simp;rfl)))
  | ((with_reducible refine gate_ (.store 29 (.tmp 2) (.tmp 58)) rfl ?_);refine storeAll_ 29 (.tmp 2) (.tmp 58) rfl rfl rfl gr ?hp (testL 2 false (cellL x1 x2 x3 x4) (cellL y1 y2 y3 y4)) ?hx2 (by kernel_rfl) (testL_one _ _ _ _ _ _ _ _ _ _) _ _ E.out.hR rfl ?_;(case hp=>first | rfl | (go_simp;done) | (go_simp;rfl));(case hx2=>first | rfl | (go_simp;done) | (go_simp;rfl));intro w18 hb hg;have E2:=Aside0.mk (E.out.storeR hb hg);clear E hb hg;have E:=E2;clear E2))
 refine bodyPost_ret (results_ct rfl _ _ gr 29 zeroL.toArray (0,0) _ rfl E.out.hR Tryd.underlying29 rfl (by kernel_rfl)) rfl ⟨rfl,E.out.bel⟩
set_option maxHeartbeats 8000000 in
set_option maxRecDepth 100000 in
theorem spec_pos_2ok (k:Nat) (a0:ByteArray) (w:World) (h0:(a0.size:Int) > 0) (h33 : ¬ bt a0 0=33) (j:Int) (j1:Int) (hf1:spec_l12Find.f k a0 60=some j1) (hj1:j1 < 0) (hf2:spec_l12Find.f k a0 61=some j) (hj : ¬ j < 0) (hlt:j < (a0.size:Int)) (hbig:j < 4611686018427387904) (x1 x2 x3 x4 y1 y2 y3 y4:Int) (x5 y5:Bool) (hc1:spec_CellRead.f k (a0.extract 0 j.toNat)=some (x1,x2,x3,x4,x5)) (hc2:spec_CellRead.f k (a0.extract (j + 1).toNat a0.size)=some (y1,y2,y3,y4,y5)):Calls Tryd.prog 8 #[.string a0] w fun e w'=>e=.returned (if (x5 && y5)=true then .tuple #[.agg (testL 2 false (cellL x1 x2 x3 x4) (cellL y1 y2 y3 y4)).toArray,.bool true] else .tuple #[.agg zeroL.toArray,.bool false])∧Below w.heap.size w w':=by
 have hq:((bt a0 0) == 33)=false:=by simpa using h33
 have hq2:((bt a0 0) != 33)=true:=by simpa using h33
 clear h33
 have p0:decide (0 < (a0.size:Int))=true:=decide_eq_true h0
 have p1:decide (0 < a0.size)=true:=decide_eq_true (by omega)
 have p2:=eq_true (show (1:Int)≤(a0.size:Int) by omega)
 have p3:decide ((1:Int)≤(a0.size:Int))=true:=decide_eq_true (by omega)
 have p4:=eq_true (show 0 < a0.size by omega)
 have p5:=eq_true (show (0:Int) < (a0.size:Int) by omega)
 clear h0
 have hx0 : ∀ h:0 < a0.size,((a0[0]).toNat:Int)=bt a0 0:=fun h=>bt_at a0 0 h
 have q1:=eq_true hj1
 clear hj1
 have HF1:=Aside0.mk hf1
 clear hf1
 have HF2:=Aside0.mk hf2
 clear hf2
 have HC1:=Aside0.mk hc1
 have HC2:=Aside0.mk hc2
 clear hc1 hc2
 have j0p:(0:Int)≤j:=by omega
 have j0:=eq_true j0p
 have j00:decide ((0:Int)≤j)=true:=decide_eq_true j0p
 have q2:=eq_false hj
 have j2p:j≤(a0.size:Int):=by omega
 have j2:=eq_true j2p
 have hw:wrap64 (j + 1)=j + 1:=by unfold wrap64;omega
 have hwk:IntKind.i64.wrap (j + 1)=j + 1:=(i64_w _).trans hw
 have j3:=eq_true (show (0:Int)≤j + 1 by omega)
 have j4:=eq_true (show j + 1≤(a0.size:Int) by omega)
 clear j0p j2p hj hlt hbig
 cases x5 <;> cases y5 <;> (
  go_enter Tryd.func8,Tryd.ntmps8
  go_wp2_with (first
   | ((with_reducible refine gate_dst (N:=2) rfl ?_);refine alloc_ 29 rfl rfl zeroL _ _ info29_ ?_;intro gr hgr w1 hb hB;have HR1:=Aside0.mk hb;have BR1:=Aside0.mk hB;have GR1:=Aside0.mk (show w.heap.size≤gr from Nat.le_of_eq hgr.symm);clear hb hB hgr)
   | ((with_reducible refine gate_dst (N:=4) rfl ?_);refine alloc_ 29 rfl rfl zeroL _ _ info29_ ?_;intro gt hgt w2 hb hB;have E:=Aside0.mk (show TS w gr gt zeroL zeroL [] w2 from ⟨(hB.block gr (blk_lt HR1.out)).trans HR1.out,hb,(fun p hp=>by cases hp),below_step BR1.out hB,GR1.out,Nat.le_trans (below_size BR1.out) (Nat.le_of_eq hgt.symm),(by rw [hgt];exact Nat.ne_of_lt (blk_lt HR1.out))⟩);clear hb hB hgt HR1 BR1 GR1)
   | ((with_reducible refine gate_ (.store 29 (.tmp 4) (.tmp 10)) rfl ?_);refine storeAll_ 29 (.tmp 4) (.tmp 10) rfl rfl rfl gt ?hp (testL 1 false (cellL 0 0 0 0) (cellL 0 0 0 0)) ?hx2 (by kernel_rfl) (testL_one _ _ _ _ _ _ _ _ _ _) _ _ E.out.hT rfl ?_;(case hp=>first | rfl | (go_simp;done) | (go_simp;rfl));(case hx2=>first | rfl | (go_simp;done) | (go_simp;rfl));intro w3 hb hg;have E2:=Aside0.mk (E.out.storeT hb hg);clear E hb hg;have E:=E2;clear E2)
   | ((with_reducible refine gate_ (.store 4 (.tmp 19) (.const (.bool true))) rfl ?_);refine store_ 4 (.tmp 19) (.const (.bool true)) rfl rfl rfl gt 1 ?hp (.bool true) rfl [.bool true] rfl (by kernel_rfl) (by intro q hq;simp at hq;rw [hq];rfl) _ _ E.out.hT (Nat.le_of_ble_eq_true rfl) ?_;(case hp=>first | rfl | (go_simp;done) | (go_simp;rfl));intro w4 hb hg;have E2:=Aside0.mk (show TS w gr gt zeroL (testL 1 true (cellL 0 0 0 0) (cellL 0 0 0 0)) [] w4 from E.out.storeT hb hg);clear E hb hg;have E:=E2;clear E2)
   | (go_at_call 13;refine (spec_l12Find.calls k _ 60 _ _ HF1.out).mono ?_;rintro e w5 ⟨rfl,hB⟩;have E2:=Aside0.mk (E.out.call hB.below);clear E HF1 hB;have E:=E2;clear E2)
   | ((with_reducible refine gate_ (.store 3 (.tmp 26) (.const (.int .i64 2))) rfl ?_);refine store_ 3 (.tmp 26) (.const (.int .i64 2)) rfl rfl rfl gt 0 ?hp (.int .i64 2) rfl [.int .i64 2] rfl (by kernel_rfl) (by intro q hq;simp at hq;rw [hq];rfl) _ _ E.out.hT (Nat.le_of_ble_eq_true rfl) ?_;(case hp=>first | rfl | (go_simp;done) | (go_simp;rfl));intro w6 hb hg;have E2:=Aside0.mk (show TS w gr gt zeroL (testL 2 false (cellL 0 0 0 0) (cellL 0 0 0 0)) [] w6 from E.out.storeT hb hg);clear E hb hg;have E:=E2;clear E2)
   | (go_at_call 13;refine (spec_l12Find.calls k _ 61 _ _ HF2.out).mono ?_;rintro e w7 ⟨rfl,hB⟩;have E2:=Aside0.mk (E.out.call hB.below);clear E HF2 hB;have E:=E2;clear E2)
   | ((with_reducible refine gate_ (.store 29 (.tmp 2) (.tmp 31)) rfl ?_);refine storeAll_ 29 (.tmp 2) (.tmp 31) rfl rfl rfl gr ?hp zeroL ?hx2 (by kernel_rfl) (fun q hq=>testL_one 0 false 0 0 0 0 0 0 0 0 q hq) _ _ E.out.hR rfl ?_;(case hp=>first | rfl | (go_simp;done) | (go_simp;rfl));(case hx2=>first | rfl | (go_simp;done) | (go_simp;rfl));intro w8 hb hg;have E2:=Aside0.mk (E.out.storeR hb hg);clear E hb hg;have E:=E2;clear E2)
   | (go_at_call 5;refine (spec_CellRead.calls k _ x1 x2 x3 x4 _ _ HC1.out).mono ?_;rintro e w9 ⟨rfl,hB⟩;have E2:=Aside0.mk (E.out.call hB);clear E HC1 hB;have E:=E2;clear E2)
   | ((with_reducible refine gate_dst (N:=6) rfl ?_);refine alloc_ 23 rfl rfl (cellL 0 0 0 0) _ _ info23_ ?_;intro ga hga w10 hb hB;have BA:=Aside0.mk hB;have YA:=Aside0.mk hb;have GA:=Aside0.mk hga;clear hb hB hga)
   | ((with_reducible refine gate_ (.store 23 (.tmp 6) (.tmp 37)) rfl ?_);refine storeAll_ 23 (.tmp 6) (.tmp 37) rfl rfl rfl ga ?hp (cellL x1 x2 x3 x4) ?hx2 (by kernel_rfl) (cellL_one _ _ _ _) _ _ YA.out rfl ?_;(case hp=>first | rfl | (go_simp;done) | (go_simp;rfl));(case hx2=>first | rfl | (go_simp;done) | (go_simp;rfl));intro w11 hb hg;have E2:=Aside0.mk (E.out.add GA.out BA.out hb hg);clear E BA YA GA hb hg;have E:=E2;clear E2)
   | (go_at_call 5;refine (spec_CellRead.calls k _ y1 y2 y3 y4 _ _ HC2.out).mono ?_;rintro e w12 ⟨rfl,hB⟩;have E2:=Aside0.mk (E.out.call hB);clear E HC2 hB;have E:=E2;clear E2)
   | ((with_reducible refine gate_dst (N:=8) rfl ?_);refine alloc_ 23 rfl rfl (cellL 0 0 0 0) _ _ info23_ ?_;intro gb hgb w13 hb hB;have BA:=Aside0.mk hB;have YA:=Aside0.mk hb;have GA:=Aside0.mk hgb;clear hb hB hgb)
   | ((with_reducible refine gate_ (.store 23 (.tmp 8) (.tmp 45)) rfl ?_);refine storeAll_ 23 (.tmp 8) (.tmp 45) rfl rfl rfl gb ?hp (cellL y1 y2 y3 y4) ?hx2 (by kernel_rfl) (cellL_one _ _ _ _) _ _ YA.out rfl ?_;(case hp=>first | rfl | (go_simp;done) | (go_simp;rfl));(case hx2=>first | rfl | (go_simp;done) | (go_simp;rfl));intro w14 hb hg;have E2:=Aside0.mk (E.out.add GA.out BA.out hb hg);clear E BA YA GA hb hg;have E:=E2;clear E2)
   | ((with_reducible refine gate_dst (N:=47) rfl ?_);refine loadVar_ 23 (.tmp 6) rfl rfl ga ?hx (cellL x1 x2 x3 x4) _ Tryd.underlying23 (by kernel_rfl) _ (E.out.hB (ga,cellL x1 x2 x3 x4) (by simp)).1 ?_;(case hx=>first | rfl | (go_simp;done) | (go_simp;rfl)))
   | ((with_reducible refine gate_ (.store 23 (.tmp 48) (.tmp 47)) rfl ?_);refine store_ 23 (.tmp 48) (.tmp 47) rfl rfl rfl gt 2 ?hp (.agg (cellL x1 x2 x3 x4).toArray) ?hx2 (cellL x1 x2 x3 x4) rfl (by kernel_rfl) (cellL_one _ _ _ _) _ _ E.out.hT (Nat.le_of_ble_eq_true rfl) ?_;(case hp=>first | rfl | (go_simp;done) | (go_simp;rfl));(case hx2=>first | rfl | (go_simp;done) | (go_simp;rfl));intro w15 hb hg;have E2:=Aside0.mk (show TS w gr gt zeroL (testL 2 false (cellL x1 x2 x3 x4) (cellL 0 0 0 0)) [(gb,cellL y1 y2 y3 y4),(ga,cellL x1 x2 x3 x4)] w15 from E.out.storeT hb hg);clear E hb hg;have E:=E2;clear E2)
   | ((with_reducible refine gate_dst (N:=49) rfl ?_);refine loadVar_ 23 (.tmp 8) rfl rfl gb ?hx (cellL y1 y2 y3 y4) _ Tryd.underlying23 (by kernel_rfl) _ (E.out.hB (gb,cellL y1 y2 y3 y4) (by simp)).1 ?_;(case hx=>first | rfl | (go_simp;done) | (go_simp;rfl)))
   | ((with_reducible refine gate_ (.store 23 (.tmp 50) (.tmp 49)) rfl ?_);refine store_ 23 (.tmp 50) (.tmp 49) rfl rfl rfl gt 6 ?hp (.agg (cellL y1 y2 y3 y4).toArray) ?hx2 (cellL y1 y2 y3 y4) rfl (by kernel_rfl) (cellL_one _ _ _ _) _ _ E.out.hT (Nat.le_of_ble_eq_true rfl) ?_;(case hp=>first | rfl | (go_simp;done) | (go_simp;rfl));(case hx2=>first | rfl | (go_simp;done) | (go_simp;rfl));intro w16 hb hg;have E2:=Aside0.mk (show TS w gr gt zeroL (testL 2 false (cellL x1 x2 x3 x4) (cellL y1 y2 y3 y4)) [(gb,cellL y1 y2 y3 y4),(ga,cellL x1 x2 x3 x4)] w16 from E.out.storeT hb hg);clear E hb hg;have E:=E2;clear E2)
   | ((with_reducible refine gate_ (.store 29 (.tmp 2) (.tmp 57)) rfl ?_);refine storeAll_ 29 (.tmp 2) (.tmp 57) rfl rfl rfl gr ?hp zeroL ?hx2 (by kernel_rfl) (fun q hq=>testL_one 0 false 0 0 0 0 0 0 0 0 q hq) _ _ E.out.hR rfl ?_;(case hp=>first | rfl | (go_simp;done) | (go_simp;rfl));(case hx2=>first | rfl | (go_simp;done) | (go_simp;rfl));intro w17 hb hg;have E2:=Aside0.mk (E.out.storeR hb hg);clear E hb hg;have E:=E2;clear E2)
   | ((with_reducible refine gate_dst (N:=58) rfl ?_);refine loadVar_ 29 (.tmp 4) rfl rfl gt ?hx (testL 2 false (cellL x1 x2 x3 x4) (cellL y1 y2 y3 y4)) _ Tryd.underlying29 (by kernel_rfl) _ E.out.hT ?_;(case hx=>first | rfl | (go_simp;done) | (go_simp;rfl)))
   | ((with_reducible refine gate_ (.store 29 (.tmp 2) (.tmp 58)) rfl ?_);refine storeAll_ 29 (.tmp 2) (.tmp 58) rfl rfl rfl gr ?hp (testL 2 false (cellL x1 x2 x3 x4) (cellL y1 y2 y3 y4)) ?hx2 (by kernel_rfl) (testL_one _ _ _ _ _ _ _ _ _ _) _ _ E.out.hR rfl ?_;(case hp=>first | rfl | (go_simp;done) | (go_simp;rfl));(case hx2=>first | rfl | (go_simp;done) | (go_simp;rfl));intro w18 hb hg;have E2:=Aside0.mk (E.out.storeR hb hg);clear E hb hg;have E:=E2;clear E2))
  first
   | exact bodyPost_ret (results_ct rfl _ _ gr 29 zeroL.toArray (0,0) _ rfl E.out.hR Tryd.underlying29 rfl (by kernel_rfl)) rfl ⟨rfl,E.out.bel⟩
   | exact bodyPost_ret (results_ct rfl _ _ gr 29 (testL 2 false (cellL x1 x2 x3 x4) (cellL y1 y2 y3 y4)).toArray (0,0) _ rfl E.out.hR Tryd.underlying29 rfl (by kernel_rfl)) rfl ⟨rfl,E.out.bel⟩)
set_option maxHeartbeats 8000000 in
set_option maxRecDepth 100000 in
theorem spec_nil_1ok (k:Nat) (a0:ByteArray) (w:World) (h0 : ¬ (a0.size:Int) > 0) (j:Int) (hf1:spec_l12Find.f k a0 60=some j) (hj : ¬ j < 0) (hlt:j < (a0.size:Int)) (hbig:j < 4611686018427387904) (x1 x2 x3 x4 y1 y2 y3 y4:Int) (x5 y5:Bool) (hc1:spec_CellRead.f k (a0.extract 0 j.toNat)=some (x1,x2,x3,x4,x5)) (hc2:spec_CellRead.f k (a0.extract (j + 1).toNat a0.size)=some (y1,y2,y3,y4,y5)):Calls Tryd.prog 8 #[.string a0] w fun e w'=>e=.returned (if (x5 && y5)=true then .tuple #[.agg (testL 1 false (cellL x1 x2 x3 x4) (cellL y1 y2 y3 y4)).toArray,.bool true] else .tuple #[.agg zeroL.toArray,.bool false])∧Below w.heap.size w w':=by
 have p0:decide (0 < (a0.size:Int))=false:=decide_eq_false h0
 have p1:decide (0 < a0.size)=false:=decide_eq_false (by omega)
 clear h0
 have hx0 : ∀ h:0 < a0.size,((a0[0]).toNat:Int)=bt a0 0:=fun h=>bt_at a0 0 h
 have HF1:=Aside0.mk hf1
 clear hf1
 have HC1:=Aside0.mk hc1
 have HC2:=Aside0.mk hc2
 clear hc1 hc2
 have j0p:(0:Int)≤j:=by omega
 have j0:=eq_true j0p
 have j00:decide ((0:Int)≤j)=true:=decide_eq_true j0p
 have q2:=eq_false hj
 have j2p:j≤(a0.size:Int):=by omega
 have j2:=eq_true j2p
 have hw:wrap64 (j + 1)=j + 1:=by unfold wrap64;omega
 have hwk:IntKind.i64.wrap (j + 1)=j + 1:=(i64_w _).trans hw
 have j3:=eq_true (show (0:Int)≤j + 1 by omega)
 have j4:=eq_true (show j + 1≤(a0.size:Int) by omega)
 clear j0p j2p hj hlt hbig
 cases x5 <;> cases y5 <;> (
  go_enter Tryd.func8,Tryd.ntmps8
  go_wp2_with (first
   | ((with_reducible refine gate_dst (N:=2) rfl ?_);refine alloc_ 29 rfl rfl zeroL _ _ info29_ ?_;intro gr hgr w1 hb hB;have HR1:=Aside0.mk hb;have BR1:=Aside0.mk hB;have GR1:=Aside0.mk (show w.heap.size≤gr from Nat.le_of_eq hgr.symm);clear hb hB hgr)
   | ((with_reducible refine gate_dst (N:=4) rfl ?_);refine alloc_ 29 rfl rfl zeroL _ _ info29_ ?_;intro gt hgt w2 hb hB;have E:=Aside0.mk (show TS w gr gt zeroL zeroL [] w2 from ⟨(hB.block gr (blk_lt HR1.out)).trans HR1.out,hb,(fun p hp=>by cases hp),below_step BR1.out hB,GR1.out,Nat.le_trans (below_size BR1.out) (Nat.le_of_eq hgt.symm),(by rw [hgt];exact Nat.ne_of_lt (blk_lt HR1.out))⟩);clear hb hB hgt HR1 BR1 GR1)
   | ((with_reducible refine gate_ (.store 29 (.tmp 4) (.tmp 10)) rfl ?_);refine storeAll_ 29 (.tmp 4) (.tmp 10) rfl rfl rfl gt ?hp (testL 1 false (cellL 0 0 0 0) (cellL 0 0 0 0)) ?hx2 (by kernel_rfl) (testL_one _ _ _ _ _ _ _ _ _ _) _ _ E.out.hT rfl ?_;(case hp=>first | rfl | (go_simp;done) | (go_simp;rfl));(case hx2=>first | rfl | (go_simp;done) | (go_simp;rfl));intro w3 hb hg;have E2:=Aside0.mk (E.out.storeT hb hg);clear E hb hg;have E:=E2;clear E2)
   | ((with_reducible refine gate_ (.store 4 (.tmp 19) (.const (.bool true))) rfl ?_);refine store_ 4 (.tmp 19) (.const (.bool true)) rfl rfl rfl gt 1 ?hp (.bool true) rfl [.bool true] rfl (by kernel_rfl) (by intro q hq;simp at hq;rw [hq];rfl) _ _ E.out.hT (Nat.le_of_ble_eq_true rfl) ?_;(case hp=>first | rfl | (go_simp;done) | (go_simp;rfl));intro w4 hb hg;have E2:=Aside0.mk (show TS w gr gt zeroL (testL 1 true (cellL 0 0 0 0) (cellL 0 0 0 0)) [] w4 from E.out.storeT hb hg);clear E hb hg;have E:=E2;clear E2)
   | (go_at_call 13;refine (spec_l12Find.calls k _ 60 _ _ HF1.out).mono ?_;rintro e w5 ⟨rfl,hB⟩;have E2:=Aside0.mk (E.out.call hB.below);clear E HF1 hB;have E:=E2;clear E2)
   | ((with_reducible refine gate_ (.store 3 (.tmp 26) (.const (.int .i64 2))) rfl ?_);refine store_ 3 (.tmp 26) (.const (.int .i64 2)) rfl rfl rfl gt 0 ?hp (.int .i64 2) rfl [.int .i64 2] rfl (by kernel_rfl) (by intro q hq;simp at hq;rw [hq];rfl) _ _ E.out.hT (Nat.le_of_ble_eq_true rfl) ?_;(case hp=>first | rfl | (go_simp;done) | (go_simp;rfl));intro w6 hb hg;have E2:=Aside0.mk (show TS w gr gt zeroL (testL 2 false (cellL 0 0 0 0) (cellL 0 0 0 0)) [] w6 from E.out.storeT hb hg);clear E hb hg;have E:=E2;clear E2)
   | (go_at_call 13;refine (spec_l12Find.calls k _ 61 _ _ HF2.out).mono ?_;rintro e w7 ⟨rfl,hB⟩;have E2:=Aside0.mk (E.out.call hB.below);clear E HF2 hB;have E:=E2;clear E2)
   | ((with_reducible refine gate_ (.store 29 (.tmp 2) (.tmp 31)) rfl ?_);refine storeAll_ 29 (.tmp 2) (.tmp 31) rfl rfl rfl gr ?hp zeroL ?hx2 (by kernel_rfl) (fun q hq=>testL_one 0 false 0 0 0 0 0 0 0 0 q hq) _ _ E.out.hR rfl ?_;(case hp=>first | rfl | (go_simp;done) | (go_simp;rfl));(case hx2=>first | rfl | (go_simp;done) | (go_simp;rfl));intro w8 hb hg;have E2:=Aside0.mk (E.out.storeR hb hg);clear E hb hg;have E:=E2;clear E2)
   | (go_at_call 5;refine (spec_CellRead.calls k _ x1 x2 x3 x4 _ _ HC1.out).mono ?_;rintro e w9 ⟨rfl,hB⟩;have E2:=Aside0.mk (E.out.call hB);clear E HC1 hB;have E:=E2;clear E2)
   | ((with_reducible refine gate_dst (N:=6) rfl ?_);refine alloc_ 23 rfl rfl (cellL 0 0 0 0) _ _ info23_ ?_;intro ga hga w10 hb hB;have BA:=Aside0.mk hB;have YA:=Aside0.mk hb;have GA:=Aside0.mk hga;clear hb hB hga)
   | ((with_reducible refine gate_ (.store 23 (.tmp 6) (.tmp 37)) rfl ?_);refine storeAll_ 23 (.tmp 6) (.tmp 37) rfl rfl rfl ga ?hp (cellL x1 x2 x3 x4) ?hx2 (by kernel_rfl) (cellL_one _ _ _ _) _ _ YA.out rfl ?_;(case hp=>first | rfl | (go_simp;done) | (go_simp;rfl));(case hx2=>first | rfl | (go_simp;done) | (go_simp;rfl));intro w11 hb hg;have E2:=Aside0.mk (E.out.add GA.out BA.out hb hg);clear E BA YA GA hb hg;have E:=E2;clear E2)
   | (go_at_call 5;refine (spec_CellRead.calls k _ y1 y2 y3 y4 _ _ HC2.out).mono ?_;rintro e w12 ⟨rfl,hB⟩;have E2:=Aside0.mk (E.out.call hB);clear E HC2 hB;have E:=E2;clear E2)
   | ((with_reducible refine gate_dst (N:=8) rfl ?_);refine alloc_ 23 rfl rfl (cellL 0 0 0 0) _ _ info23_ ?_;intro gb hgb w13 hb hB;have BA:=Aside0.mk hB;have YA:=Aside0.mk hb;have GA:=Aside0.mk hgb;clear hb hB hgb)
   | ((with_reducible refine gate_ (.store 23 (.tmp 8) (.tmp 45)) rfl ?_);refine storeAll_ 23 (.tmp 8) (.tmp 45) rfl rfl rfl gb ?hp (cellL y1 y2 y3 y4) ?hx2 (by kernel_rfl) (cellL_one _ _ _ _) _ _ YA.out rfl ?_;(case hp=>first | rfl | (go_simp;done) | (go_simp;rfl));(case hx2=>first | rfl | (go_simp;done) | (go_simp;rfl));intro w14 hb hg;have E2:=Aside0.mk (E.out.add GA.out BA.out hb hg);clear E BA YA GA hb hg;have E:=E2;clear E2)
   | ((with_reducible refine gate_dst (N:=47) rfl ?_);refine loadVar_ 23 (.tmp 6) rfl rfl ga ?hx (cellL x1 x2 x3 x4) _ Tryd.underlying23 (by kernel_rfl) _ (E.out.hB (ga,cellL x1 x2 x3 x4) (by simp)).1 ?_;(case hx=>first | rfl | (go_simp;done) | (go_simp;rfl)))
   | ((with_reducible refine gate_ (.store 23 (.tmp 48) (.tmp 47)) rfl ?_);refine store_ 23 (.tmp 48) (.tmp 47) rfl rfl rfl gt 2 ?hp (.agg (cellL x1 x2 x3 x4).toArray) ?hx2 (cellL x1 x2 x3 x4) rfl (by kernel_rfl) (cellL_one _ _ _ _) _ _ E.out.hT (Nat.le_of_ble_eq_true rfl) ?_;(case hp=>first | rfl | (go_simp;done) | (go_simp;rfl));(case hx2=>first | rfl | (go_simp;done) | (go_simp;rfl));intro w15 hb hg;have E2:=Aside0.mk (show TS w gr gt zeroL (testL 1 false (cellL x1 x2 x3 x4) (cellL 0 0 0 0)) [(gb,cellL y1 y2 y3 y4),(ga,cellL x1 x2 x3 x4)] w15 from E.out.storeT hb hg);clear E hb hg;have E:=E2;clear E2)
   | ((with_reducible refine gate_dst (N:=49) rfl ?_);refine loadVar_ 23 (.tmp 8) rfl rfl gb ?hx (cellL y1 y2 y3 y4) _ Tryd.underlying23 (by kernel_rfl) _ (E.out.hB (gb,cellL y1 y2 y3 y4) (by simp)).1 ?_;(case hx=>first | rfl | (go_simp;done) | (go_simp;rfl)))
   | ((with_reducible refine gate_ (.store 23 (.tmp 50) (.tmp 49)) rfl ?_);refine store_ 23 (.tmp 50) (.tmp 49) rfl rfl rfl gt 6 ?hp (.agg (cellL y1 y2 y3 y4).toArray) ?hx2 (cellL y1 y2 y3 y4) rfl (by kernel_rfl) (cellL_one _ _ _ _) _ _ E.out.hT (Nat.le_of_ble_eq_true rfl) ?_;(case hp=>first | rfl | (go_simp;done) | (go_simp;rfl));(case hx2=>first | rfl | (go_simp;done) | (go_simp;rfl));intro w16 hb hg;have E2:=Aside0.mk (show TS w gr gt zeroL (testL 1 false (cellL x1 x2 x3 x4) (cellL y1 y2 y3 y4)) [(gb,cellL y1 y2 y3 y4),(ga,cellL x1 x2 x3 x4)] w16 from E.out.storeT hb hg);clear E hb hg;have E:=E2;clear E2)
   | ((with_reducible refine gate_ (.store 29 (.tmp 2) (.tmp 57)) rfl ?_);refine storeAll_ 29 (.tmp 2) (.tmp 57) rfl rfl rfl gr ?hp zeroL ?hx2 (by kernel_rfl) (fun q hq=>testL_one 0 false 0 0 0 0 0 0 0 0 q hq) _ _ E.out.hR rfl ?_;(case hp=>first | rfl | (go_simp;done) | (go_simp;rfl));(case hx2=>first | rfl | (go_simp;done) | (go_simp;rfl));intro w17 hb hg;have E2:=Aside0.mk (E.out.storeR hb hg);clear E hb hg;have E:=E2;clear E2)
   | ((with_reducible refine gate_dst (N:=58) rfl ?_);refine loadVar_ 29 (.tmp 4) rfl rfl gt ?hx (testL 1 false (cellL x1 x2 x3 x4) (cellL y1 y2 y3 y4)) _ Tryd.underlying29 (by kernel_rfl) _ E.out.hT ?_;(case hx=>first | rfl | (go_simp;done) | (go_simp;rfl)))
   | ((with_reducible refine gate_ (.store 29 (.tmp 2) (.tmp 58)) rfl ?_);refine storeAll_ 29 (.tmp 2) (.tmp 58) rfl rfl rfl gr ?hp (testL 1 false (cellL x1 x2 x3 x4) (cellL y1 y2 y3 y4)) ?hx2 (by kernel_rfl) (testL_one _ _ _ _ _ _ _ _ _ _) _ _ E.out.hR rfl ?_;(case hp=>first | rfl | (go_simp;done) | (go_simp;rfl));(case hx2=>first | rfl | (go_simp;done) | (go_simp;rfl));intro w18 hb hg;have E2:=Aside0.mk (E.out.storeR hb hg);clear E hb hg;have E:=E2;clear E2))
  first
   | exact bodyPost_ret (results_ct rfl _ _ gr 29 zeroL.toArray (0,0) _ rfl E.out.hR Tryd.underlying29 rfl (by kernel_rfl)) rfl ⟨rfl,E.out.bel⟩
   | exact bodyPost_ret (results_ct rfl _ _ gr 29 (testL 1 false (cellL x1 x2 x3 x4) (cellL y1 y2 y3 y4)).toArray (0,0) _ rfl E.out.hR Tryd.underlying29 rfl (by kernel_rfl)) rfl ⟨rfl,E.out.bel⟩)
set_option maxHeartbeats 8000000 in
set_option maxRecDepth 100000 in
theorem spec_nil_2bad (k:Nat) (a0:ByteArray) (w:World) (h0 : ¬ (a0.size:Int) > 0) (j:Int) (j1:Int) (hf1:spec_l12Find.f k a0 60=some j1) (hj1:j1 < 0) (hf2:spec_l12Find.f k a0 61=some j) (hj:j < 0):Calls Tryd.prog 8 #[.string a0] w fun e w'=>e=.returned (.tuple #[.agg zeroL.toArray,.bool false])∧Below w.heap.size w w':=by
 have p0:decide (0 < (a0.size:Int))=false:=decide_eq_false h0
 have p1:decide (0 < a0.size)=false:=decide_eq_false (by omega)
 clear h0
 have hx0 : ∀ h:0 < a0.size,((a0[0]).toNat:Int)=bt a0 0:=fun h=>bt_at a0 0 h
 have q1:=eq_true hj1
 clear hj1
 have q2:=eq_true hj
 clear hj
 have HF1:=Aside0.mk hf1
 clear hf1
 have HF2:=Aside0.mk hf2
 clear hf2
 go_enter Tryd.func8,Tryd.ntmps8
 go_wp2_with (first
  | ((with_reducible refine gate_dst (N:=2) rfl ?_);refine alloc_ 29 rfl rfl zeroL _ _ info29_ ?_;intro gr hgr w1 hb hB;have HR1:=Aside0.mk hb;have BR1:=Aside0.mk hB;have GR1:=Aside0.mk (show w.heap.size≤gr from Nat.le_of_eq hgr.symm);clear hb hB hgr)
  | ((with_reducible refine gate_dst (N:=4) rfl ?_);refine alloc_ 29 rfl rfl zeroL _ _ info29_ ?_;intro gt hgt w2 hb hB;have E:=Aside0.mk (show TS w gr gt zeroL zeroL [] w2 from ⟨(hB.block gr (blk_lt HR1.out)).trans HR1.out,hb,(fun p hp=>by cases hp),below_step BR1.out hB,GR1.out,Nat.le_trans (below_size BR1.out) (Nat.le_of_eq hgt.symm),(by rw [hgt];exact Nat.ne_of_lt (blk_lt HR1.out))⟩);clear hb hB hgt HR1 BR1 GR1)
  | ((with_reducible refine gate_ (.store 29 (.tmp 4) (.tmp 10)) rfl ?_);refine storeAll_ 29 (.tmp 4) (.tmp 10) rfl rfl rfl gt ?hp (testL 1 false (cellL 0 0 0 0) (cellL 0 0 0 0)) ?hx2 (by kernel_rfl) (testL_one _ _ _ _ _ _ _ _ _ _) _ _ E.out.hT rfl ?_;(case hp=>first | rfl | (go_simp;done) | (go_simp;rfl));(case hx2=>first | rfl | (go_simp;done) | (go_simp;rfl));intro w3 hb hg;have E2:=Aside0.mk (E.out.storeT hb hg);clear E hb hg;have E:=E2;clear E2)
  | ((with_reducible refine gate_ (.store 4 (.tmp 19) (.const (.bool true))) rfl ?_);refine store_ 4 (.tmp 19) (.const (.bool true)) rfl rfl rfl gt 1 ?hp (.bool true) rfl [.bool true] rfl (by kernel_rfl) (by intro q hq;simp at hq;rw [hq];rfl) _ _ E.out.hT (Nat.le_of_ble_eq_true rfl) ?_;(case hp=>first | rfl | (go_simp;done) | (go_simp;rfl));intro w4 hb hg;have E2:=Aside0.mk (show TS w gr gt zeroL (testL 1 true (cellL 0 0 0 0) (cellL 0 0 0 0)) [] w4 from E.out.storeT hb hg);clear E hb hg;have E:=E2;clear E2)
  | (go_at_call 13;refine (spec_l12Find.calls k _ 60 _ _ HF1.out).mono ?_;rintro e w5 ⟨rfl,hB⟩;have E2:=Aside0.mk (E.out.call hB.below);clear E HF1 hB;have E:=E2;clear E2)
  | ((with_reducible refine gate_ (.store 3 (.tmp 26) (.const (.int .i64 2))) rfl ?_);refine store_ 3 (.tmp 26) (.const (.int .i64 2)) rfl rfl rfl gt 0 ?hp (.int .i64 2) rfl [.int .i64 2] rfl (by kernel_rfl) (by intro q hq;simp at hq;rw [hq];rfl) _ _ E.out.hT (Nat.le_of_ble_eq_true rfl) ?_;(case hp=>first | rfl | (go_simp;done) | (go_simp;rfl));intro w6 hb hg;have E2:=Aside0.mk (show TS w gr gt zeroL (testL 2 false (cellL 0 0 0 0) (cellL 0 0 0 0)) [] w6 from E.out.storeT hb hg);clear E hb hg;have E:=E2;clear E2)
  | (go_at_call 13;refine (spec_l12Find.calls k _ 61 _ _ HF2.out).mono ?_;rintro e w7 ⟨rfl,hB⟩;have E2:=Aside0.mk (E.out.call hB.below);clear E HF2 hB;have E:=E2;clear E2)
  | ((with_reducible refine gate_ (.store 29 (.tmp 2) (.tmp 31)) rfl ?_);refine storeAll_ 29 (.tmp 2) (.tmp 31) rfl rfl rfl gr ?hp zeroL ?hx2 (by kernel_rfl) (fun q hq=>testL_one 0 false 0 0 0 0 0 0 0 0 q hq) _ _ E.out.hR rfl ?_;(case hp=>first | rfl | (go_simp;done) | (go_simp;rfl));(case hx2=>first | rfl | (go_simp;done) | (go_simp;rfl));intro w8 hb hg;have E2:=Aside0.mk (E.out.storeR hb hg);clear E hb hg;have E:=E2;clear E2)
  | (go_at_call 5;refine (spec_CellRead.calls k _ x1 x2 x3 x4 _ _ HC1.out).mono ?_;rintro e w9 ⟨rfl,hB⟩;have E2:=Aside0.mk (E.out.call hB);clear E HC1 hB;have E:=E2;clear E2)
  | ((with_reducible refine gate_dst (N:=6) rfl ?_);refine alloc_ 23 rfl rfl (cellL 0 0 0 0) _ _ info23_ ?_;intro ga hga w10 hb hB;have BA:=Aside0.mk hB;have YA:=Aside0.mk hb;have GA:=Aside0.mk hga;clear hb hB hga)
  | ((with_reducible refine gate_ (.store 23 (.tmp 6) (.tmp 37)) rfl ?_);refine storeAll_ 23 (.tmp 6) (.tmp 37) rfl rfl rfl ga ?hp (cellL x1 x2 x3 x4) ?hx2 (by kernel_rfl) (cellL_one _ _ _ _) _ _ YA.out rfl ?_;(case hp=>first | rfl | (go_simp;done) | (go_simp;rfl));(case hx2=>first | rfl | (go_simp;done) | (go_simp;rfl));intro w11 hb hg;have E2:=Aside0.mk (E.out.add GA.out BA.out hb hg);clear E BA YA GA hb hg;have E:=E2;clear E2)
  | (go_at_call 5;refine (spec_CellRead.calls k _ y1 y2 y3 y4 _ _ HC2.out).mono ?_;rintro e w12 ⟨rfl,hB⟩;have E2:=Aside0.mk (E.out.call hB);clear E HC2 hB;have E:=E2;clear E2)
  | ((with_reducible refine gate_dst (N:=8) rfl ?_);refine alloc_ 23 rfl rfl (cellL 0 0 0 0) _ _ info23_ ?_;intro gb hgb w13 hb hB;have BA:=Aside0.mk hB;have YA:=Aside0.mk hb;have GA:=Aside0.mk hgb;clear hb hB hgb)
  | ((with_reducible refine gate_ (.store 23 (.tmp 8) (.tmp 45)) rfl ?_);refine storeAll_ 23 (.tmp 8) (.tmp 45) rfl rfl rfl gb ?hp (cellL y1 y2 y3 y4) ?hx2 (by kernel_rfl) (cellL_one _ _ _ _) _ _ YA.out rfl ?_;(case hp=>first | rfl | (go_simp;done) | (go_simp;rfl));(case hx2=>first | rfl | (go_simp;done) | (go_simp;rfl));intro w14 hb hg;have E2:=Aside0.mk (E.out.add GA.out BA.out hb hg);clear E BA YA GA hb hg;have E:=E2;clear E2)
  | ((with_reducible refine gate_dst (N:=47) rfl ?_);refine loadVar_ 23 (.tmp 6) rfl rfl ga ?hx (cellL x1 x2 x3 x4) _ Tryd.underlying23 (by kernel_rfl) _ (E.out.hB (ga,cellL x1 x2 x3 x4) (by simp)).1 ?_;(case hx=>first | rfl | (go_simp;done) | (go_simp;rfl)))
  | ((with_reducible refine gate_ (.store 23 (.tmp 48) (.tmp 47)) rfl ?_);refine store_ 23 (.tmp 48) (.tmp 47) rfl rfl rfl gt 2 ?hp (.agg (cellL x1 x2 x3 x4).toArray) ?hx2 (cellL x1 x2 x3 x4) rfl (by kernel_rfl) (cellL_one _ _ _ _) _ _ E.out.hT (Nat.le_of_ble_eq_true rfl) ?_;(case hp=>first | rfl | (go_simp;done) | (go_simp;rfl));(case hx2=>first | rfl | (go_simp;done) | (go_simp;rfl));intro w15 hb hg;have E2:=Aside0.mk (show TS w gr gt zeroL (testL 2 false (cellL x1 x2 x3 x4) (cellL 0 0 0 0)) [(gb,cellL y1 y2 y3 y4),(ga,cellL x1 x2 x3 x4)] w15 from E.out.storeT hb hg);clear E hb hg;have E:=E2;clear E2)
  | ((with_reducible refine gate_dst (N:=49) rfl ?_);refine loadVar_ 23 (.tmp 8) rfl rfl gb ?hx (cellL y1 y2 y3 y4) _ Tryd.underlying23 (by kernel_rfl) _ (E.out.hB (gb,cellL y1 y2 y3 y4) (by simp)).1 ?_;(case hx=>first | rfl | (go_simp;done) | (go_simp;rfl)))
  | ((with_reducible refine gate_ (.store 23 (.tmp 50) (.tmp 49)) rfl ?_);refine store_ 23 (.tmp 50) (.tmp 49) rfl rfl rfl gt 6 ?hp (.agg (cellL y1 y2 y3 y4).toArray) ?hx2 (cellL y1 y2 y3 y4) rfl (by kernel_rfl) (cellL_one _ _ _ _) _ _ E.out.hT (Nat.le_of_ble_eq_true rfl) ?_;(case hp=>first | rfl | (go_simp;done) | (go_simp;rfl));(case hx2=>first | rfl | (go_simp;done) | (go_simp;rfl));intro w16 hb hg;have E2:=Aside0.mk (show TS w gr gt zeroL (testL 2 false (cellL x1 x2 x3 x4) (cellL y1 y2 y3 y4)) [(gb,cellL y1 y2 y3 y4),(ga,cellL x1 x2 x3 x4)] w16 from E.out.storeT hb hg);clear E hb hg;have E:=E2;clear E2)
  | ((with_reducible refine gate_ (.store 29 (.tmp 2) (.tmp 57)) rfl ?_);refine storeAll_ 29 (.tmp 2) (.tmp 57) rfl rfl rfl gr ?hp zeroL ?hx2 (by kernel_rfl) (fun q hq=>testL_one 0 false 0 0 0 0 0 0 0 0 q hq) _ _ E.out.hR rfl ?_;(case hp=>first | rfl | (go_simp;done) | (go_simp;rfl));(case hx2=>first | rfl | (go_simp;done) | (go_simp;rfl));intro w17 hb hg;have E2:=Aside0.mk (E.out.storeR hb hg);clear E hb hg;have E:=E2;clear E2)
  | ((with_reducible refine gate_dst (N:=58) rfl ?_);refine loadVar_ 29 (.tmp 4) rfl rfl gt ?hx (testL 2 false (cellL x1 x2 x3 x4) (cellL y1 y2 y3 y4)) _ Tryd.underlying29 (by kernel_rfl) _ E.out.hT ?_;(case hx=>first | rfl | (go_simp;done) | (go_simp;rfl)))
  | ((with_reducible refine gate_ (.store 29 (.tmp 2) (.tmp 58)) rfl ?_);refine storeAll_ 29 (.tmp 2) (.tmp 58) rfl rfl rfl gr ?hp (testL 2 false (cellL x1 x2 x3 x4) (cellL y1 y2 y3 y4)) ?hx2 (by kernel_rfl) (testL_one _ _ _ _ _ _ _ _ _ _) _ _ E.out.hR rfl ?_;(case hp=>first | rfl | (go_simp;done) | (go_simp;rfl));(case hx2=>first | rfl | (go_simp;done) | (go_simp;rfl));intro w18 hb hg;have E2:=Aside0.mk (E.out.storeR hb hg);clear E hb hg;have E:=E2;clear E2))
 refine bodyPost_ret (results_ct rfl _ _ gr 29 zeroL.toArray (0,0) _ rfl E.out.hR Tryd.underlying29 rfl (by kernel_rfl)) rfl ⟨rfl,E.out.bel⟩
set_option maxHeartbeats 8000000 in
set_option maxRecDepth 100000 in
theorem spec_nil_2ok (k:Nat) (a0:ByteArray) (w:World) (h0 : ¬ (a0.size:Int) > 0) (j:Int) (j1:Int) (hf1:spec_l12Find.f k a0 60=some j1) (hj1:j1 < 0) (hf2:spec_l12Find.f k a0 61=some j) (hj : ¬ j < 0) (hlt:j < (a0.size:Int)) (hbig:j < 4611686018427387904) (x1 x2 x3 x4 y1 y2 y3 y4:Int) (x5 y5:Bool) (hc1:spec_CellRead.f k (a0.extract 0 j.toNat)=some (x1,x2,x3,x4,x5)) (hc2:spec_CellRead.f k (a0.extract (j + 1).toNat a0.size)=some (y1,y2,y3,y4,y5)):Calls Tryd.prog 8 #[.string a0] w fun e w'=>e=.returned (if (x5 && y5)=true then .tuple #[.agg (testL 2 false (cellL x1 x2 x3 x4) (cellL y1 y2 y3 y4)).toArray,.bool true] else .tuple #[.agg zeroL.toArray,.bool false])∧Below w.heap.size w w':=by
 have p0:decide (0 < (a0.size:Int))=false:=decide_eq_false h0
 have p1:decide (0 < a0.size)=false:=decide_eq_false (by omega)
 clear h0
 have hx0 : ∀ h:0 < a0.size,((a0[0]).toNat:Int)=bt a0 0:=fun h=>bt_at a0 0 h
 have q1:=eq_true hj1
 clear hj1
 have HF1:=Aside0.mk hf1
 clear hf1
 have HF2:=Aside0.mk hf2
 clear hf2
 have HC1:=Aside0.mk hc1
 have HC2:=Aside0.mk hc2
 clear hc1 hc2
 have j0p:(0:Int)≤j:=by omega
 have j0:=eq_true j0p
 have j00:decide ((0:Int)≤j)=true:=decide_eq_true j0p
 have q2:=eq_false hj
 have j2p:j≤(a0.size:Int):=by omega
 have j2:=eq_true j2p
 have hw:wrap64 (j + 1)=j + 1:=by unfold wrap64;omega
 have hwk:IntKind.i64.wrap (j + 1)=j + 1:=(i64_w _).trans hw
 have j3:=eq_true (show (0:Int)≤j + 1 by omega)
 have j4:=eq_true (show j + 1≤(a0.size:Int) by omega)
 clear j0p j2p hj hlt hbig
 cases x5 <;> cases y5 <;> (
  go_enter Tryd.func8,Tryd.ntmps8
  go_wp2_with (first
   | ((with_reducible refine gate_dst (N:=2) rfl ?_);refine alloc_ 29 rfl rfl zeroL _ _ info29_ ?_;intro gr hgr w1 hb hB;have HR1:=Aside0.mk hb;have BR1:=Aside0.mk hB;have GR1:=Aside0.mk (show w.heap.size≤gr from Nat.le_of_eq hgr.symm);clear hb hB hgr)
   | ((with_reducible refine gate_dst (N:=4) rfl ?_);refine alloc_ 29 rfl rfl zeroL _ _ info29_ ?_;intro gt hgt w2 hb hB;have E:=Aside0.mk (show TS w gr gt zeroL zeroL [] w2 from ⟨(hB.block gr (blk_lt HR1.out)).trans HR1.out,hb,(fun p hp=>by cases hp),below_step BR1.out hB,GR1.out,Nat.le_trans (below_size BR1.out) (Nat.le_of_eq hgt.symm),(by rw [hgt];exact Nat.ne_of_lt (blk_lt HR1.out))⟩);clear hb hB hgt HR1 BR1 GR1)
   | ((with_reducible refine gate_ (.store 29 (.tmp 4) (.tmp 10)) rfl ?_);refine storeAll_ 29 (.tmp 4) (.tmp 10) rfl rfl rfl gt ?hp (testL 1 false (cellL 0 0 0 0) (cellL 0 0 0 0)) ?hx2 (by kernel_rfl) (testL_one _ _ _ _ _ _ _ _ _ _) _ _ E.out.hT rfl ?_;(case hp=>first | rfl | (go_simp;done) | (go_simp;rfl));(case hx2=>first | rfl | (go_simp;done) | (go_simp;rfl));intro w3 hb hg;have E2:=Aside0.mk (E.out.storeT hb hg);clear E hb hg;have E:=E2;clear E2)
   | ((with_reducible refine gate_ (.store 4 (.tmp 19) (.const (.bool true))) rfl ?_);refine store_ 4 (.tmp 19) (.const (.bool true)) rfl rfl rfl gt 1 ?hp (.bool true) rfl [.bool true] rfl (by kernel_rfl) (by intro q hq;simp at hq;rw [hq];rfl) _ _ E.out.hT (Nat.le_of_ble_eq_true rfl) ?_;(case hp=>first | rfl | (go_simp;done) | (go_simp;rfl));intro w4 hb hg;have E2:=Aside0.mk (show TS w gr gt zeroL (testL 1 true (cellL 0 0 0 0) (cellL 0 0 0 0)) [] w4 from E.out.storeT hb hg);clear E hb hg;have E:=E2;clear E2)
   | (go_at_call 13;refine (spec_l12Find.calls k _ 60 _ _ HF1.out).mono ?_;rintro e w5 ⟨rfl,hB⟩;have E2:=Aside0.mk (E.out.call hB.below);clear E HF1 hB;have E:=E2;clear E2)
   | ((with_reducible refine gate_ (.store 3 (.tmp 26) (.const (.int .i64 2))) rfl ?_);refine store_ 3 (.tmp 26) (.const (.int .i64 2)) rfl rfl rfl gt 0 ?hp (.int .i64 2) rfl [.int .i64 2] rfl (by kernel_rfl) (by intro q hq;simp at hq;rw [hq];rfl) _ _ E.out.hT (Nat.le_of_ble_eq_true rfl) ?_;(case hp=>first | rfl | (go_simp;done) | (go_simp;rfl));intro w6 hb hg;have E2:=Aside0.mk (show TS w gr gt zeroL (testL 2 false (cellL 0 0 0 0) (cellL 0 0 0 0)) [] w6 from E.out.storeT hb hg);clear E hb hg;have E:=E2;clear E2)
   | (go_at_call 13;refine (spec_l12Find.calls k _ 61 _ _ HF2.out).mono ?_;rintro e w7 ⟨rfl,hB⟩;have E2:=Aside0.mk (E.out.call hB.below);clear E HF2 hB;have E:=E2;clear E2)
   | ((with_reducible refine gate_ (.store 29 (.tmp 2) (.tmp 31)) rfl ?_);refine storeAll_ 29 (.tmp 2) (.tmp 31) rfl rfl rfl gr ?hp zeroL ?hx2 (by kernel_rfl) (fun q hq=>testL_one 0 false 0 0 0 0 0 0 0 0 q hq) _ _ E.out.hR rfl ?_;(case hp=>first | rfl | (go_simp;done) | (go_simp;rfl));(case hx2=>first | rfl | (go_simp;done) | (go_simp;rfl));intro w8 hb hg;have E2:=Aside0.mk (E.out.storeR hb hg);clear E hb hg;have E:=E2;clear E2)
   | (go_at_call 5;refine (spec_CellRead.calls k _ x1 x2 x3 x4 _ _ HC1.out).mono ?_;rintro e w9 ⟨rfl,hB⟩;have E2:=Aside0.mk (E.out.call hB);clear E HC1 hB;have E:=E2;clear E2)
   | ((with_reducible refine gate_dst (N:=6) rfl ?_);refine alloc_ 23 rfl rfl (cellL 0 0 0 0) _ _ info23_ ?_;intro ga hga w10 hb hB;have BA:=Aside0.mk hB;have YA:=Aside0.mk hb;have GA:=Aside0.mk hga;clear hb hB hga)
   | ((with_reducible refine gate_ (.store 23 (.tmp 6) (.tmp 37)) rfl ?_);refine storeAll_ 23 (.tmp 6) (.tmp 37) rfl rfl rfl ga ?hp (cellL x1 x2 x3 x4) ?hx2 (by kernel_rfl) (cellL_one _ _ _ _) _ _ YA.out rfl ?_;(case hp=>first | rfl | (go_simp;done) | (go_simp;rfl));(case hx2=>first | rfl | (go_simp;done) | (go_simp;rfl));intro w11 hb hg;have E2:=Aside0.mk (E.out.add GA.out BA.out hb hg);clear E BA YA GA hb hg;have E:=E2;clear E2)
   | (go_at_call 5;refine (spec_CellRead.calls k _ y1 y2 y3 y4 _ _ HC2.out).mono ?_;rintro e w12 ⟨rfl,hB⟩;have E2:=Aside0.mk (E.out.call hB);clear E HC2 hB;have E:=E2;clear E2)
   | ((with_reducible refine gate_dst (N:=8) rfl ?_);refine alloc_ 23 rfl rfl (cellL 0 0 0 0) _ _ info23_ ?_;intro gb hgb w13 hb hB;have BA:=Aside0.mk hB;have YA:=Aside0.mk hb;have GA:=Aside0.mk hgb;clear hb hB hgb)
   | ((with_reducible refine gate_ (.store 23 (.tmp 8) (.tmp 45)) rfl ?_);refine storeAll_ 23 (.tmp 8) (.tmp 45) rfl rfl rfl gb ?hp (cellL y1 y2 y3 y4) ?hx2 (by kernel_rfl) (cellL_one _ _ _ _) _ _ YA.out rfl ?_;(case hp=>first | rfl | (go_simp;done) | (go_simp;rfl));(case hx2=>first | rfl | (go_simp;done) | (go_simp;rfl));intro w14 hb hg;have E2:=Aside0.mk (E.out.add GA.out BA.out hb hg);clear E BA YA GA hb hg;have E:=E2;clear E2)
   | ((with_reducible refine gate_dst (N:=47) rfl ?_);refine loadVar_ 23 (.tmp 6) rfl rfl ga ?hx (cellL x1 x2 x3 x4) _ Tryd.underlying23 (by kernel_rfl) _ (E.out.hB (ga,cellL x1 x2 x3 x4) (by simp)).1 ?_;(case hx=>first | rfl | (go_simp;done) | (go_simp;rfl)))
   | ((with_reducible refine gate_ (.store 23 (.tmp 48) (.tmp 47)) rfl ?_);refine store_ 23 (.tmp 48) (.tmp 47) rfl rfl rfl gt 2 ?hp (.agg (cellL x1 x2 x3 x4).toArray) ?hx2 (cellL x1 x2 x3 x4) rfl (by kernel_rfl) (cellL_one _ _ _ _) _ _ E.out.hT (Nat.le_of_ble_eq_true rfl) ?_;(case hp=>first | rfl | (go_simp;done) | (go_simp;rfl));(case hx2=>first | rfl | (go_simp;done) | (go_simp;rfl));intro w15 hb hg;have E2:=Aside0.mk (show TS w gr gt zeroL (testL 2 false (cellL x1 x2 x3 x4) (cellL 0 0 0 0)) [(gb,cellL y1 y2 y3 y4),(ga,cellL x1 x2 x3 x4)] w15 from E.out.storeT hb hg);clear E hb hg;have E:=E2;clear E2)
   | ((with_reducible refine gate_dst (N:=49) rfl ?_);refine loadVar_ 23 (.tmp 8) rfl rfl gb ?hx (cellL y1 y2 y3 y4) _ Tryd.underlying23 (by kernel_rfl) _ (E.out.hB (gb,cellL y1 y2 y3 y4) (by simp)).1 ?_;(case hx=>first | rfl | (go_simp;done) | (go_simp;rfl)))
   | ((with_reducible refine gate_ (.store 23 (.tmp 50) (.tmp 49)) rfl ?_);refine store_ 23 (.tmp 50) (.tmp 49) rfl rfl rfl gt 6 ?hp (.agg (cellL y1 y2 y3 y4).toArray) ?hx2 (cellL y1 y2 y3 y4) rfl (by kernel_rfl) (cellL_one _ _ _ _) _ _ E.out.hT (Nat.le_of_ble_eq_true rfl) ?_;(case hp=>first | rfl | (go_simp;done) | (go_simp;rfl));(case hx2=>first | rfl | (go_simp;done) | (go_simp;rfl));intro w16 hb hg;have E2:=Aside0.mk (show TS w gr gt zeroL (testL 2 false (cellL x1 x2 x3 x4) (cellL y1 y2 y3 y4)) [(gb,cellL y1 y2 y3 y4),(ga,cellL x1 x2 x3 x4)] w16 from E.out.storeT hb hg);clear E hb hg;have E:=E2;clear E2)
   | ((with_reducible refine gate_ (.store 29 (.tmp 2) (.tmp 57)) rfl ?_);refine storeAll_ 29 (.tmp 2) (.tmp 57) rfl rfl rfl gr ?hp zeroL ?hx2 (by kernel_rfl) (fun q hq=>testL_one 0 false 0 0 0 0 0 0 0 0 q hq) _ _ E.out.hR rfl ?_;(case hp=>first | rfl | (go_simp;done) | (go_simp;rfl));(case hx2=>first | rfl | (go_simp;done) | (go_simp;rfl));intro w17 hb hg;have E2:=Aside0.mk (E.out.storeR hb hg);clear E hb hg;have E:=E2;clear E2)
   | ((with_reducible refine gate_dst (N:=58) rfl ?_);refine loadVar_ 29 (.tmp 4) rfl rfl gt ?hx (testL 2 false (cellL x1 x2 x3 x4) (cellL y1 y2 y3 y4)) _ Tryd.underlying29 (by kernel_rfl) _ E.out.hT ?_;(case hx=>first | rfl | (go_simp;done) | (go_simp;rfl)))
   | ((with_reducible refine gate_ (.store 29 (.tmp 2) (.tmp 58)) rfl ?_);refine storeAll_ 29 (.tmp 2) (.tmp 58) rfl rfl rfl gr ?hp (testL 2 false (cellL x1 x2 x3 x4) (cellL y1 y2 y3 y4)) ?hx2 (by kernel_rfl) (testL_one _ _ _ _ _ _ _ _ _ _) _ _ E.out.hR rfl ?_;(case hp=>first | rfl | (go_simp;done) | (go_simp;rfl));(case hx2=>first | rfl | (go_simp;done) | (go_simp;rfl));intro w18 hb hg;have E2:=Aside0.mk (E.out.storeR hb hg);clear E hb hg;have E:=E2;clear E2))
  first
   | exact bodyPost_ret (results_ct rfl _ _ gr 29 zeroL.toArray (0,0) _ rfl E.out.hR Tryd.underlying29 rfl (by kernel_rfl)) rfl ⟨rfl,E.out.bel⟩
   | exact bodyPost_ret (results_ct rfl _ _ gr 29 (testL 2 false (cellL x1 x2 x3 x4) (cellL y1 y2 y3 y4)).toArray (0,0) _ rfl E.out.hR Tryd.underlying29 rfl (by kernel_rfl)) rfl ⟨rfl,E.out.bel⟩)

def spec_TestRead.r (k:Nat) (t:ByteArray) (n:Bool) (kind j:Int):Option (Int × Bool × Int × Int × Int × Int × Int × Int × Int × Int × Bool) :=
 if j < 0 then some (0,false,0,0,0,0,0,0,0,0,false) else if j < (t.size:Int) then (if j < 4611686018427387904 then (spec_CellRead.f k (t.extract 0 j.toNat)).bind fun x=>(spec_CellRead.f k (t.extract (j + 1).toNat t.size)).bind fun y =>
  if (x.2.2.2.2 && y.2.2.2.2)=true then some (kind,n,x.1,x.2.1,x.2.2.1,x.2.2.2.1,y.1,y.2.1,y.2.2.1,y.2.2.2.1,true) else some (0,false,0,0,0,0,0,0,0,0,false) else none) else none
def spec_TestRead.g (k:Nat) (t:ByteArray) (n:Bool):Option (Int × Bool × Int × Int × Int × Int × Int × Int × Int × Int × Bool):=(spec_l12Find.f k t 60).bind fun j1=>if j1 < 0 then (spec_l12Find.f k t 61).bind fun j2=>spec_TestRead.r k t n 2 j2 else spec_TestRead.r k t n 1 j1
def spec_TestRead.f (k:Nat) (a0:ByteArray):Option (Int × Bool × Int × Int × Int × Int × Int × Int × Int × Int × Bool):=if (a0.size:Int) > 0 then (if bt a0 0=33 then spec_TestRead.g k (a0.extract 1 a0.size) true else spec_TestRead.g k a0 false) else spec_TestRead.g k a0 false
theorem spec_TestRead.mono (k:Nat) (a0:ByteArray):LeO (spec_TestRead.f k a0) (spec_TestRead.f (k + 1) a0):=by
 unfold spec_TestRead.f spec_TestRead.g spec_TestRead.r
 repeat' first
  | (with_reducible exact spec_l12Find.mono _ _ _)
  | (with_reducible exact spec_CellRead.mono _ _)
  | (with_reducible exact LeO.refl _)
  | (with_reducible exact LeO.none _)
  | (with_reducible refine LeO.ite ?_ ?_)
  | (with_reducible refine LeO.bind ?_ (fun _=>?_))
theorem at_neg (k:Nat) (a0:ByteArray) (r1:Int) (r2:Bool) (r3:Int) (r4:Int) (r5:Int) (r6:Int) (r7:Int) (r8:Int) (r9:Int) (r10:Int) (r11:Bool) (w:World) (h0:(a0.size:Int) > 0) (h33:bt a0 0=33) (T:ByteArray) (hT:a0.extract 1 a0.size=T) (h:spec_TestRead.g k T true=some (r1,r2,r3,r4,r5,r6,r7,r8,r9,r10,r11)) :
  Calls Tryd.prog 8 #[.string a0] w fun e w'=>e=.returned (.tuple #[.agg #[.int .i64 r1,.bool r2,.int .i64 r3,.int .i64 r4,.int .i64 r5,.int .i64 r6,.int .i64 r7,.int .i64 r8,.int .i64 r9,.int .i64 r10],.bool r11])∧Below w.heap.size w w':=by
 unfold spec_TestRead.g at h
 obtain ⟨j1,hf1,h⟩:=Option.bind_eq_some_iff.1 h
 have two : ∀ (kind j:Int),spec_TestRead.r k T true kind j=some (r1,r2,r3,r4,r5,r6,r7,r8,r9,r10,r11)→(j < 0∧some ((0:Int),false,(0:Int),(0:Int),(0:Int),(0:Int),(0:Int),(0:Int),(0:Int),(0:Int),false)=some (r1,r2,r3,r4,r5,r6,r7,r8,r9,r10,r11))∨(¬ j < 0∧j < (T.size:Int)∧j < 4611686018427387904∧∃ x1 x2 x3 x4 x5 y1 y2 y3 y4 y5,spec_CellRead.f k (T.extract 0 j.toNat)=some (x1,x2,x3,x4,x5)∧spec_CellRead.f k (T.extract (j + 1).toNat T.size)=some (y1,y2,y3,y4,y5) ∧
   (if (x5 && y5)=true then some (kind,true,x1,x2,x3,x4,y1,y2,y3,y4,true) else some ((0:Int),false,(0:Int),(0:Int),(0:Int),(0:Int),(0:Int),(0:Int),(0:Int),(0:Int),false))=some (r1,r2,r3,r4,r5,r6,r7,r8,r9,r10,r11)):=by
  intro kind j hr
  unfold spec_TestRead.r at hr
  by_cases hj:j < 0
  ·rw [if_pos hj] at hr
   exact .inl ⟨hj,hr⟩
  rw [if_neg hj] at hr
  by_cases hl:j < (T.size:Int)
  case neg=>rw [if_neg hl] at hr;cases hr
  rw [if_pos hl] at hr
  by_cases hb:j < 4611686018427387904
  case neg=>rw [if_neg hb] at hr;cases hr
  rw [if_pos hb] at hr
  obtain ⟨⟨x1,x2,x3,x4,x5⟩,hc1,hr⟩:=Option.bind_eq_some_iff.1 hr
  obtain ⟨⟨y1,y2,y3,y4,y5⟩,hc2,hr⟩:=Option.bind_eq_some_iff.1 hr
  exact .inr ⟨hj,hl,hb,x1,x2,x3,x4,x5,y1,y2,y3,y4,y5,hc1,hc2,hr⟩
 by_cases hj1:j1 < 0
 ·rw [if_pos hj1] at h
  obtain ⟨j2,hf2,h⟩:=Option.bind_eq_some_iff.1 h
  rcases two 2 j2 h with ⟨hj,e⟩|⟨hj,hl,hb,x1,x2,x3,x4,x5,y1,y2,y3,y4,y5,hc1,hc2,e⟩
  ·simp only [Option.some.injEq,Prod.mk.injEq] at e
   obtain ⟨rfl,rfl,rfl,rfl,rfl,rfl,rfl,rfl,rfl,rfl,rfl⟩:=e
   exact spec_neg_2bad k a0 w h0 h33 T hT j2 j1 hf1 hj1 hf2 hj
  ·refine (spec_neg_2ok k a0 w h0 h33 T hT j2 j1 hf1 hj1 hf2 hj hl hb x1 x2 x3 x4 y1 y2 y3 y4 x5 y5 hc1 hc2).mono ?_
   rintro e' w' ⟨rfl,hB⟩
   refine ⟨?_,hB⟩
   by_cases hxy:(x5 && y5)=true
   ·rw [if_pos hxy] at e ⊢
    simp only [Option.some.injEq,Prod.mk.injEq] at e
    obtain ⟨rfl,rfl,rfl,rfl,rfl,rfl,rfl,rfl,rfl,rfl,rfl⟩:=e
    rfl
   ·rw [if_neg hxy] at e ⊢
    simp only [Option.some.injEq,Prod.mk.injEq] at e
    obtain ⟨rfl,rfl,rfl,rfl,rfl,rfl,rfl,rfl,rfl,rfl,rfl⟩:=e
    rfl
 ·rw [if_neg hj1] at h
  rcases two 1 j1 h with ⟨hj,_⟩|⟨hj,hl,hb,x1,x2,x3,x4,x5,y1,y2,y3,y4,y5,hc1,hc2,e⟩
  ·exact absurd hj hj1
  ·refine (spec_neg_1ok k a0 w h0 h33 T hT j1 hf1 hj hl hb x1 x2 x3 x4 y1 y2 y3 y4 x5 y5 hc1 hc2).mono ?_
   rintro e' w' ⟨rfl,hB⟩
   refine ⟨?_,hB⟩
   by_cases hxy:(x5 && y5)=true
   ·rw [if_pos hxy] at e ⊢
    simp only [Option.some.injEq,Prod.mk.injEq] at e
    obtain ⟨rfl,rfl,rfl,rfl,rfl,rfl,rfl,rfl,rfl,rfl,rfl⟩:=e
    rfl
   ·rw [if_neg hxy] at e ⊢
    simp only [Option.some.injEq,Prod.mk.injEq] at e
    obtain ⟨rfl,rfl,rfl,rfl,rfl,rfl,rfl,rfl,rfl,rfl,rfl⟩:=e
    rfl
theorem at_pos (k:Nat) (a0:ByteArray) (r1:Int) (r2:Bool) (r3:Int) (r4:Int) (r5:Int) (r6:Int) (r7:Int) (r8:Int) (r9:Int) (r10:Int) (r11:Bool) (w:World) (h0:(a0.size:Int) > 0) (h33 : ¬ bt a0 0=33) (h:spec_TestRead.g k a0 false=some (r1,r2,r3,r4,r5,r6,r7,r8,r9,r10,r11)) :
  Calls Tryd.prog 8 #[.string a0] w fun e w'=>e=.returned (.tuple #[.agg #[.int .i64 r1,.bool r2,.int .i64 r3,.int .i64 r4,.int .i64 r5,.int .i64 r6,.int .i64 r7,.int .i64 r8,.int .i64 r9,.int .i64 r10],.bool r11])∧Below w.heap.size w w':=by
 unfold spec_TestRead.g at h
 obtain ⟨j1,hf1,h⟩:=Option.bind_eq_some_iff.1 h
 have two : ∀ (kind j:Int),spec_TestRead.r k a0 false kind j=some (r1,r2,r3,r4,r5,r6,r7,r8,r9,r10,r11)→(j < 0∧some ((0:Int),false,(0:Int),(0:Int),(0:Int),(0:Int),(0:Int),(0:Int),(0:Int),(0:Int),false)=some (r1,r2,r3,r4,r5,r6,r7,r8,r9,r10,r11))∨(¬ j < 0∧j < (a0.size:Int)∧j < 4611686018427387904∧∃ x1 x2 x3 x4 x5 y1 y2 y3 y4 y5,spec_CellRead.f k (a0.extract 0 j.toNat)=some (x1,x2,x3,x4,x5)∧spec_CellRead.f k (a0.extract (j + 1).toNat a0.size)=some (y1,y2,y3,y4,y5) ∧
   (if (x5 && y5)=true then some (kind,false,x1,x2,x3,x4,y1,y2,y3,y4,true) else some ((0:Int),false,(0:Int),(0:Int),(0:Int),(0:Int),(0:Int),(0:Int),(0:Int),(0:Int),false))=some (r1,r2,r3,r4,r5,r6,r7,r8,r9,r10,r11)):=by
  intro kind j hr
  unfold spec_TestRead.r at hr
  by_cases hj:j < 0
  ·rw [if_pos hj] at hr
   exact .inl ⟨hj,hr⟩
  rw [if_neg hj] at hr
  by_cases hl:j < (a0.size:Int)
  case neg=>rw [if_neg hl] at hr;cases hr
  rw [if_pos hl] at hr
  by_cases hb:j < 4611686018427387904
  case neg=>rw [if_neg hb] at hr;cases hr
  rw [if_pos hb] at hr
  obtain ⟨⟨x1,x2,x3,x4,x5⟩,hc1,hr⟩:=Option.bind_eq_some_iff.1 hr
  obtain ⟨⟨y1,y2,y3,y4,y5⟩,hc2,hr⟩:=Option.bind_eq_some_iff.1 hr
  exact .inr ⟨hj,hl,hb,x1,x2,x3,x4,x5,y1,y2,y3,y4,y5,hc1,hc2,hr⟩
 by_cases hj1:j1 < 0
 ·rw [if_pos hj1] at h
  obtain ⟨j2,hf2,h⟩:=Option.bind_eq_some_iff.1 h
  rcases two 2 j2 h with ⟨hj,e⟩|⟨hj,hl,hb,x1,x2,x3,x4,x5,y1,y2,y3,y4,y5,hc1,hc2,e⟩
  ·simp only [Option.some.injEq,Prod.mk.injEq] at e
   obtain ⟨rfl,rfl,rfl,rfl,rfl,rfl,rfl,rfl,rfl,rfl,rfl⟩:=e
   exact spec_pos_2bad k a0 w h0 h33 j2 j1 hf1 hj1 hf2 hj
  ·refine (spec_pos_2ok k a0 w h0 h33 j2 j1 hf1 hj1 hf2 hj hl hb x1 x2 x3 x4 y1 y2 y3 y4 x5 y5 hc1 hc2).mono ?_
   rintro e' w' ⟨rfl,hB⟩
   refine ⟨?_,hB⟩
   by_cases hxy:(x5 && y5)=true
   ·rw [if_pos hxy] at e ⊢
    simp only [Option.some.injEq,Prod.mk.injEq] at e
    obtain ⟨rfl,rfl,rfl,rfl,rfl,rfl,rfl,rfl,rfl,rfl,rfl⟩:=e
    rfl
   ·rw [if_neg hxy] at e ⊢
    simp only [Option.some.injEq,Prod.mk.injEq] at e
    obtain ⟨rfl,rfl,rfl,rfl,rfl,rfl,rfl,rfl,rfl,rfl,rfl⟩:=e
    rfl
 ·rw [if_neg hj1] at h
  rcases two 1 j1 h with ⟨hj,_⟩|⟨hj,hl,hb,x1,x2,x3,x4,x5,y1,y2,y3,y4,y5,hc1,hc2,e⟩
  ·exact absurd hj hj1
  ·refine (spec_pos_1ok k a0 w h0 h33 j1 hf1 hj hl hb x1 x2 x3 x4 y1 y2 y3 y4 x5 y5 hc1 hc2).mono ?_
   rintro e' w' ⟨rfl,hB⟩
   refine ⟨?_,hB⟩
   by_cases hxy:(x5 && y5)=true
   ·rw [if_pos hxy] at e ⊢
    simp only [Option.some.injEq,Prod.mk.injEq] at e
    obtain ⟨rfl,rfl,rfl,rfl,rfl,rfl,rfl,rfl,rfl,rfl,rfl⟩:=e
    rfl
   ·rw [if_neg hxy] at e ⊢
    simp only [Option.some.injEq,Prod.mk.injEq] at e
    obtain ⟨rfl,rfl,rfl,rfl,rfl,rfl,rfl,rfl,rfl,rfl,rfl⟩:=e
    rfl
theorem at_nil (k:Nat) (a0:ByteArray) (r1:Int) (r2:Bool) (r3:Int) (r4:Int) (r5:Int) (r6:Int) (r7:Int) (r8:Int) (r9:Int) (r10:Int) (r11:Bool) (w:World) (h0 : ¬ (a0.size:Int) > 0) (h:spec_TestRead.g k a0 false=some (r1,r2,r3,r4,r5,r6,r7,r8,r9,r10,r11)) :
  Calls Tryd.prog 8 #[.string a0] w fun e w'=>e=.returned (.tuple #[.agg #[.int .i64 r1,.bool r2,.int .i64 r3,.int .i64 r4,.int .i64 r5,.int .i64 r6,.int .i64 r7,.int .i64 r8,.int .i64 r9,.int .i64 r10],.bool r11])∧Below w.heap.size w w':=by
 unfold spec_TestRead.g at h
 obtain ⟨j1,hf1,h⟩:=Option.bind_eq_some_iff.1 h
 have two : ∀ (kind j:Int),spec_TestRead.r k a0 false kind j=some (r1,r2,r3,r4,r5,r6,r7,r8,r9,r10,r11)→(j < 0∧some ((0:Int),false,(0:Int),(0:Int),(0:Int),(0:Int),(0:Int),(0:Int),(0:Int),(0:Int),false)=some (r1,r2,r3,r4,r5,r6,r7,r8,r9,r10,r11))∨(¬ j < 0∧j < (a0.size:Int)∧j < 4611686018427387904∧∃ x1 x2 x3 x4 x5 y1 y2 y3 y4 y5,spec_CellRead.f k (a0.extract 0 j.toNat)=some (x1,x2,x3,x4,x5)∧spec_CellRead.f k (a0.extract (j + 1).toNat a0.size)=some (y1,y2,y3,y4,y5) ∧
   (if (x5 && y5)=true then some (kind,false,x1,x2,x3,x4,y1,y2,y3,y4,true) else some ((0:Int),false,(0:Int),(0:Int),(0:Int),(0:Int),(0:Int),(0:Int),(0:Int),(0:Int),false))=some (r1,r2,r3,r4,r5,r6,r7,r8,r9,r10,r11)):=by
  intro kind j hr
  unfold spec_TestRead.r at hr
  by_cases hj:j < 0
  ·rw [if_pos hj] at hr
   exact .inl ⟨hj,hr⟩
  rw [if_neg hj] at hr
  by_cases hl:j < (a0.size:Int)
  case neg=>rw [if_neg hl] at hr;cases hr
  rw [if_pos hl] at hr
  by_cases hb:j < 4611686018427387904
  case neg=>rw [if_neg hb] at hr;cases hr
  rw [if_pos hb] at hr
  obtain ⟨⟨x1,x2,x3,x4,x5⟩,hc1,hr⟩:=Option.bind_eq_some_iff.1 hr
  obtain ⟨⟨y1,y2,y3,y4,y5⟩,hc2,hr⟩:=Option.bind_eq_some_iff.1 hr
  exact .inr ⟨hj,hl,hb,x1,x2,x3,x4,x5,y1,y2,y3,y4,y5,hc1,hc2,hr⟩
 by_cases hj1:j1 < 0
 ·rw [if_pos hj1] at h
  obtain ⟨j2,hf2,h⟩:=Option.bind_eq_some_iff.1 h
  rcases two 2 j2 h with ⟨hj,e⟩|⟨hj,hl,hb,x1,x2,x3,x4,x5,y1,y2,y3,y4,y5,hc1,hc2,e⟩
  ·simp only [Option.some.injEq,Prod.mk.injEq] at e
   obtain ⟨rfl,rfl,rfl,rfl,rfl,rfl,rfl,rfl,rfl,rfl,rfl⟩:=e
   exact spec_nil_2bad k a0 w h0 j2 j1 hf1 hj1 hf2 hj
  ·refine (spec_nil_2ok k a0 w h0 j2 j1 hf1 hj1 hf2 hj hl hb x1 x2 x3 x4 y1 y2 y3 y4 x5 y5 hc1 hc2).mono ?_
   rintro e' w' ⟨rfl,hB⟩
   refine ⟨?_,hB⟩
   by_cases hxy:(x5 && y5)=true
   ·rw [if_pos hxy] at e ⊢
    simp only [Option.some.injEq,Prod.mk.injEq] at e
    obtain ⟨rfl,rfl,rfl,rfl,rfl,rfl,rfl,rfl,rfl,rfl,rfl⟩:=e
    rfl
   ·rw [if_neg hxy] at e ⊢
    simp only [Option.some.injEq,Prod.mk.injEq] at e
    obtain ⟨rfl,rfl,rfl,rfl,rfl,rfl,rfl,rfl,rfl,rfl,rfl⟩:=e
    rfl
 ·rw [if_neg hj1] at h
  rcases two 1 j1 h with ⟨hj,_⟩|⟨hj,hl,hb,x1,x2,x3,x4,x5,y1,y2,y3,y4,y5,hc1,hc2,e⟩
  ·exact absurd hj hj1
  ·refine (spec_nil_1ok k a0 w h0 j1 hf1 hj hl hb x1 x2 x3 x4 y1 y2 y3 y4 x5 y5 hc1 hc2).mono ?_
   rintro e' w' ⟨rfl,hB⟩
   refine ⟨?_,hB⟩
   by_cases hxy:(x5 && y5)=true
   ·rw [if_pos hxy] at e ⊢
    simp only [Option.some.injEq,Prod.mk.injEq] at e
    obtain ⟨rfl,rfl,rfl,rfl,rfl,rfl,rfl,rfl,rfl,rfl,rfl⟩:=e
    rfl
   ·rw [if_neg hxy] at e ⊢
    simp only [Option.some.injEq,Prod.mk.injEq] at e
    obtain ⟨rfl,rfl,rfl,rfl,rfl,rfl,rfl,rfl,rfl,rfl,rfl⟩:=e
    rfl
theorem spec_TestRead.calls (k:Nat) (a0:ByteArray) (r1:Int) (r2:Bool) (r3:Int) (r4:Int) (r5:Int) (r6:Int) (r7:Int) (r8:Int) (r9:Int) (r10:Int) (r11:Bool) (w:World) (h:spec_TestRead.f k a0=some (r1,r2,r3,r4,r5,r6,r7,r8,r9,r10,r11)) :
  Calls Tryd.prog 8 #[.string a0] w fun e w'=>e=.returned (.tuple #[.agg #[.int .i64 r1,.bool r2,.int .i64 r3,.int .i64 r4,.int .i64 r5,.int .i64 r6,.int .i64 r7,.int .i64 r8,.int .i64 r9,.int .i64 r10],.bool r11])∧Below w.heap.size w w':=by
 unfold spec_TestRead.f at h
 by_cases h0:(a0.size:Int) > 0
 ·rw [if_pos h0] at h
  by_cases h33:bt a0 0=33
  ·rw [if_pos h33] at h
   exact at_neg k a0 _ _ _ _ _ _ _ _ _ _ _ w h0 h33 _ rfl h
  ·rw [if_neg h33] at h
   exact at_pos k a0 _ _ _ _ _ _ _ _ _ _ _ w h0 h33 h
 ·rw [if_neg h0] at h
  exact at_nil k a0 _ _ _ _ _ _ _ _ _ _ _ w h0 h

/-! ### strings_HasPrefix: function 17 (by hand) -/
theorem zhs {p:Prop} (h:p:=by repeat (first|(with_reducible first|exact HB.out|apply below_alloc|apply pw_below_drewN|apply below_drew1|refine below_set ?_ (Aside0.out (by assumption)))|exact HB.out)):p:=h
theorem tab_on {P:Program} {w w':World} {nm:String} {k:IntKind} {zs:List Int} (h:Lib.TabIs P w nm k zs) (hb:Below w.heap.size w w'):Lib.TabIs P w' nm k zs:=Lib.tabBelow_of_tabIs h w' hb
theorem var_on {P:Program} {w w':World} {nm:String} {cs:Array Value} (h:w.var? P nm=some cs) (hb:Below w.heap.size w w'):w'.var? P nm=some cs:=by
 unfold World.var? at *
 cases hg:P.globalNamed nm with
 | none=>simp [hg] at h
 | some g =>
  simp only [hg,Option.bind_some] at h ⊢
  have hlt:g < w.heap.size:=by
   rcases Nat.lt_or_ge g w.heap.size with h'|h'
   ·exact h'
   ·rw [Array.getElem?_eq_none h'] at h;simp at h
  rw [hb.block g hlt]
  exact h
/-- what strings.Cut and strings.Split want of internal/bytealg.MaxLen, where they are used (MAXLEN in the law's env; else nothing) -/
def MaxW (w:World):Prop:=∃ m:Int,w.cell? ⟨0,0,none⟩=some (.int .i64 m)
theorem MaxW.on {w w':World} (h:MaxW w) (hb:Below w.heap.size w w'):MaxW w':=by
 unfold MaxW at *
 (obtain ⟨m,hm⟩:=h;exact ⟨m,(hb.cell (World.block_lt_of_cell? _ _ hm)).trans hm⟩)
/-- what the texts' functions find in the library's variables -/
def TxtW (w : World) : Prop := Lib.TabIs Tryd.prog w "internal/strconv.uint64pow10" .u64 Lib.pow10Tab ∧ (∃ tp p, w.var? Tryd.prog "strconv.ErrSyntax" = some #[.iface tp p]) ∧ (∃ tp p, w.var? Tryd.prog "strconv.ErrRange" = some #[.iface tp p]) ∧ MaxW w
theorem TxtW.tab {w : World} (h : TxtW w) : Lib.TabIs Tryd.prog w "internal/strconv.uint64pow10" .u64 Lib.pow10Tab := h.1
theorem TxtW.on {w w':World} (h:TxtW w) (hb:Below w.heap.size w w'):TxtW w':=by
 obtain ⟨h1,⟨t1,p1,h2⟩,⟨t2,p2,h3⟩,h4⟩:=h
 exact ⟨Lib.tabBelow_of_tabIs h1 w' hb,⟨t1,p1,var_on h2 hb⟩,⟨t2,p2,var_on h3 hb⟩,h4.on hb⟩
def okI (x:Int):Bool:=decide (-9223372036854775808≤x) && decide (x≤9223372036854775807)
theorem okI_iff {x:Int}:okI x=true ↔ (-9223372036854775808≤x∧x≤9223372036854775807):=by unfold okI;simp
def strings_HasPrefix.f (a0:ByteArray) (a1:ByteArray):Option Bool:=some (Lib.hasPrefix a0.data.toList a1.data.toList)
theorem strings_HasPrefix.calls (a0:ByteArray) (a1:ByteArray) (r:Bool) (w:World) (h:strings_HasPrefix.f a0 a1=some r) :
  Calls Tryd.prog 17 #[.string a0,.string a1] w fun e w'=>e=.returned (.bool r)∧Below w.heap.size w w':=by
 obtain rfl:=Option.some.inj h
 refine (Tryd.strings_HasPrefix a0 a1 w).mono ?_
 rintro e w' ⟨rfl,rfl⟩
 exact ⟨rfl,Below.refl _ _⟩

/-! ### strings_Cut: function 15 (by hand) -/
def cutF (a0 a1:ByteArray):ByteArray × ByteArray × Bool:=(⟨(Lib.cut a0.data.toList a1.data.toList).1.toArray⟩,⟨(Lib.cut a0.data.toList a1.data.toList).2.1.toArray⟩,(Lib.cut a0.data.toList a1.data.toList).2.2)
def strings_Cut.f (a0:ByteArray) (a1:ByteArray):Option (ByteArray × ByteArray × Bool):=if a0.size≤1048576 then some (cutF a0 a1) else none
theorem strings_Cut.calls (a0:ByteArray) (a1:ByteArray) (r1:ByteArray) (r2:ByteArray) (r3:Bool) (w:World) (h:strings_Cut.f a0 a1=some (r1,r2,r3)) (hT:TxtW w:=by exact TxtW.on HT0.out zhs) :
  Calls Tryd.prog 15 #[.string a0,.string a1] w fun e w'=>e=.returned (.tuple #[.string r1,.string r2,.bool r3])∧Below w.heap.size w w':=by
 unfold strings_Cut.f at h
 by_cases h1:a0.size≤1048576
 case neg=>rw [if_neg h1] at h;cases h
 rw [if_pos h1] at h
 unfold cutF at h
 simp only [Option.some.injEq,Prod.mk.injEq] at h
 obtain ⟨rfl,rfl,rfl⟩:=h
 obtain ⟨-,-,-,m,hm⟩:=hT
 refine (Tryd.strings_Cut a0 a1 m w (by omega) hm).mono ?_
 rintro e w' ⟨rfl,n,rfl⟩
 exact ⟨rfl,pw_below_drewN (Below.refl _ _) n⟩

end Go.Proofs.YthmcbekemnabdaaDoor.PFnExactTestRead
