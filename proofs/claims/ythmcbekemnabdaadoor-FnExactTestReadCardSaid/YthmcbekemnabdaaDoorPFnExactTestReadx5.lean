-- Written by wip/tools/pp.py, a program of this session over the kit's printer: not the kit's own print
import Derived.Test.YthmcbekemnabdaaDoorPFnExactTestReadx0
import Derived.Test.YthmcbekemnabdaaDoorPFnExactTestReadx4
namespace Go.Proofs.YthmcbekemnabdaaDoor.PFnExactTestRead
open Go.RowKit Go.Proofs.YthmcbekemnabdaaDoorW.PrintWords Go.Proofs.YthmcbekemnabdaaDoorW.PrintLast Go.Proofs.YthmcbekemnabdaaDoorW.PrintMore
attribute [local go_sem] max2_int min2_int max_two min_two max_three min_three max_four min_four   -- for this text's walks alone
set_option linter.unusedVariables false
set_option linter.unusedSimpArgs false

/-! ### impl_CellOk: function 26 (by hand) -/
def impl_CellOk.f (a0_0:Int) (a0_1:Int) (a0_2:Int) (a0_3:Int) (a1:Int):Option (Bool) :=
 if a0_0=1 then (if a0_2=0 then (if a0_3=0 then (impl_colReckoning_ok.f a0_1 a1) else (some false)) else (some false))
 else (if a0_0=2 then (if a0_1=0 then (if a0_2=0 then (impl_numReckoning_ok.f a0_3 a1) else (some false)) else (some false))
 else (if a0_0=3 then (if a0_3=0 then (impl_sumReckoning_ok.f a0_1 a0_2 a1) else (some false)) else (some false)))
/-- reckoningOf: what a cell's kind is told as -/
def rkVal (k a b n:Int):Value:=if k=1 then .iface 65 (.agg #[.int .i64 a]) else if k=2 then .iface 67 (.agg #[.int .i64 n]) else if k=3 then .iface 69 (.agg #[.int .i64 a,.int .i64 b]) else .nilIface
set_option maxHeartbeats 8000000 in
set_option maxRecDepth 100000 in
theorem impl_reckoningOf.calls (k a b n:Int) (w:World):Calls Tryd.prog 27 #[.agg #[.int .i64 k,.int .i64 a,.int .i64 b,.int .i64 n]] w fun e w'=>e=.returned (rkVal k a b n)∧Below w.heap.size w w':=by
 unfold rkVal
 by_cases h1:k=1
 ·subst h1
  rw [if_pos rfl]
  go_enter Tryd.func27,Tryd.ntmps27
  go_wp2
  go_ret
  exact ⟨rfl,below_alloc (Below.refl _ _) _⟩
 by_cases h2:k=2
 ·subst h2
  rw [if_neg (by decide),if_pos rfl]
  go_enter Tryd.func27,Tryd.ntmps27
  go_wp2
  go_ret
  exact ⟨rfl,below_alloc (Below.refl _ _) _⟩
 by_cases h3:k=3
 ·subst h3
  rw [if_neg (by decide),if_neg (by decide),if_pos rfl]
  go_enter Tryd.func27,Tryd.ntmps27
  go_wp2
  go_ret
  exact ⟨rfl,below_alloc (Below.refl _ _) _⟩
 rw [if_neg h1,if_neg h2,if_neg h3]
 have b1:(k == 1)=false:=by simpa using h1
 have b2:(k == 2)=false:=by simpa using h2
 have b3:(k == 3)=false:=by simpa using h3
 clear h1 h2 h3
 go_enter Tryd.func27,Tryd.ntmps27
 go_wp2
 go_ret
 exact ⟨rfl,below_alloc (Below.refl _ _) _⟩
set_option maxHeartbeats 8000000 in
set_option maxRecDepth 100000 in
theorem cellOk_col (a:Int) (wide:Int) (r:Bool) (w:World) (h:impl_colReckoning_ok.f a wide=some r):Calls Tryd.prog 26 #[.agg #[.int .i64 1,.int .i64 a,.int .i64 0,.int .i64 0],.int .i64 wide] w fun e w'=>e=.returned (.bool r)∧Below w.heap.size w w':=by
 have HB:=Aside0.mk (Below.refl w.heap.size w)
 have A:=Aside0.mk h
 clear h
 have RK:=impl_reckoningOf.calls 1 a 0 0
 rw [show rkVal 1 a 0 0=.iface 65 (.agg #[.int .i64 a]) from rfl] at RK
 go_enter Tryd.func26,Tryd.ntmps26
 go_wp2_with (first|(go_at_call 27;refine (RK _).mono ?_;rintro e w1 ⟨rfl,hb⟩;have HC:=Aside0.mk hb;clear hb))
 clear RK
 have c0:w1.cell? ⟨w.heap.size,0,none⟩=some (.int .i64 1):=(HC.out.cell (p:=⟨w.heap.size,0,none⟩) (by simp)).trans (by simp)
 have c1:w1.cell? ⟨w.heap.size,1,none⟩=some (.int .i64 a):=(HC.out.cell (p:=⟨w.heap.size,1,none⟩) (by simp)).trans (by simp)
 have c2:w1.cell? ⟨w.heap.size,2,none⟩=some (.int .i64 0):=(HC.out.cell (p:=⟨w.heap.size,2,none⟩) (by simp)).trans (by simp)
 have c3:w1.cell? ⟨w.heap.size,3,none⟩=some (.int .i64 0):=(HC.out.cell (p:=⟨w.heap.size,3,none⟩) (by simp)).trans (by simp)
 have B1:Below w.heap.size w w1:=below_step (below_alloc HB.out _) HC.out
 clear HC HB
 have mc : ∀ W : World, (method 218 65 (.agg #[.int .i64 a]) "loop.example/milldam/impl.cell").run Tryd.prog W = .ok (78, .agg #[.int .i64 a]) W := fun _ => by kernel_rfl
 have mo : ∀ W : World, (method 218 65 (.agg #[.int .i64 a]) "loop.example/milldam/impl.ok").run Tryd.prog W = .ok (80, .agg #[.int .i64 a]) W := fun _ => by kernel_rfl
 have qc:impl_colReckoning_cell.f a=some (1,a,0,0):=rfl
 refine start_ (n:=14) (S:=fun w'=>w'.cell? ⟨w.heap.size,0,none⟩=some (.int .i64 1)∧w'.cell? ⟨w.heap.size,1,none⟩=some (.int .i64 a)∧w'.cell? ⟨w.heap.size,2,none⟩=some (.int .i64 0)∧w'.cell? ⟨w.heap.size,3,none⟩=some (.int .i64 0)∧Below w.heap.size w w') (ds:=[]) #[X,X,X,X,X,X,X,X,X,X,X,X,X,X] (by kernel_rfl) rfl rfl ⟨c0,c1,c2,c3,(below_drew B1)⟩ (fun hHeld=>?_)
 refine pure_ (i:=0) (N:=some 8) (v:=?_) (a':=?_) #[Y,X,X,X,X,X,X,X,X,X,X,X,X,X] rfl rfl (by kernel_rfl) (fun _ _ _ h=>h) (Or.inl ⟨by rfl,?_⟩) ?_ ?_
 rotate_left
 ·intro w'
  go_simp
  with_reducible rfl
 rotate_left
 ·simp only [Act.put,zp1,zp2,zp3,i64_w,i32_w]
  rfl
 refine pure_ (i:=1) (N:=some 9) (v:=?_) (a':=?_) #[Y,Y,X,X,X,X,X,X,X,X,X,X,X,X] rfl rfl (by kernel_rfl) (fun _ _ _ h=>h) (Or.inl ⟨by rfl,?_⟩) ?_ ?_
 rotate_left
 ·intro w'
  go_simp
  with_reducible rfl
 rotate_left
 ·simp only [Act.put,zp1,zp2,zp3,i64_w,i32_w]
  rfl
 refine pure_ (i:=2) (N:=some 10) (v:=?_) (a':=?_) #[Y,Y,Y,X,X,X,X,X,X,X,X,X,X,X] rfl rfl (by kernel_rfl) (fun _ _ _ h=>h) (Or.inl ⟨by rfl,?_⟩) ?_ ?_
 rotate_left
 ·intro w'
  go_simp
  with_reducible rfl
 rotate_left
 ·simp only [Act.put,zp1,zp2,zp3,i64_w,i32_w]
  rfl
 refine pure_ (i:=3) (N:=some 11) (v:=?_) (a':=?_) #[Y,Y,Y,Y,X,X,X,X,X,X,X,X,X,X] rfl rfl (by kernel_rfl) (fun _ _ _ h=>h) (Or.inl ⟨by rfl,?_⟩) ?_ ?_
 rotate_left
 ·intro w'
  go_simp
  with_reducible rfl
 rotate_left
 ·simp only [Act.put,zp1,zp2,zp3,i64_w,i32_w]
  rfl
 refine take_ (i:=5) (N:=some 13) (v:=?_) (a':=?_) #[Y,Y,Y,Y,X,Y,X,X,X,X,X,X,X,X] rfl rfl (by kernel_rfl) (fun _ _ _ h=>h) (Or.inl ⟨by rfl,?_⟩) hHeld ?_ ?_
 rotate_left
 ·rintro w' ⟨s0,s1,s2,s3,s4⟩
  go_simp
  with_reducible rfl
 rotate_left
 ·simp only [Act.put,zp1,zp2,zp3,i64_w,i32_w]
  rfl
 refine one_ (i:=4) (N:=some 12) #[Y,Y,Y,Y,Y,Y,X,X,X,X,X,X,X,X] rfl rfl (by kernel_rfl) (by decide) (fun K hK=>?_)
 rw [if_pos (by rfl)]
 go_wp2_with (first|(go_at_call 78;refine (impl_colReckoning_cell.calls a 1 a 0 0 _ qc).mono ?_;rintro e w' ⟨rfl,hb⟩))
 refine hK.out _ _ ⟨(pw_cell_below hb hHeld.1),(pw_cell_below hb hHeld.2.1),(pw_cell_below hb hHeld.2.2.1),(pw_cell_below hb hHeld.2.2.2.1),(below_step hHeld.2.2.2.2 hb)⟩ (fun hHeld=>?_)
 clear hK K
 refine pure_ (i:=6) (N:=some 14) (v:=?_) (a':=?_) #[Y,Y,Y,Y,Y,Y,Y,X,X,X,X,X,X,X] rfl rfl (by kernel_rfl) (fun _ _ _ h=>h) (Or.inl ⟨by rfl,?_⟩) ?_ ?_
 rotate_left
 ·intro w'
  go_simp
  with_reducible rfl
 rotate_left
 ·simp only [Act.put,zp1,zp2,zp3,i64_w,i32_w]
  rfl
 refine pure_ (i:=7) (N:=some 15) (v:=?_) (a':=?_) #[Y,Y,Y,Y,Y,Y,Y,Y,X,X,X,X,X,X] rfl rfl (by kernel_rfl) (fun _ _ _ h=>h) (Or.inl ⟨by rfl,?_⟩) ?_ ?_
 rotate_left
 ·intro w'
  go_simp
  with_reducible rfl
 rotate_left
 ·simp only [Act.put,zp1,zp2,zp3,i64_w,i32_w]
  rfl
 refine pure_ (i:=8) (N:=some 16) (v:=?_) (a':=?_) #[Y,Y,Y,Y,Y,Y,Y,Y,Y,X,X,X,X,X] rfl rfl (by kernel_rfl) (fun _ _ _ h=>h) (Or.inl ⟨by rfl,?_⟩) ?_ ?_
 rotate_left
 ·intro w'
  go_simp
  with_reducible rfl
 rotate_left
 ·simp only [Act.put,zp1,zp2,zp3,i64_w,i32_w]
  rfl
 refine pure_ (i:=9) (N:=some 17) (v:=?_) (a':=?_) #[Y,Y,Y,Y,Y,Y,Y,Y,Y,Y,X,X,X,X] rfl rfl (by kernel_rfl) (fun _ _ _ h=>h) (Or.inl ⟨by rfl,?_⟩) ?_ ?_
 rotate_left
 ·intro w'
  go_simp
  with_reducible rfl
 rotate_left
 ·simp only [Act.put,zp1,zp2,zp3,i64_w,i32_w]
  rfl
 refine pure_ (i:=10) (N:=some 18) (v:=?_) (a':=?_) #[Y,Y,Y,Y,Y,Y,Y,Y,Y,Y,Y,X,X,X] rfl rfl (by kernel_rfl) (fun _ _ _ h=>h) (Or.inl ⟨by rfl,?_⟩) ?_ ?_
 rotate_left
 ·intro w'
  go_simp
  with_reducible rfl
 rotate_left
 ·simp only [Act.put,zp1,zp2,zp3,i64_w,i32_w]
  rfl
 refine one_ (i:=11) (N:=some 19) #[Y,Y,Y,Y,Y,Y,Y,Y,Y,Y,Y,Y,X,X] rfl rfl (by kernel_rfl) (by decide) (fun K hK=>?_)
 rw [if_pos (by rfl)]
 go_wp2_with (first|(go_at_call 80;refine (impl_colReckoning_ok.calls a wide r _ A.out).mono ?_;rintro e w' ⟨rfl,hb⟩))
 refine hK.out _ _ ⟨(pw_cell_below hb hHeld.1),(pw_cell_below hb hHeld.2.1),(pw_cell_below hb hHeld.2.2.1),(pw_cell_below hb hHeld.2.2.2.1),(below_step hHeld.2.2.2.2 hb)⟩ (fun hHeld=>?_)
 clear hK K
 refine pure_ (i:=12) (N:=some 20) (v:=?_) (a':=?_) #[Y,Y,Y,Y,Y,Y,Y,Y,Y,Y,Y,Y,Y,X] rfl rfl (by kernel_rfl) (fun _ _ _ h=>h) (Or.inl ⟨by rfl,?_⟩) ?_ ?_
 rotate_left
 ·intro w'
  go_simp
  with_reducible rfl
 rotate_left
 ·simp only [Act.put,zp1,zp2,zp3,i64_w,i32_w]
  rfl
 refine pure_ (i:=13) (N:=some 4) (v:=?_) (a':=?_) #[Y,Y,Y,Y,Y,Y,Y,Y,Y,Y,Y,Y,Y,Y] rfl rfl (by kernel_rfl) (fun _ _ _ h=>h) (Or.inl ⟨by rfl,?_⟩) ?_ ?_
 rotate_left
 ·intro w'
  go_simp
  with_reducible rfl
 rotate_left
 ·simp only [Act.put,zp1,zp2,zp3,i64_w,i32_w]
  rfl
 refine done_ (by kernel_rfl) ?_
 go_wp2
 go_ret
 exact ⟨rfl,hHeld.2.2.2.2⟩
set_option maxHeartbeats 8000000 in
set_option maxRecDepth 100000 in
theorem cellOk_col_b (a b n:Int) (wide:Int) (w:World) (hb:((0:Int) == b)=false):Calls Tryd.prog 26 #[.agg #[.int .i64 1,.int .i64 a,.int .i64 b,.int .i64 n],.int .i64 wide] w fun e w'=>e=.returned (.bool false)∧Below w.heap.size w w':=by
 have HB:=Aside0.mk (Below.refl w.heap.size w)
 have RK:=impl_reckoningOf.calls 1 a b n
 rw [show rkVal 1 a b n=.iface 65 (.agg #[.int .i64 a]) from rfl] at RK
 go_enter Tryd.func26,Tryd.ntmps26
 go_wp2_with (first|(go_at_call 27;refine (RK _).mono ?_;rintro e w1 ⟨rfl,hb⟩;have HC:=Aside0.mk hb;clear hb))
 clear RK
 have c0:w1.cell? ⟨w.heap.size,0,none⟩=some (.int .i64 1):=(HC.out.cell (p:=⟨w.heap.size,0,none⟩) (by simp)).trans (by simp)
 have c1:w1.cell? ⟨w.heap.size,1,none⟩=some (.int .i64 a):=(HC.out.cell (p:=⟨w.heap.size,1,none⟩) (by simp)).trans (by simp)
 have c2:w1.cell? ⟨w.heap.size,2,none⟩=some (.int .i64 b):=(HC.out.cell (p:=⟨w.heap.size,2,none⟩) (by simp)).trans (by simp)
 have c3:w1.cell? ⟨w.heap.size,3,none⟩=some (.int .i64 n):=(HC.out.cell (p:=⟨w.heap.size,3,none⟩) (by simp)).trans (by simp)
 have B1:Below w.heap.size w w1:=below_step (below_alloc HB.out _) HC.out
 clear HC HB
 have mc : ∀ W : World, (method 218 65 (.agg #[.int .i64 a]) "loop.example/milldam/impl.cell").run Tryd.prog W = .ok (78, .agg #[.int .i64 a]) W := fun _ => by kernel_rfl
 have mo : ∀ W : World, (method 218 65 (.agg #[.int .i64 a]) "loop.example/milldam/impl.ok").run Tryd.prog W = .ok (80, .agg #[.int .i64 a]) W := fun _ => by kernel_rfl
 have qc:impl_colReckoning_cell.f a=some (1,a,0,0):=rfl
 refine start_ (n:=14) (S:=fun w'=>w'.cell? ⟨w.heap.size,0,none⟩=some (.int .i64 1)∧w'.cell? ⟨w.heap.size,1,none⟩=some (.int .i64 a)∧w'.cell? ⟨w.heap.size,2,none⟩=some (.int .i64 b)∧w'.cell? ⟨w.heap.size,3,none⟩=some (.int .i64 n)∧Below w.heap.size w w') (ds:=[]) #[X,X,X,X,X,X,X,X,X,X,X,X,X,X] (by kernel_rfl) rfl rfl ⟨c0,c1,c2,c3,(below_drew B1)⟩ (fun hHeld=>?_)
 refine pure_ (i:=0) (N:=some 8) (v:=?_) (a':=?_) #[Y,X,X,X,X,X,X,X,X,X,X,X,X,X] rfl rfl (by kernel_rfl) (fun _ _ _ h=>h) (Or.inl ⟨by rfl,?_⟩) ?_ ?_
 rotate_left
 ·intro w'
  go_simp
  with_reducible rfl
 rotate_left
 ·simp only [Act.put,zp1,zp2,zp3,i64_w,i32_w]
  rfl
 refine pure_ (i:=1) (N:=some 9) (v:=?_) (a':=?_) #[Y,Y,X,X,X,X,X,X,X,X,X,X,X,X] rfl rfl (by kernel_rfl) (fun _ _ _ h=>h) (Or.inl ⟨by rfl,?_⟩) ?_ ?_
 rotate_left
 ·intro w'
  go_simp
  with_reducible rfl
 rotate_left
 ·simp only [Act.put,zp1,zp2,zp3,i64_w,i32_w]
  rfl
 refine pure_ (i:=2) (N:=some 10) (v:=?_) (a':=?_) #[Y,Y,Y,X,X,X,X,X,X,X,X,X,X,X] rfl rfl (by kernel_rfl) (fun _ _ _ h=>h) (Or.inl ⟨by rfl,?_⟩) ?_ ?_
 rotate_left
 ·intro w'
  go_simp
  with_reducible rfl
 rotate_left
 ·simp only [Act.put,zp1,zp2,zp3,i64_w,i32_w]
  rfl
 refine pure_ (i:=3) (N:=some 11) (v:=?_) (a':=?_) #[Y,Y,Y,Y,X,X,X,X,X,X,X,X,X,X] rfl rfl (by kernel_rfl) (fun _ _ _ h=>h) (Or.inl ⟨by rfl,?_⟩) ?_ ?_
 rotate_left
 ·intro w'
  go_simp
  with_reducible rfl
 rotate_left
 ·simp only [Act.put,zp1,zp2,zp3,i64_w,i32_w]
  rfl
 refine take_ (i:=5) (N:=some 13) (v:=?_) (a':=?_) #[Y,Y,Y,Y,X,Y,X,X,X,X,X,X,X,X] rfl rfl (by kernel_rfl) (fun _ _ _ h=>h) (Or.inl ⟨by rfl,?_⟩) hHeld ?_ ?_
 rotate_left
 ·rintro w' ⟨s0,s1,s2,s3,s4⟩
  go_simp
  with_reducible rfl
 rotate_left
 ·simp only [Act.put,zp1,zp2,zp3,i64_w,i32_w]
  rfl
 refine one_ (i:=4) (N:=some 12) #[Y,Y,Y,Y,Y,Y,X,X,X,X,X,X,X,X] rfl rfl (by kernel_rfl) (by decide) (fun K hK=>?_)
 rw [if_pos (by rfl)]
 go_wp2_with (first|(go_at_call 78;refine (impl_colReckoning_cell.calls a 1 a 0 0 _ qc).mono ?_;rintro e w' ⟨rfl,hb⟩))
 refine hK.out _ _ ⟨(pw_cell_below hb hHeld.1),(pw_cell_below hb hHeld.2.1),(pw_cell_below hb hHeld.2.2.1),(pw_cell_below hb hHeld.2.2.2.1),(below_step hHeld.2.2.2.2 hb)⟩ (fun hHeld=>?_)
 clear hK K
 refine pure_ (i:=6) (N:=some 14) (v:=?_) (a':=?_) #[Y,Y,Y,Y,Y,Y,Y,X,X,X,X,X,X,X] rfl rfl (by kernel_rfl) (fun _ _ _ h=>h) (Or.inl ⟨by rfl,?_⟩) ?_ ?_
 rotate_left
 ·intro w'
  go_simp
  with_reducible rfl
 rotate_left
 ·simp only [Act.put,zp1,zp2,zp3,i64_w,i32_w]
  rfl
 refine pure_ (i:=7) (N:=some 15) (v:=?_) (a':=?_) #[Y,Y,Y,Y,Y,Y,Y,Y,X,X,X,X,X,X] rfl rfl (by kernel_rfl) (fun _ _ _ h=>h) (Or.inl ⟨by rfl,?_⟩) ?_ ?_
 rotate_left
 ·intro w'
  go_simp
  with_reducible rfl
 rotate_left
 ·simp only [Act.put,zp1,zp2,zp3,i64_w,i32_w]
  rfl
 refine pure_ (i:=8) (N:=some 16) (v:=?_) (a':=?_) #[Y,Y,Y,Y,Y,Y,Y,Y,Y,X,X,X,X,X] rfl rfl (by kernel_rfl) (fun _ _ _ h=>h) (Or.inl ⟨by rfl,?_⟩) ?_ ?_
 rotate_left
 ·intro w'
  go_simp
  with_reducible rfl
 rotate_left
 ·simp only [Act.put,zp1,zp2,zp3,i64_w,i32_w]
  rfl
 refine pure_ (i:=9) (N:=some 17) (v:=undef) (a':=?_) #[Y,Y,Y,Y,Y,Y,Y,Y,Y,Y,X,X,X,X] rfl rfl (by kernel_rfl) (fun _ _ _ h=>h) (Or.inr ⟨by rfl,rfl⟩) ?_ ?_
 rotate_left
 ·simp only [Act.put,zp1,zp2,zp3,i64_w,i32_w]
  rfl
 refine pure_ (i:=10) (N:=some 18) (v:=undef) (a':=?_) #[Y,Y,Y,Y,Y,Y,Y,Y,Y,Y,Y,X,X,X] rfl rfl (by kernel_rfl) (fun _ _ _ h=>h) (Or.inr ⟨by rfl,rfl⟩) ?_ ?_
 rotate_left
 ·simp only [Act.put,zp1,zp2,zp3,i64_w,i32_w]
  rfl
 refine pure_ (i:=11) (N:=some 19) (v:=undef) (a':=?_) #[Y,Y,Y,Y,Y,Y,Y,Y,Y,Y,Y,Y,X,X] rfl rfl (by kernel_rfl) (fun _ _ _ h=>h) (Or.inr ⟨by rfl,rfl⟩) ?_ ?_
 rotate_left
 ·simp only [Act.put,zp1,zp2,zp3,i64_w,i32_w]
  rfl
 refine pure_ (i:=12) (N:=some 20) (v:=?_) (a':=?_) #[Y,Y,Y,Y,Y,Y,Y,Y,Y,Y,Y,Y,Y,X] rfl rfl (by kernel_rfl) (fun _ _ _ h=>h) (Or.inl ⟨by rfl,?_⟩) ?_ ?_
 rotate_left
 ·intro w'
  go_simp
  with_reducible rfl
 rotate_left
 ·simp only [Act.put,zp1,zp2,zp3,i64_w,i32_w]
  rfl
 refine pure_ (i:=13) (N:=some 4) (v:=?_) (a':=?_) #[Y,Y,Y,Y,Y,Y,Y,Y,Y,Y,Y,Y,Y,Y] rfl rfl (by kernel_rfl) (fun _ _ _ h=>h) (Or.inl ⟨by rfl,?_⟩) ?_ ?_
 rotate_left
 ·intro w'
  go_simp
  with_reducible rfl
 rotate_left
 ·simp only [Act.put,zp1,zp2,zp3,i64_w,i32_w]
  rfl
 refine done_ (by kernel_rfl) ?_
 go_wp2
 go_ret
 exact ⟨rfl,hHeld.2.2.2.2⟩
set_option maxHeartbeats 8000000 in
set_option maxRecDepth 100000 in
theorem cellOk_col_n (a n:Int) (wide:Int) (w:World) (hn:((0:Int) == n)=false):Calls Tryd.prog 26 #[.agg #[.int .i64 1,.int .i64 a,.int .i64 0,.int .i64 n],.int .i64 wide] w fun e w'=>e=.returned (.bool false)∧Below w.heap.size w w':=by
 have HB:=Aside0.mk (Below.refl w.heap.size w)
 have RK:=impl_reckoningOf.calls 1 a 0 n
 rw [show rkVal 1 a 0 n=.iface 65 (.agg #[.int .i64 a]) from rfl] at RK
 go_enter Tryd.func26,Tryd.ntmps26
 go_wp2_with (first|(go_at_call 27;refine (RK _).mono ?_;rintro e w1 ⟨rfl,hb⟩;have HC:=Aside0.mk hb;clear hb))
 clear RK
 have c0:w1.cell? ⟨w.heap.size,0,none⟩=some (.int .i64 1):=(HC.out.cell (p:=⟨w.heap.size,0,none⟩) (by simp)).trans (by simp)
 have c1:w1.cell? ⟨w.heap.size,1,none⟩=some (.int .i64 a):=(HC.out.cell (p:=⟨w.heap.size,1,none⟩) (by simp)).trans (by simp)
 have c2:w1.cell? ⟨w.heap.size,2,none⟩=some (.int .i64 0):=(HC.out.cell (p:=⟨w.heap.size,2,none⟩) (by simp)).trans (by simp)
 have c3:w1.cell? ⟨w.heap.size,3,none⟩=some (.int .i64 n):=(HC.out.cell (p:=⟨w.heap.size,3,none⟩) (by simp)).trans (by simp)
 have B1:Below w.heap.size w w1:=below_step (below_alloc HB.out _) HC.out
 clear HC HB
 have mc : ∀ W : World, (method 218 65 (.agg #[.int .i64 a]) "loop.example/milldam/impl.cell").run Tryd.prog W = .ok (78, .agg #[.int .i64 a]) W := fun _ => by kernel_rfl
 have mo : ∀ W : World, (method 218 65 (.agg #[.int .i64 a]) "loop.example/milldam/impl.ok").run Tryd.prog W = .ok (80, .agg #[.int .i64 a]) W := fun _ => by kernel_rfl
 have qc:impl_colReckoning_cell.f a=some (1,a,0,0):=rfl
 refine start_ (n:=14) (S:=fun w'=>w'.cell? ⟨w.heap.size,0,none⟩=some (.int .i64 1)∧w'.cell? ⟨w.heap.size,1,none⟩=some (.int .i64 a)∧w'.cell? ⟨w.heap.size,2,none⟩=some (.int .i64 0)∧w'.cell? ⟨w.heap.size,3,none⟩=some (.int .i64 n)∧Below w.heap.size w w') (ds:=[]) #[X,X,X,X,X,X,X,X,X,X,X,X,X,X] (by kernel_rfl) rfl rfl ⟨c0,c1,c2,c3,(below_drew B1)⟩ (fun hHeld=>?_)
 refine pure_ (i:=0) (N:=some 8) (v:=?_) (a':=?_) #[Y,X,X,X,X,X,X,X,X,X,X,X,X,X] rfl rfl (by kernel_rfl) (fun _ _ _ h=>h) (Or.inl ⟨by rfl,?_⟩) ?_ ?_
 rotate_left
 ·intro w'
  go_simp
  with_reducible rfl
 rotate_left
 ·simp only [Act.put,zp1,zp2,zp3,i64_w,i32_w]
  rfl
 refine pure_ (i:=1) (N:=some 9) (v:=?_) (a':=?_) #[Y,Y,X,X,X,X,X,X,X,X,X,X,X,X] rfl rfl (by kernel_rfl) (fun _ _ _ h=>h) (Or.inl ⟨by rfl,?_⟩) ?_ ?_
 rotate_left
 ·intro w'
  go_simp
  with_reducible rfl
 rotate_left
 ·simp only [Act.put,zp1,zp2,zp3,i64_w,i32_w]
  rfl
 refine pure_ (i:=2) (N:=some 10) (v:=?_) (a':=?_) #[Y,Y,Y,X,X,X,X,X,X,X,X,X,X,X] rfl rfl (by kernel_rfl) (fun _ _ _ h=>h) (Or.inl ⟨by rfl,?_⟩) ?_ ?_
 rotate_left
 ·intro w'
  go_simp
  with_reducible rfl
 rotate_left
 ·simp only [Act.put,zp1,zp2,zp3,i64_w,i32_w]
  rfl
 refine pure_ (i:=3) (N:=some 11) (v:=?_) (a':=?_) #[Y,Y,Y,Y,X,X,X,X,X,X,X,X,X,X] rfl rfl (by kernel_rfl) (fun _ _ _ h=>h) (Or.inl ⟨by rfl,?_⟩) ?_ ?_
 rotate_left
 ·intro w'
  go_simp
  with_reducible rfl
 rotate_left
 ·simp only [Act.put,zp1,zp2,zp3,i64_w,i32_w]
  rfl
 refine take_ (i:=5) (N:=some 13) (v:=?_) (a':=?_) #[Y,Y,Y,Y,X,Y,X,X,X,X,X,X,X,X] rfl rfl (by kernel_rfl) (fun _ _ _ h=>h) (Or.inl ⟨by rfl,?_⟩) hHeld ?_ ?_
 rotate_left
 ·rintro w' ⟨s0,s1,s2,s3,s4⟩
  go_simp
  with_reducible rfl
 rotate_left
 ·simp only [Act.put,zp1,zp2,zp3,i64_w,i32_w]
  rfl
 refine one_ (i:=4) (N:=some 12) #[Y,Y,Y,Y,Y,Y,X,X,X,X,X,X,X,X] rfl rfl (by kernel_rfl) (by decide) (fun K hK=>?_)
 rw [if_pos (by rfl)]
 go_wp2_with (first|(go_at_call 78;refine (impl_colReckoning_cell.calls a 1 a 0 0 _ qc).mono ?_;rintro e w' ⟨rfl,hb⟩))
 refine hK.out _ _ ⟨(pw_cell_below hb hHeld.1),(pw_cell_below hb hHeld.2.1),(pw_cell_below hb hHeld.2.2.1),(pw_cell_below hb hHeld.2.2.2.1),(below_step hHeld.2.2.2.2 hb)⟩ (fun hHeld=>?_)
 clear hK K
 refine pure_ (i:=6) (N:=some 14) (v:=?_) (a':=?_) #[Y,Y,Y,Y,Y,Y,Y,X,X,X,X,X,X,X] rfl rfl (by kernel_rfl) (fun _ _ _ h=>h) (Or.inl ⟨by rfl,?_⟩) ?_ ?_
 rotate_left
 ·intro w'
  go_simp
  with_reducible rfl
 rotate_left
 ·simp only [Act.put,zp1,zp2,zp3,i64_w,i32_w]
  rfl
 refine pure_ (i:=7) (N:=some 15) (v:=?_) (a':=?_) #[Y,Y,Y,Y,Y,Y,Y,Y,X,X,X,X,X,X] rfl rfl (by kernel_rfl) (fun _ _ _ h=>h) (Or.inl ⟨by rfl,?_⟩) ?_ ?_
 rotate_left
 ·intro w'
  go_simp
  with_reducible rfl
 rotate_left
 ·simp only [Act.put,zp1,zp2,zp3,i64_w,i32_w]
  rfl
 refine pure_ (i:=8) (N:=some 16) (v:=?_) (a':=?_) #[Y,Y,Y,Y,Y,Y,Y,Y,Y,X,X,X,X,X] rfl rfl (by kernel_rfl) (fun _ _ _ h=>h) (Or.inl ⟨by rfl,?_⟩) ?_ ?_
 rotate_left
 ·intro w'
  go_simp
  with_reducible rfl
 rotate_left
 ·simp only [Act.put,zp1,zp2,zp3,i64_w,i32_w]
  rfl
 refine pure_ (i:=9) (N:=some 17) (v:=undef) (a':=?_) #[Y,Y,Y,Y,Y,Y,Y,Y,Y,Y,X,X,X,X] rfl rfl (by kernel_rfl) (fun _ _ _ h=>h) (Or.inr ⟨by rfl,rfl⟩) ?_ ?_
 rotate_left
 ·simp only [Act.put,zp1,zp2,zp3,i64_w,i32_w]
  rfl
 refine pure_ (i:=10) (N:=some 18) (v:=undef) (a':=?_) #[Y,Y,Y,Y,Y,Y,Y,Y,Y,Y,Y,X,X,X] rfl rfl (by kernel_rfl) (fun _ _ _ h=>h) (Or.inr ⟨by rfl,rfl⟩) ?_ ?_
 rotate_left
 ·simp only [Act.put,zp1,zp2,zp3,i64_w,i32_w]
  rfl
 refine pure_ (i:=11) (N:=some 19) (v:=undef) (a':=?_) #[Y,Y,Y,Y,Y,Y,Y,Y,Y,Y,Y,Y,X,X] rfl rfl (by kernel_rfl) (fun _ _ _ h=>h) (Or.inr ⟨by rfl,rfl⟩) ?_ ?_
 rotate_left
 ·simp only [Act.put,zp1,zp2,zp3,i64_w,i32_w]
  rfl
 refine pure_ (i:=12) (N:=some 20) (v:=?_) (a':=?_) #[Y,Y,Y,Y,Y,Y,Y,Y,Y,Y,Y,Y,Y,X] rfl rfl (by kernel_rfl) (fun _ _ _ h=>h) (Or.inl ⟨by rfl,?_⟩) ?_ ?_
 rotate_left
 ·intro w'
  go_simp
  with_reducible rfl
 rotate_left
 ·simp only [Act.put,zp1,zp2,zp3,i64_w,i32_w]
  rfl
 refine pure_ (i:=13) (N:=some 4) (v:=?_) (a':=?_) #[Y,Y,Y,Y,Y,Y,Y,Y,Y,Y,Y,Y,Y,Y] rfl rfl (by kernel_rfl) (fun _ _ _ h=>h) (Or.inl ⟨by rfl,?_⟩) ?_ ?_
 rotate_left
 ·intro w'
  go_simp
  with_reducible rfl
 rotate_left
 ·simp only [Act.put,zp1,zp2,zp3,i64_w,i32_w]
  rfl
 refine done_ (by kernel_rfl) ?_
 go_wp2
 go_ret
 exact ⟨rfl,hHeld.2.2.2.2⟩
set_option maxHeartbeats 8000000 in
set_option maxRecDepth 100000 in
theorem cellOk_num (n:Int) (wide:Int) (r:Bool) (w:World) (h:impl_numReckoning_ok.f n wide=some r):Calls Tryd.prog 26 #[.agg #[.int .i64 2,.int .i64 0,.int .i64 0,.int .i64 n],.int .i64 wide] w fun e w'=>e=.returned (.bool r)∧Below w.heap.size w w':=by
 have HB:=Aside0.mk (Below.refl w.heap.size w)
 have A:=Aside0.mk h
 clear h
 have RK:=impl_reckoningOf.calls 2 0 0 n
 rw [show rkVal 2 0 0 n=.iface 67 (.agg #[.int .i64 n]) from rfl] at RK
 go_enter Tryd.func26,Tryd.ntmps26
 go_wp2_with (first|(go_at_call 27;refine (RK _).mono ?_;rintro e w1 ⟨rfl,hb⟩;have HC:=Aside0.mk hb;clear hb))
 clear RK
 have c0:w1.cell? ⟨w.heap.size,0,none⟩=some (.int .i64 2):=(HC.out.cell (p:=⟨w.heap.size,0,none⟩) (by simp)).trans (by simp)
 have c1:w1.cell? ⟨w.heap.size,1,none⟩=some (.int .i64 0):=(HC.out.cell (p:=⟨w.heap.size,1,none⟩) (by simp)).trans (by simp)
 have c2:w1.cell? ⟨w.heap.size,2,none⟩=some (.int .i64 0):=(HC.out.cell (p:=⟨w.heap.size,2,none⟩) (by simp)).trans (by simp)
 have c3:w1.cell? ⟨w.heap.size,3,none⟩=some (.int .i64 n):=(HC.out.cell (p:=⟨w.heap.size,3,none⟩) (by simp)).trans (by simp)
 have B1:Below w.heap.size w w1:=below_step (below_alloc HB.out _) HC.out
 clear HC HB
 have mc : ∀ W : World, (method 218 67 (.agg #[.int .i64 n]) "loop.example/milldam/impl.cell").run Tryd.prog W = .ok (83, .agg #[.int .i64 n]) W := fun _ => by kernel_rfl
 have mo : ∀ W : World, (method 218 67 (.agg #[.int .i64 n]) "loop.example/milldam/impl.ok").run Tryd.prog W = .ok (85, .agg #[.int .i64 n]) W := fun _ => by kernel_rfl
 have qc:impl_numReckoning_cell.f n=some (2,0,0,n):=rfl
 refine start_ (n:=14) (S:=fun w'=>w'.cell? ⟨w.heap.size,0,none⟩=some (.int .i64 2)∧w'.cell? ⟨w.heap.size,1,none⟩=some (.int .i64 0)∧w'.cell? ⟨w.heap.size,2,none⟩=some (.int .i64 0)∧w'.cell? ⟨w.heap.size,3,none⟩=some (.int .i64 n)∧Below w.heap.size w w') (ds:=[]) #[X,X,X,X,X,X,X,X,X,X,X,X,X,X] (by kernel_rfl) rfl rfl ⟨c0,c1,c2,c3,(below_drew B1)⟩ (fun hHeld=>?_)
 refine pure_ (i:=0) (N:=some 8) (v:=?_) (a':=?_) #[Y,X,X,X,X,X,X,X,X,X,X,X,X,X] rfl rfl (by kernel_rfl) (fun _ _ _ h=>h) (Or.inl ⟨by rfl,?_⟩) ?_ ?_
 rotate_left
 ·intro w'
  go_simp
  with_reducible rfl
 rotate_left
 ·simp only [Act.put,zp1,zp2,zp3,i64_w,i32_w]
  rfl
 refine pure_ (i:=1) (N:=some 9) (v:=?_) (a':=?_) #[Y,Y,X,X,X,X,X,X,X,X,X,X,X,X] rfl rfl (by kernel_rfl) (fun _ _ _ h=>h) (Or.inl ⟨by rfl,?_⟩) ?_ ?_
 rotate_left
 ·intro w'
  go_simp
  with_reducible rfl
 rotate_left
 ·simp only [Act.put,zp1,zp2,zp3,i64_w,i32_w]
  rfl
 refine pure_ (i:=2) (N:=some 10) (v:=?_) (a':=?_) #[Y,Y,Y,X,X,X,X,X,X,X,X,X,X,X] rfl rfl (by kernel_rfl) (fun _ _ _ h=>h) (Or.inl ⟨by rfl,?_⟩) ?_ ?_
 rotate_left
 ·intro w'
  go_simp
  with_reducible rfl
 rotate_left
 ·simp only [Act.put,zp1,zp2,zp3,i64_w,i32_w]
  rfl
 refine pure_ (i:=3) (N:=some 11) (v:=?_) (a':=?_) #[Y,Y,Y,Y,X,X,X,X,X,X,X,X,X,X] rfl rfl (by kernel_rfl) (fun _ _ _ h=>h) (Or.inl ⟨by rfl,?_⟩) ?_ ?_
 rotate_left
 ·intro w'
  go_simp
  with_reducible rfl
 rotate_left
 ·simp only [Act.put,zp1,zp2,zp3,i64_w,i32_w]
  rfl
 refine take_ (i:=5) (N:=some 13) (v:=?_) (a':=?_) #[Y,Y,Y,Y,X,Y,X,X,X,X,X,X,X,X] rfl rfl (by kernel_rfl) (fun _ _ _ h=>h) (Or.inl ⟨by rfl,?_⟩) hHeld ?_ ?_
 rotate_left
 ·rintro w' ⟨s0,s1,s2,s3,s4⟩
  go_simp
  with_reducible rfl
 rotate_left
 ·simp only [Act.put,zp1,zp2,zp3,i64_w,i32_w]
  rfl
 refine one_ (i:=4) (N:=some 12) #[Y,Y,Y,Y,Y,Y,X,X,X,X,X,X,X,X] rfl rfl (by kernel_rfl) (by decide) (fun K hK=>?_)
 rw [if_pos (by rfl)]
 go_wp2_with (first|(go_at_call 83;refine (impl_numReckoning_cell.calls n 2 0 0 n _ qc).mono ?_;rintro e w' ⟨rfl,hb⟩))
 refine hK.out _ _ ⟨(pw_cell_below hb hHeld.1),(pw_cell_below hb hHeld.2.1),(pw_cell_below hb hHeld.2.2.1),(pw_cell_below hb hHeld.2.2.2.1),(below_step hHeld.2.2.2.2 hb)⟩ (fun hHeld=>?_)
 clear hK K
 refine pure_ (i:=6) (N:=some 14) (v:=?_) (a':=?_) #[Y,Y,Y,Y,Y,Y,Y,X,X,X,X,X,X,X] rfl rfl (by kernel_rfl) (fun _ _ _ h=>h) (Or.inl ⟨by rfl,?_⟩) ?_ ?_
 rotate_left
 ·intro w'
  go_simp
  with_reducible rfl
 rotate_left
 ·simp only [Act.put,zp1,zp2,zp3,i64_w,i32_w]
  rfl
 refine pure_ (i:=7) (N:=some 15) (v:=?_) (a':=?_) #[Y,Y,Y,Y,Y,Y,Y,Y,X,X,X,X,X,X] rfl rfl (by kernel_rfl) (fun _ _ _ h=>h) (Or.inl ⟨by rfl,?_⟩) ?_ ?_
 rotate_left
 ·intro w'
  go_simp
  with_reducible rfl
 rotate_left
 ·simp only [Act.put,zp1,zp2,zp3,i64_w,i32_w]
  rfl
 refine pure_ (i:=8) (N:=some 16) (v:=?_) (a':=?_) #[Y,Y,Y,Y,Y,Y,Y,Y,Y,X,X,X,X,X] rfl rfl (by kernel_rfl) (fun _ _ _ h=>h) (Or.inl ⟨by rfl,?_⟩) ?_ ?_
 rotate_left
 ·intro w'
  go_simp
  with_reducible rfl
 rotate_left
 ·simp only [Act.put,zp1,zp2,zp3,i64_w,i32_w]
  rfl
 refine pure_ (i:=9) (N:=some 17) (v:=?_) (a':=?_) #[Y,Y,Y,Y,Y,Y,Y,Y,Y,Y,X,X,X,X] rfl rfl (by kernel_rfl) (fun _ _ _ h=>h) (Or.inl ⟨by rfl,?_⟩) ?_ ?_
 rotate_left
 ·intro w'
  go_simp
  with_reducible rfl
 rotate_left
 ·simp only [Act.put,zp1,zp2,zp3,i64_w,i32_w]
  rfl
 refine pure_ (i:=10) (N:=some 18) (v:=?_) (a':=?_) #[Y,Y,Y,Y,Y,Y,Y,Y,Y,Y,Y,X,X,X] rfl rfl (by kernel_rfl) (fun _ _ _ h=>h) (Or.inl ⟨by rfl,?_⟩) ?_ ?_
 rotate_left
 ·intro w'
  go_simp
  with_reducible rfl
 rotate_left
 ·simp only [Act.put,zp1,zp2,zp3,i64_w,i32_w]
  rfl
 refine one_ (i:=11) (N:=some 19) #[Y,Y,Y,Y,Y,Y,Y,Y,Y,Y,Y,Y,X,X] rfl rfl (by kernel_rfl) (by decide) (fun K hK=>?_)
 rw [if_pos (by rfl)]
 go_wp2_with (first|(go_at_call 85;refine (impl_numReckoning_ok.calls n wide r _ A.out).mono ?_;rintro e w' ⟨rfl,hb⟩))
 refine hK.out _ _ ⟨(pw_cell_below hb hHeld.1),(pw_cell_below hb hHeld.2.1),(pw_cell_below hb hHeld.2.2.1),(pw_cell_below hb hHeld.2.2.2.1),(below_step hHeld.2.2.2.2 hb)⟩ (fun hHeld=>?_)
 clear hK K
 refine pure_ (i:=12) (N:=some 20) (v:=?_) (a':=?_) #[Y,Y,Y,Y,Y,Y,Y,Y,Y,Y,Y,Y,Y,X] rfl rfl (by kernel_rfl) (fun _ _ _ h=>h) (Or.inl ⟨by rfl,?_⟩) ?_ ?_
 rotate_left
 ·intro w'
  go_simp
  with_reducible rfl
 rotate_left
 ·simp only [Act.put,zp1,zp2,zp3,i64_w,i32_w]
  rfl
 refine pure_ (i:=13) (N:=some 4) (v:=?_) (a':=?_) #[Y,Y,Y,Y,Y,Y,Y,Y,Y,Y,Y,Y,Y,Y] rfl rfl (by kernel_rfl) (fun _ _ _ h=>h) (Or.inl ⟨by rfl,?_⟩) ?_ ?_
 rotate_left
 ·intro w'
  go_simp
  with_reducible rfl
 rotate_left
 ·simp only [Act.put,zp1,zp2,zp3,i64_w,i32_w]
  rfl
 refine done_ (by kernel_rfl) ?_
 go_wp2
 go_ret
 exact ⟨rfl,hHeld.2.2.2.2⟩
set_option maxHeartbeats 8000000 in
set_option maxRecDepth 100000 in
theorem cellOk_num_a (a b n:Int) (wide:Int) (w:World) (ha:((0:Int) == a)=false):Calls Tryd.prog 26 #[.agg #[.int .i64 2,.int .i64 a,.int .i64 b,.int .i64 n],.int .i64 wide] w fun e w'=>e=.returned (.bool false)∧Below w.heap.size w w':=by
 have HB:=Aside0.mk (Below.refl w.heap.size w)
 have RK:=impl_reckoningOf.calls 2 a b n
 rw [show rkVal 2 a b n=.iface 67 (.agg #[.int .i64 n]) from rfl] at RK
 go_enter Tryd.func26,Tryd.ntmps26
 go_wp2_with (first|(go_at_call 27;refine (RK _).mono ?_;rintro e w1 ⟨rfl,hb⟩;have HC:=Aside0.mk hb;clear hb))
 clear RK
 have c0:w1.cell? ⟨w.heap.size,0,none⟩=some (.int .i64 2):=(HC.out.cell (p:=⟨w.heap.size,0,none⟩) (by simp)).trans (by simp)
 have c1:w1.cell? ⟨w.heap.size,1,none⟩=some (.int .i64 a):=(HC.out.cell (p:=⟨w.heap.size,1,none⟩) (by simp)).trans (by simp)
 have c2:w1.cell? ⟨w.heap.size,2,none⟩=some (.int .i64 b):=(HC.out.cell (p:=⟨w.heap.size,2,none⟩) (by simp)).trans (by simp)
 have c3:w1.cell? ⟨w.heap.size,3,none⟩=some (.int .i64 n):=(HC.out.cell (p:=⟨w.heap.size,3,none⟩) (by simp)).trans (by simp)
 have B1:Below w.heap.size w w1:=below_step (below_alloc HB.out _) HC.out
 clear HC HB
 have mc : ∀ W : World, (method 218 67 (.agg #[.int .i64 n]) "loop.example/milldam/impl.cell").run Tryd.prog W = .ok (83, .agg #[.int .i64 n]) W := fun _ => by kernel_rfl
 have mo : ∀ W : World, (method 218 67 (.agg #[.int .i64 n]) "loop.example/milldam/impl.ok").run Tryd.prog W = .ok (85, .agg #[.int .i64 n]) W := fun _ => by kernel_rfl
 have qc:impl_numReckoning_cell.f n=some (2,0,0,n):=rfl
 refine start_ (n:=14) (S:=fun w'=>w'.cell? ⟨w.heap.size,0,none⟩=some (.int .i64 2)∧w'.cell? ⟨w.heap.size,1,none⟩=some (.int .i64 a)∧w'.cell? ⟨w.heap.size,2,none⟩=some (.int .i64 b)∧w'.cell? ⟨w.heap.size,3,none⟩=some (.int .i64 n)∧Below w.heap.size w w') (ds:=[]) #[X,X,X,X,X,X,X,X,X,X,X,X,X,X] (by kernel_rfl) rfl rfl ⟨c0,c1,c2,c3,(below_drew B1)⟩ (fun hHeld=>?_)
 refine pure_ (i:=0) (N:=some 8) (v:=?_) (a':=?_) #[Y,X,X,X,X,X,X,X,X,X,X,X,X,X] rfl rfl (by kernel_rfl) (fun _ _ _ h=>h) (Or.inl ⟨by rfl,?_⟩) ?_ ?_
 rotate_left
 ·intro w'
  go_simp
  with_reducible rfl
 rotate_left
 ·simp only [Act.put,zp1,zp2,zp3,i64_w,i32_w]
  rfl
 refine pure_ (i:=1) (N:=some 9) (v:=?_) (a':=?_) #[Y,Y,X,X,X,X,X,X,X,X,X,X,X,X] rfl rfl (by kernel_rfl) (fun _ _ _ h=>h) (Or.inl ⟨by rfl,?_⟩) ?_ ?_
 rotate_left
 ·intro w'
  go_simp
  with_reducible rfl
 rotate_left
 ·simp only [Act.put,zp1,zp2,zp3,i64_w,i32_w]
  rfl
 refine pure_ (i:=2) (N:=some 10) (v:=?_) (a':=?_) #[Y,Y,Y,X,X,X,X,X,X,X,X,X,X,X] rfl rfl (by kernel_rfl) (fun _ _ _ h=>h) (Or.inl ⟨by rfl,?_⟩) ?_ ?_
 rotate_left
 ·intro w'
  go_simp
  with_reducible rfl
 rotate_left
 ·simp only [Act.put,zp1,zp2,zp3,i64_w,i32_w]
  rfl
 refine pure_ (i:=3) (N:=some 11) (v:=?_) (a':=?_) #[Y,Y,Y,Y,X,X,X,X,X,X,X,X,X,X] rfl rfl (by kernel_rfl) (fun _ _ _ h=>h) (Or.inl ⟨by rfl,?_⟩) ?_ ?_
 rotate_left
 ·intro w'
  go_simp
  with_reducible rfl
 rotate_left
 ·simp only [Act.put,zp1,zp2,zp3,i64_w,i32_w]
  rfl
 refine take_ (i:=5) (N:=some 13) (v:=?_) (a':=?_) #[Y,Y,Y,Y,X,Y,X,X,X,X,X,X,X,X] rfl rfl (by kernel_rfl) (fun _ _ _ h=>h) (Or.inl ⟨by rfl,?_⟩) hHeld ?_ ?_
 rotate_left
 ·rintro w' ⟨s0,s1,s2,s3,s4⟩
  go_simp
  with_reducible rfl
 rotate_left
 ·simp only [Act.put,zp1,zp2,zp3,i64_w,i32_w]
  rfl
 refine one_ (i:=4) (N:=some 12) #[Y,Y,Y,Y,Y,Y,X,X,X,X,X,X,X,X] rfl rfl (by kernel_rfl) (by decide) (fun K hK=>?_)
 rw [if_pos (by rfl)]
 go_wp2_with (first|(go_at_call 83;refine (impl_numReckoning_cell.calls n 2 0 0 n _ qc).mono ?_;rintro e w' ⟨rfl,hb⟩))
 refine hK.out _ _ ⟨(pw_cell_below hb hHeld.1),(pw_cell_below hb hHeld.2.1),(pw_cell_below hb hHeld.2.2.1),(pw_cell_below hb hHeld.2.2.2.1),(below_step hHeld.2.2.2.2 hb)⟩ (fun hHeld=>?_)
 clear hK K
 refine pure_ (i:=6) (N:=some 14) (v:=?_) (a':=?_) #[Y,Y,Y,Y,Y,Y,Y,X,X,X,X,X,X,X] rfl rfl (by kernel_rfl) (fun _ _ _ h=>h) (Or.inl ⟨by rfl,?_⟩) ?_ ?_
 rotate_left
 ·intro w'
  go_simp
  with_reducible rfl
 rotate_left
 ·simp only [Act.put,zp1,zp2,zp3,i64_w,i32_w]
  rfl
 refine pure_ (i:=7) (N:=some 15) (v:=?_) (a':=?_) #[Y,Y,Y,Y,Y,Y,Y,Y,X,X,X,X,X,X] rfl rfl (by kernel_rfl) (fun _ _ _ h=>h) (Or.inl ⟨by rfl,?_⟩) ?_ ?_
 rotate_left
 ·intro w'
  go_simp
  with_reducible rfl
 rotate_left
 ·simp only [Act.put,zp1,zp2,zp3,i64_w,i32_w]
  rfl
 refine pure_ (i:=8) (N:=some 16) (v:=?_) (a':=?_) #[Y,Y,Y,Y,Y,Y,Y,Y,Y,X,X,X,X,X] rfl rfl (by kernel_rfl) (fun _ _ _ h=>h) (Or.inl ⟨by rfl,?_⟩) ?_ ?_
 rotate_left
 ·intro w'
  go_simp
  with_reducible rfl
 rotate_left
 ·simp only [Act.put,zp1,zp2,zp3,i64_w,i32_w]
  rfl
 refine pure_ (i:=9) (N:=some 17) (v:=undef) (a':=?_) #[Y,Y,Y,Y,Y,Y,Y,Y,Y,Y,X,X,X,X] rfl rfl (by kernel_rfl) (fun _ _ _ h=>h) (Or.inr ⟨by rfl,rfl⟩) ?_ ?_
 rotate_left
 ·simp only [Act.put,zp1,zp2,zp3,i64_w,i32_w]
  rfl
 refine pure_ (i:=10) (N:=some 18) (v:=undef) (a':=?_) #[Y,Y,Y,Y,Y,Y,Y,Y,Y,Y,Y,X,X,X] rfl rfl (by kernel_rfl) (fun _ _ _ h=>h) (Or.inr ⟨by rfl,rfl⟩) ?_ ?_
 rotate_left
 ·simp only [Act.put,zp1,zp2,zp3,i64_w,i32_w]
  rfl
 refine pure_ (i:=11) (N:=some 19) (v:=undef) (a':=?_) #[Y,Y,Y,Y,Y,Y,Y,Y,Y,Y,Y,Y,X,X] rfl rfl (by kernel_rfl) (fun _ _ _ h=>h) (Or.inr ⟨by rfl,rfl⟩) ?_ ?_
 rotate_left
 ·simp only [Act.put,zp1,zp2,zp3,i64_w,i32_w]
  rfl
 refine pure_ (i:=12) (N:=some 20) (v:=?_) (a':=?_) #[Y,Y,Y,Y,Y,Y,Y,Y,Y,Y,Y,Y,Y,X] rfl rfl (by kernel_rfl) (fun _ _ _ h=>h) (Or.inl ⟨by rfl,?_⟩) ?_ ?_
 rotate_left
 ·intro w'
  go_simp
  with_reducible rfl
 rotate_left
 ·simp only [Act.put,zp1,zp2,zp3,i64_w,i32_w]
  rfl
 refine pure_ (i:=13) (N:=some 4) (v:=?_) (a':=?_) #[Y,Y,Y,Y,Y,Y,Y,Y,Y,Y,Y,Y,Y,Y] rfl rfl (by kernel_rfl) (fun _ _ _ h=>h) (Or.inl ⟨by rfl,?_⟩) ?_ ?_
 rotate_left
 ·intro w'
  go_simp
  with_reducible rfl
 rotate_left
 ·simp only [Act.put,zp1,zp2,zp3,i64_w,i32_w]
  rfl
 refine done_ (by kernel_rfl) ?_
 go_wp2
 go_ret
 exact ⟨rfl,hHeld.2.2.2.2⟩
set_option maxHeartbeats 8000000 in
set_option maxRecDepth 100000 in
theorem cellOk_num_b (b n:Int) (wide:Int) (w:World) (hb:((0:Int) == b)=false):Calls Tryd.prog 26 #[.agg #[.int .i64 2,.int .i64 0,.int .i64 b,.int .i64 n],.int .i64 wide] w fun e w'=>e=.returned (.bool false)∧Below w.heap.size w w':=by
 have HB:=Aside0.mk (Below.refl w.heap.size w)
 have RK:=impl_reckoningOf.calls 2 0 b n
 rw [show rkVal 2 0 b n=.iface 67 (.agg #[.int .i64 n]) from rfl] at RK
 go_enter Tryd.func26,Tryd.ntmps26
 go_wp2_with (first|(go_at_call 27;refine (RK _).mono ?_;rintro e w1 ⟨rfl,hb⟩;have HC:=Aside0.mk hb;clear hb))
 clear RK
 have c0:w1.cell? ⟨w.heap.size,0,none⟩=some (.int .i64 2):=(HC.out.cell (p:=⟨w.heap.size,0,none⟩) (by simp)).trans (by simp)
 have c1:w1.cell? ⟨w.heap.size,1,none⟩=some (.int .i64 0):=(HC.out.cell (p:=⟨w.heap.size,1,none⟩) (by simp)).trans (by simp)
 have c2:w1.cell? ⟨w.heap.size,2,none⟩=some (.int .i64 b):=(HC.out.cell (p:=⟨w.heap.size,2,none⟩) (by simp)).trans (by simp)
 have c3:w1.cell? ⟨w.heap.size,3,none⟩=some (.int .i64 n):=(HC.out.cell (p:=⟨w.heap.size,3,none⟩) (by simp)).trans (by simp)
 have B1:Below w.heap.size w w1:=below_step (below_alloc HB.out _) HC.out
 clear HC HB
 have mc : ∀ W : World, (method 218 67 (.agg #[.int .i64 n]) "loop.example/milldam/impl.cell").run Tryd.prog W = .ok (83, .agg #[.int .i64 n]) W := fun _ => by kernel_rfl
 have mo : ∀ W : World, (method 218 67 (.agg #[.int .i64 n]) "loop.example/milldam/impl.ok").run Tryd.prog W = .ok (85, .agg #[.int .i64 n]) W := fun _ => by kernel_rfl
 have qc:impl_numReckoning_cell.f n=some (2,0,0,n):=rfl
 refine start_ (n:=14) (S:=fun w'=>w'.cell? ⟨w.heap.size,0,none⟩=some (.int .i64 2)∧w'.cell? ⟨w.heap.size,1,none⟩=some (.int .i64 0)∧w'.cell? ⟨w.heap.size,2,none⟩=some (.int .i64 b)∧w'.cell? ⟨w.heap.size,3,none⟩=some (.int .i64 n)∧Below w.heap.size w w') (ds:=[]) #[X,X,X,X,X,X,X,X,X,X,X,X,X,X] (by kernel_rfl) rfl rfl ⟨c0,c1,c2,c3,(below_drew B1)⟩ (fun hHeld=>?_)
 refine pure_ (i:=0) (N:=some 8) (v:=?_) (a':=?_) #[Y,X,X,X,X,X,X,X,X,X,X,X,X,X] rfl rfl (by kernel_rfl) (fun _ _ _ h=>h) (Or.inl ⟨by rfl,?_⟩) ?_ ?_
 rotate_left
 ·intro w'
  go_simp
  with_reducible rfl
 rotate_left
 ·simp only [Act.put,zp1,zp2,zp3,i64_w,i32_w]
  rfl
 refine pure_ (i:=1) (N:=some 9) (v:=?_) (a':=?_) #[Y,Y,X,X,X,X,X,X,X,X,X,X,X,X] rfl rfl (by kernel_rfl) (fun _ _ _ h=>h) (Or.inl ⟨by rfl,?_⟩) ?_ ?_
 rotate_left
 ·intro w'
  go_simp
  with_reducible rfl
 rotate_left
 ·simp only [Act.put,zp1,zp2,zp3,i64_w,i32_w]
  rfl
 refine pure_ (i:=2) (N:=some 10) (v:=?_) (a':=?_) #[Y,Y,Y,X,X,X,X,X,X,X,X,X,X,X] rfl rfl (by kernel_rfl) (fun _ _ _ h=>h) (Or.inl ⟨by rfl,?_⟩) ?_ ?_
 rotate_left
 ·intro w'
  go_simp
  with_reducible rfl
 rotate_left
 ·simp only [Act.put,zp1,zp2,zp3,i64_w,i32_w]
  rfl
 refine pure_ (i:=3) (N:=some 11) (v:=?_) (a':=?_) #[Y,Y,Y,Y,X,X,X,X,X,X,X,X,X,X] rfl rfl (by kernel_rfl) (fun _ _ _ h=>h) (Or.inl ⟨by rfl,?_⟩) ?_ ?_
 rotate_left
 ·intro w'
  go_simp
  with_reducible rfl
 rotate_left
 ·simp only [Act.put,zp1,zp2,zp3,i64_w,i32_w]
  rfl
 refine take_ (i:=5) (N:=some 13) (v:=?_) (a':=?_) #[Y,Y,Y,Y,X,Y,X,X,X,X,X,X,X,X] rfl rfl (by kernel_rfl) (fun _ _ _ h=>h) (Or.inl ⟨by rfl,?_⟩) hHeld ?_ ?_
 rotate_left
 ·rintro w' ⟨s0,s1,s2,s3,s4⟩
  go_simp
  with_reducible rfl
 rotate_left
 ·simp only [Act.put,zp1,zp2,zp3,i64_w,i32_w]
  rfl
 refine one_ (i:=4) (N:=some 12) #[Y,Y,Y,Y,Y,Y,X,X,X,X,X,X,X,X] rfl rfl (by kernel_rfl) (by decide) (fun K hK=>?_)
 rw [if_pos (by rfl)]
 go_wp2_with (first|(go_at_call 83;refine (impl_numReckoning_cell.calls n 2 0 0 n _ qc).mono ?_;rintro e w' ⟨rfl,hb⟩))
 refine hK.out _ _ ⟨(pw_cell_below hb hHeld.1),(pw_cell_below hb hHeld.2.1),(pw_cell_below hb hHeld.2.2.1),(pw_cell_below hb hHeld.2.2.2.1),(below_step hHeld.2.2.2.2 hb)⟩ (fun hHeld=>?_)
 clear hK K
 refine pure_ (i:=6) (N:=some 14) (v:=?_) (a':=?_) #[Y,Y,Y,Y,Y,Y,Y,X,X,X,X,X,X,X] rfl rfl (by kernel_rfl) (fun _ _ _ h=>h) (Or.inl ⟨by rfl,?_⟩) ?_ ?_
 rotate_left
 ·intro w'
  go_simp
  with_reducible rfl
 rotate_left
 ·simp only [Act.put,zp1,zp2,zp3,i64_w,i32_w]
  rfl
 refine pure_ (i:=7) (N:=some 15) (v:=?_) (a':=?_) #[Y,Y,Y,Y,Y,Y,Y,Y,X,X,X,X,X,X] rfl rfl (by kernel_rfl) (fun _ _ _ h=>h) (Or.inl ⟨by rfl,?_⟩) ?_ ?_
 rotate_left
 ·intro w'
  go_simp
  with_reducible rfl
 rotate_left
 ·simp only [Act.put,zp1,zp2,zp3,i64_w,i32_w]
  rfl
 refine pure_ (i:=8) (N:=some 16) (v:=?_) (a':=?_) #[Y,Y,Y,Y,Y,Y,Y,Y,Y,X,X,X,X,X] rfl rfl (by kernel_rfl) (fun _ _ _ h=>h) (Or.inl ⟨by rfl,?_⟩) ?_ ?_
 rotate_left
 ·intro w'
  go_simp
  with_reducible rfl
 rotate_left
 ·simp only [Act.put,zp1,zp2,zp3,i64_w,i32_w]
  rfl
 refine pure_ (i:=9) (N:=some 17) (v:=undef) (a':=?_) #[Y,Y,Y,Y,Y,Y,Y,Y,Y,Y,X,X,X,X] rfl rfl (by kernel_rfl) (fun _ _ _ h=>h) (Or.inr ⟨by rfl,rfl⟩) ?_ ?_
 rotate_left
 ·simp only [Act.put,zp1,zp2,zp3,i64_w,i32_w]
  rfl
 refine pure_ (i:=10) (N:=some 18) (v:=undef) (a':=?_) #[Y,Y,Y,Y,Y,Y,Y,Y,Y,Y,Y,X,X,X] rfl rfl (by kernel_rfl) (fun _ _ _ h=>h) (Or.inr ⟨by rfl,rfl⟩) ?_ ?_
 rotate_left
 ·simp only [Act.put,zp1,zp2,zp3,i64_w,i32_w]
  rfl
 refine pure_ (i:=11) (N:=some 19) (v:=undef) (a':=?_) #[Y,Y,Y,Y,Y,Y,Y,Y,Y,Y,Y,Y,X,X] rfl rfl (by kernel_rfl) (fun _ _ _ h=>h) (Or.inr ⟨by rfl,rfl⟩) ?_ ?_
 rotate_left
 ·simp only [Act.put,zp1,zp2,zp3,i64_w,i32_w]
  rfl
 refine pure_ (i:=12) (N:=some 20) (v:=?_) (a':=?_) #[Y,Y,Y,Y,Y,Y,Y,Y,Y,Y,Y,Y,Y,X] rfl rfl (by kernel_rfl) (fun _ _ _ h=>h) (Or.inl ⟨by rfl,?_⟩) ?_ ?_
 rotate_left
 ·intro w'
  go_simp
  with_reducible rfl
 rotate_left
 ·simp only [Act.put,zp1,zp2,zp3,i64_w,i32_w]
  rfl
 refine pure_ (i:=13) (N:=some 4) (v:=?_) (a':=?_) #[Y,Y,Y,Y,Y,Y,Y,Y,Y,Y,Y,Y,Y,Y] rfl rfl (by kernel_rfl) (fun _ _ _ h=>h) (Or.inl ⟨by rfl,?_⟩) ?_ ?_
 rotate_left
 ·intro w'
  go_simp
  with_reducible rfl
 rotate_left
 ·simp only [Act.put,zp1,zp2,zp3,i64_w,i32_w]
  rfl
 refine done_ (by kernel_rfl) ?_
 go_wp2
 go_ret
 exact ⟨rfl,hHeld.2.2.2.2⟩
set_option maxHeartbeats 8000000 in
set_option maxRecDepth 100000 in
theorem cellOk_sum (a b:Int) (wide:Int) (r:Bool) (w:World) (h:impl_sumReckoning_ok.f a b wide=some r):Calls Tryd.prog 26 #[.agg #[.int .i64 3,.int .i64 a,.int .i64 b,.int .i64 0],.int .i64 wide] w fun e w'=>e=.returned (.bool r)∧Below w.heap.size w w':=by
 have HB:=Aside0.mk (Below.refl w.heap.size w)
 have A:=Aside0.mk h
 clear h
 have RK:=impl_reckoningOf.calls 3 a b 0
 rw [show rkVal 3 a b 0=.iface 69 (.agg #[.int .i64 a,.int .i64 b]) from rfl] at RK
 go_enter Tryd.func26,Tryd.ntmps26
 go_wp2_with (first|(go_at_call 27;refine (RK _).mono ?_;rintro e w1 ⟨rfl,hb⟩;have HC:=Aside0.mk hb;clear hb))
 clear RK
 have c0:w1.cell? ⟨w.heap.size,0,none⟩=some (.int .i64 3):=(HC.out.cell (p:=⟨w.heap.size,0,none⟩) (by simp)).trans (by simp)
 have c1:w1.cell? ⟨w.heap.size,1,none⟩=some (.int .i64 a):=(HC.out.cell (p:=⟨w.heap.size,1,none⟩) (by simp)).trans (by simp)
 have c2:w1.cell? ⟨w.heap.size,2,none⟩=some (.int .i64 b):=(HC.out.cell (p:=⟨w.heap.size,2,none⟩) (by simp)).trans (by simp)
 have c3:w1.cell? ⟨w.heap.size,3,none⟩=some (.int .i64 0):=(HC.out.cell (p:=⟨w.heap.size,3,none⟩) (by simp)).trans (by simp)
 have B1:Below w.heap.size w w1:=below_step (below_alloc HB.out _) HC.out
 clear HC HB
 have mc : ∀ W : World, (method 218 69 (.agg #[.int .i64 a, .int .i64 b]) "loop.example/milldam/impl.cell").run Tryd.prog W = .ok (88, .agg #[.int .i64 a, .int .i64 b]) W := fun _ => by kernel_rfl
 have mo : ∀ W : World, (method 218 69 (.agg #[.int .i64 a, .int .i64 b]) "loop.example/milldam/impl.ok").run Tryd.prog W = .ok (90, .agg #[.int .i64 a, .int .i64 b]) W := fun _ => by kernel_rfl
 have qc:impl_sumReckoning_cell.f a b=some (3,a,b,0):=rfl
 refine start_ (n:=14) (S:=fun w'=>w'.cell? ⟨w.heap.size,0,none⟩=some (.int .i64 3)∧w'.cell? ⟨w.heap.size,1,none⟩=some (.int .i64 a)∧w'.cell? ⟨w.heap.size,2,none⟩=some (.int .i64 b)∧w'.cell? ⟨w.heap.size,3,none⟩=some (.int .i64 0)∧Below w.heap.size w w') (ds:=[]) #[X,X,X,X,X,X,X,X,X,X,X,X,X,X] (by kernel_rfl) rfl rfl ⟨c0,c1,c2,c3,(below_drew B1)⟩ (fun hHeld=>?_)
 refine pure_ (i:=0) (N:=some 8) (v:=?_) (a':=?_) #[Y,X,X,X,X,X,X,X,X,X,X,X,X,X] rfl rfl (by kernel_rfl) (fun _ _ _ h=>h) (Or.inl ⟨by rfl,?_⟩) ?_ ?_
 rotate_left
 ·intro w'
  go_simp
  with_reducible rfl
 rotate_left
 ·simp only [Act.put,zp1,zp2,zp3,i64_w,i32_w]
  rfl
 refine pure_ (i:=1) (N:=some 9) (v:=?_) (a':=?_) #[Y,Y,X,X,X,X,X,X,X,X,X,X,X,X] rfl rfl (by kernel_rfl) (fun _ _ _ h=>h) (Or.inl ⟨by rfl,?_⟩) ?_ ?_
 rotate_left
 ·intro w'
  go_simp
  with_reducible rfl
 rotate_left
 ·simp only [Act.put,zp1,zp2,zp3,i64_w,i32_w]
  rfl
 refine pure_ (i:=2) (N:=some 10) (v:=?_) (a':=?_) #[Y,Y,Y,X,X,X,X,X,X,X,X,X,X,X] rfl rfl (by kernel_rfl) (fun _ _ _ h=>h) (Or.inl ⟨by rfl,?_⟩) ?_ ?_
 rotate_left
 ·intro w'
  go_simp
  with_reducible rfl
 rotate_left
 ·simp only [Act.put,zp1,zp2,zp3,i64_w,i32_w]
  rfl
 refine pure_ (i:=3) (N:=some 11) (v:=?_) (a':=?_) #[Y,Y,Y,Y,X,X,X,X,X,X,X,X,X,X] rfl rfl (by kernel_rfl) (fun _ _ _ h=>h) (Or.inl ⟨by rfl,?_⟩) ?_ ?_
 rotate_left
 ·intro w'
  go_simp
  with_reducible rfl
 rotate_left
 ·simp only [Act.put,zp1,zp2,zp3,i64_w,i32_w]
  rfl
 refine take_ (i:=5) (N:=some 13) (v:=?_) (a':=?_) #[Y,Y,Y,Y,X,Y,X,X,X,X,X,X,X,X] rfl rfl (by kernel_rfl) (fun _ _ _ h=>h) (Or.inl ⟨by rfl,?_⟩) hHeld ?_ ?_
 rotate_left
 ·rintro w' ⟨s0,s1,s2,s3,s4⟩
  go_simp
  with_reducible rfl
 rotate_left
 ·simp only [Act.put,zp1,zp2,zp3,i64_w,i32_w]
  rfl
 refine one_ (i:=4) (N:=some 12) #[Y,Y,Y,Y,Y,Y,X,X,X,X,X,X,X,X] rfl rfl (by kernel_rfl) (by decide) (fun K hK=>?_)
 rw [if_pos (by rfl)]
 go_wp2_with (first|(go_at_call 88;refine (impl_sumReckoning_cell.calls a b 3 a b 0 _ qc).mono ?_;rintro e w' ⟨rfl,hb⟩))
 refine hK.out _ _ ⟨(pw_cell_below hb hHeld.1),(pw_cell_below hb hHeld.2.1),(pw_cell_below hb hHeld.2.2.1),(pw_cell_below hb hHeld.2.2.2.1),(below_step hHeld.2.2.2.2 hb)⟩ (fun hHeld=>?_)
 clear hK K
 refine pure_ (i:=6) (N:=some 14) (v:=?_) (a':=?_) #[Y,Y,Y,Y,Y,Y,Y,X,X,X,X,X,X,X] rfl rfl (by kernel_rfl) (fun _ _ _ h=>h) (Or.inl ⟨by rfl,?_⟩) ?_ ?_
 rotate_left
 ·intro w'
  go_simp
  with_reducible rfl
 rotate_left
 ·simp only [Act.put,zp1,zp2,zp3,i64_w,i32_w]
  rfl
 refine pure_ (i:=7) (N:=some 15) (v:=?_) (a':=?_) #[Y,Y,Y,Y,Y,Y,Y,Y,X,X,X,X,X,X] rfl rfl (by kernel_rfl) (fun _ _ _ h=>h) (Or.inl ⟨by rfl,?_⟩) ?_ ?_
 rotate_left
 ·intro w'
  go_simp
  with_reducible rfl
 rotate_left
 ·simp only [Act.put,zp1,zp2,zp3,i64_w,i32_w]
  rfl
 refine pure_ (i:=8) (N:=some 16) (v:=?_) (a':=?_) #[Y,Y,Y,Y,Y,Y,Y,Y,Y,X,X,X,X,X] rfl rfl (by kernel_rfl) (fun _ _ _ h=>h) (Or.inl ⟨by rfl,?_⟩) ?_ ?_
 rotate_left
 ·intro w'
  go_simp
  with_reducible rfl
 rotate_left
 ·simp only [Act.put,zp1,zp2,zp3,i64_w,i32_w]
  rfl
 refine pure_ (i:=9) (N:=some 17) (v:=?_) (a':=?_) #[Y,Y,Y,Y,Y,Y,Y,Y,Y,Y,X,X,X,X] rfl rfl (by kernel_rfl) (fun _ _ _ h=>h) (Or.inl ⟨by rfl,?_⟩) ?_ ?_
 rotate_left
 ·intro w'
  go_simp
  with_reducible rfl
 rotate_left
 ·simp only [Act.put,zp1,zp2,zp3,i64_w,i32_w]
  rfl
 refine pure_ (i:=10) (N:=some 18) (v:=?_) (a':=?_) #[Y,Y,Y,Y,Y,Y,Y,Y,Y,Y,Y,X,X,X] rfl rfl (by kernel_rfl) (fun _ _ _ h=>h) (Or.inl ⟨by rfl,?_⟩) ?_ ?_
 rotate_left
 ·intro w'
  go_simp
  with_reducible rfl
 rotate_left
 ·simp only [Act.put,zp1,zp2,zp3,i64_w,i32_w]
  rfl
 refine one_ (i:=11) (N:=some 19) #[Y,Y,Y,Y,Y,Y,Y,Y,Y,Y,Y,Y,X,X] rfl rfl (by kernel_rfl) (by decide) (fun K hK=>?_)
 rw [if_pos (by rfl)]
 go_wp2_with (first|(go_at_call 90;refine (impl_sumReckoning_ok.calls a b wide r _ A.out).mono ?_;rintro e w' ⟨rfl,hb⟩))
 refine hK.out _ _ ⟨(pw_cell_below hb hHeld.1),(pw_cell_below hb hHeld.2.1),(pw_cell_below hb hHeld.2.2.1),(pw_cell_below hb hHeld.2.2.2.1),(below_step hHeld.2.2.2.2 hb)⟩ (fun hHeld=>?_)
 clear hK K
 refine pure_ (i:=12) (N:=some 20) (v:=?_) (a':=?_) #[Y,Y,Y,Y,Y,Y,Y,Y,Y,Y,Y,Y,Y,X] rfl rfl (by kernel_rfl) (fun _ _ _ h=>h) (Or.inl ⟨by rfl,?_⟩) ?_ ?_
 rotate_left
 ·intro w'
  go_simp
  with_reducible rfl
 rotate_left
 ·simp only [Act.put,zp1,zp2,zp3,i64_w,i32_w]
  rfl
 refine pure_ (i:=13) (N:=some 4) (v:=?_) (a':=?_) #[Y,Y,Y,Y,Y,Y,Y,Y,Y,Y,Y,Y,Y,Y] rfl rfl (by kernel_rfl) (fun _ _ _ h=>h) (Or.inl ⟨by rfl,?_⟩) ?_ ?_
 rotate_left
 ·intro w'
  go_simp
  with_reducible rfl
 rotate_left
 ·simp only [Act.put,zp1,zp2,zp3,i64_w,i32_w]
  rfl
 refine done_ (by kernel_rfl) ?_
 go_wp2
 go_ret
 exact ⟨rfl,hHeld.2.2.2.2⟩
set_option maxHeartbeats 8000000 in
set_option maxRecDepth 100000 in
theorem cellOk_sum_n (a b n:Int) (wide:Int) (w:World) (hn:((0:Int) == n)=false):Calls Tryd.prog 26 #[.agg #[.int .i64 3,.int .i64 a,.int .i64 b,.int .i64 n],.int .i64 wide] w fun e w'=>e=.returned (.bool false)∧Below w.heap.size w w':=by
 have HB:=Aside0.mk (Below.refl w.heap.size w)
 have RK:=impl_reckoningOf.calls 3 a b n
 rw [show rkVal 3 a b n=.iface 69 (.agg #[.int .i64 a,.int .i64 b]) from rfl] at RK
 go_enter Tryd.func26,Tryd.ntmps26
 go_wp2_with (first|(go_at_call 27;refine (RK _).mono ?_;rintro e w1 ⟨rfl,hb⟩;have HC:=Aside0.mk hb;clear hb))
 clear RK
 have c0:w1.cell? ⟨w.heap.size,0,none⟩=some (.int .i64 3):=(HC.out.cell (p:=⟨w.heap.size,0,none⟩) (by simp)).trans (by simp)
 have c1:w1.cell? ⟨w.heap.size,1,none⟩=some (.int .i64 a):=(HC.out.cell (p:=⟨w.heap.size,1,none⟩) (by simp)).trans (by simp)
 have c2:w1.cell? ⟨w.heap.size,2,none⟩=some (.int .i64 b):=(HC.out.cell (p:=⟨w.heap.size,2,none⟩) (by simp)).trans (by simp)
 have c3:w1.cell? ⟨w.heap.size,3,none⟩=some (.int .i64 n):=(HC.out.cell (p:=⟨w.heap.size,3,none⟩) (by simp)).trans (by simp)
 have B1:Below w.heap.size w w1:=below_step (below_alloc HB.out _) HC.out
 clear HC HB
 have mc : ∀ W : World, (method 218 69 (.agg #[.int .i64 a, .int .i64 b]) "loop.example/milldam/impl.cell").run Tryd.prog W = .ok (88, .agg #[.int .i64 a, .int .i64 b]) W := fun _ => by kernel_rfl
 have mo : ∀ W : World, (method 218 69 (.agg #[.int .i64 a, .int .i64 b]) "loop.example/milldam/impl.ok").run Tryd.prog W = .ok (90, .agg #[.int .i64 a, .int .i64 b]) W := fun _ => by kernel_rfl
 have qc:impl_sumReckoning_cell.f a b=some (3,a,b,0):=rfl
 refine start_ (n:=14) (S:=fun w'=>w'.cell? ⟨w.heap.size,0,none⟩=some (.int .i64 3)∧w'.cell? ⟨w.heap.size,1,none⟩=some (.int .i64 a)∧w'.cell? ⟨w.heap.size,2,none⟩=some (.int .i64 b)∧w'.cell? ⟨w.heap.size,3,none⟩=some (.int .i64 n)∧Below w.heap.size w w') (ds:=[]) #[X,X,X,X,X,X,X,X,X,X,X,X,X,X] (by kernel_rfl) rfl rfl ⟨c0,c1,c2,c3,(below_drew B1)⟩ (fun hHeld=>?_)
 refine pure_ (i:=0) (N:=some 8) (v:=?_) (a':=?_) #[Y,X,X,X,X,X,X,X,X,X,X,X,X,X] rfl rfl (by kernel_rfl) (fun _ _ _ h=>h) (Or.inl ⟨by rfl,?_⟩) ?_ ?_
 rotate_left
 ·intro w'
  go_simp
  with_reducible rfl
 rotate_left
 ·simp only [Act.put,zp1,zp2,zp3,i64_w,i32_w]
  rfl
 refine pure_ (i:=1) (N:=some 9) (v:=?_) (a':=?_) #[Y,Y,X,X,X,X,X,X,X,X,X,X,X,X] rfl rfl (by kernel_rfl) (fun _ _ _ h=>h) (Or.inl ⟨by rfl,?_⟩) ?_ ?_
 rotate_left
 ·intro w'
  go_simp
  with_reducible rfl
 rotate_left
 ·simp only [Act.put,zp1,zp2,zp3,i64_w,i32_w]
  rfl
 refine pure_ (i:=2) (N:=some 10) (v:=?_) (a':=?_) #[Y,Y,Y,X,X,X,X,X,X,X,X,X,X,X] rfl rfl (by kernel_rfl) (fun _ _ _ h=>h) (Or.inl ⟨by rfl,?_⟩) ?_ ?_
 rotate_left
 ·intro w'
  go_simp
  with_reducible rfl
 rotate_left
 ·simp only [Act.put,zp1,zp2,zp3,i64_w,i32_w]
  rfl
 refine pure_ (i:=3) (N:=some 11) (v:=?_) (a':=?_) #[Y,Y,Y,Y,X,X,X,X,X,X,X,X,X,X] rfl rfl (by kernel_rfl) (fun _ _ _ h=>h) (Or.inl ⟨by rfl,?_⟩) ?_ ?_
 rotate_left
 ·intro w'
  go_simp
  with_reducible rfl
 rotate_left
 ·simp only [Act.put,zp1,zp2,zp3,i64_w,i32_w]
  rfl
 refine take_ (i:=5) (N:=some 13) (v:=?_) (a':=?_) #[Y,Y,Y,Y,X,Y,X,X,X,X,X,X,X,X] rfl rfl (by kernel_rfl) (fun _ _ _ h=>h) (Or.inl ⟨by rfl,?_⟩) hHeld ?_ ?_
 rotate_left
 ·rintro w' ⟨s0,s1,s2,s3,s4⟩
  go_simp
  with_reducible rfl
 rotate_left
 ·simp only [Act.put,zp1,zp2,zp3,i64_w,i32_w]
  rfl
 refine one_ (i:=4) (N:=some 12) #[Y,Y,Y,Y,Y,Y,X,X,X,X,X,X,X,X] rfl rfl (by kernel_rfl) (by decide) (fun K hK=>?_)
 rw [if_pos (by rfl)]
 go_wp2_with (first|(go_at_call 88;refine (impl_sumReckoning_cell.calls a b 3 a b 0 _ qc).mono ?_;rintro e w' ⟨rfl,hb⟩))
 refine hK.out _ _ ⟨(pw_cell_below hb hHeld.1),(pw_cell_below hb hHeld.2.1),(pw_cell_below hb hHeld.2.2.1),(pw_cell_below hb hHeld.2.2.2.1),(below_step hHeld.2.2.2.2 hb)⟩ (fun hHeld=>?_)
 clear hK K
 refine pure_ (i:=6) (N:=some 14) (v:=?_) (a':=?_) #[Y,Y,Y,Y,Y,Y,Y,X,X,X,X,X,X,X] rfl rfl (by kernel_rfl) (fun _ _ _ h=>h) (Or.inl ⟨by rfl,?_⟩) ?_ ?_
 rotate_left
 ·intro w'
  go_simp
  with_reducible rfl
 rotate_left
 ·simp only [Act.put,zp1,zp2,zp3,i64_w,i32_w]
  rfl
 refine pure_ (i:=7) (N:=some 15) (v:=?_) (a':=?_) #[Y,Y,Y,Y,Y,Y,Y,Y,X,X,X,X,X,X] rfl rfl (by kernel_rfl) (fun _ _ _ h=>h) (Or.inl ⟨by rfl,?_⟩) ?_ ?_
 rotate_left
 ·intro w'
  go_simp
  with_reducible rfl
 rotate_left
 ·simp only [Act.put,zp1,zp2,zp3,i64_w,i32_w]
  rfl
 refine pure_ (i:=8) (N:=some 16) (v:=?_) (a':=?_) #[Y,Y,Y,Y,Y,Y,Y,Y,Y,X,X,X,X,X] rfl rfl (by kernel_rfl) (fun _ _ _ h=>h) (Or.inl ⟨by rfl,?_⟩) ?_ ?_
 rotate_left
 ·intro w'
  go_simp
  with_reducible rfl
 rotate_left
 ·simp only [Act.put,zp1,zp2,zp3,i64_w,i32_w]
  rfl
 refine pure_ (i:=9) (N:=some 17) (v:=undef) (a':=?_) #[Y,Y,Y,Y,Y,Y,Y,Y,Y,Y,X,X,X,X] rfl rfl (by kernel_rfl) (fun _ _ _ h=>h) (Or.inr ⟨by rfl,rfl⟩) ?_ ?_
 rotate_left
 ·simp only [Act.put,zp1,zp2,zp3,i64_w,i32_w]
  rfl
 refine pure_ (i:=10) (N:=some 18) (v:=undef) (a':=?_) #[Y,Y,Y,Y,Y,Y,Y,Y,Y,Y,Y,X,X,X] rfl rfl (by kernel_rfl) (fun _ _ _ h=>h) (Or.inr ⟨by rfl,rfl⟩) ?_ ?_
 rotate_left
 ·simp only [Act.put,zp1,zp2,zp3,i64_w,i32_w]
  rfl
 refine pure_ (i:=11) (N:=some 19) (v:=undef) (a':=?_) #[Y,Y,Y,Y,Y,Y,Y,Y,Y,Y,Y,Y,X,X] rfl rfl (by kernel_rfl) (fun _ _ _ h=>h) (Or.inr ⟨by rfl,rfl⟩) ?_ ?_
 rotate_left
 ·simp only [Act.put,zp1,zp2,zp3,i64_w,i32_w]
  rfl
 refine pure_ (i:=12) (N:=some 20) (v:=?_) (a':=?_) #[Y,Y,Y,Y,Y,Y,Y,Y,Y,Y,Y,Y,Y,X] rfl rfl (by kernel_rfl) (fun _ _ _ h=>h) (Or.inl ⟨by rfl,?_⟩) ?_ ?_
 rotate_left
 ·intro w'
  go_simp
  with_reducible rfl
 rotate_left
 ·simp only [Act.put,zp1,zp2,zp3,i64_w,i32_w]
  rfl
 refine pure_ (i:=13) (N:=some 4) (v:=?_) (a':=?_) #[Y,Y,Y,Y,Y,Y,Y,Y,Y,Y,Y,Y,Y,Y] rfl rfl (by kernel_rfl) (fun _ _ _ h=>h) (Or.inl ⟨by rfl,?_⟩) ?_ ?_
 rotate_left
 ·intro w'
  go_simp
  with_reducible rfl
 rotate_left
 ·simp only [Act.put,zp1,zp2,zp3,i64_w,i32_w]
  rfl
 refine done_ (by kernel_rfl) ?_
 go_wp2
 go_ret
 exact ⟨rfl,hHeld.2.2.2.2⟩
set_option maxHeartbeats 8000000 in
set_option maxRecDepth 100000 in
theorem cellOk_none (k a b n:Int) (wide:Int) (w:World) (h1:k≠1) (h2:k≠2) (h3:k≠3):Calls Tryd.prog 26 #[.agg #[.int .i64 k,.int .i64 a,.int .i64 b,.int .i64 n],.int .i64 wide] w fun e w'=>e=.returned (.bool false)∧Below w.heap.size w w':=by
 have HB:=Aside0.mk (Below.refl w.heap.size w)
 have RK:=impl_reckoningOf.calls k a b n
 unfold rkVal at RK
 rw [if_neg h1,if_neg h2,if_neg h3] at RK
 clear h1 h2 h3
 go_enter Tryd.func26,Tryd.ntmps26
 go_wp2_with (first|(go_at_call 27;refine (RK _).mono ?_;rintro e w1 ⟨rfl,hb⟩;have HC:=Aside0.mk hb;clear hb))
 clear RK
 have B1:Below w.heap.size w w1:=below_step (below_alloc HB.out _) HC.out
 clear HC HB
 refine start_ (n:=14) (S:=fun w'=>Below w.heap.size w w') (ds:=[]) #[X,X,X,X,X,X,X,X,X,X,X,X,X,X] (by kernel_rfl) rfl rfl ((below_drew B1)) (fun hHeld=>?_)
 refine pure_ (i:=0) (N:=some 8) (v:=?_) (a':=?_) #[Y,X,X,X,X,X,X,X,X,X,X,X,X,X] rfl rfl (by kernel_rfl) (fun _ _ _ h=>h) (Or.inl ⟨by rfl,?_⟩) ?_ ?_
 rotate_left
 ·intro w'
  go_simp
  with_reducible rfl
 rotate_left
 ·simp only [Act.put,zp1,zp2,zp3,i64_w,i32_w]
  rfl
 refine pure_ (i:=1) (N:=some 9) (v:=?_) (a':=?_) #[Y,Y,X,X,X,X,X,X,X,X,X,X,X,X] rfl rfl (by kernel_rfl) (fun _ _ _ h=>h) (Or.inl ⟨by rfl,?_⟩) ?_ ?_
 rotate_left
 ·intro w'
  go_simp
  with_reducible rfl
 rotate_left
 ·simp only [Act.put,zp1,zp2,zp3,i64_w,i32_w]
  rfl
 refine pure_ (i:=2) (N:=some 10) (v:=?_) (a':=?_) #[Y,Y,Y,X,X,X,X,X,X,X,X,X,X,X] rfl rfl (by kernel_rfl) (fun _ _ _ h=>h) (Or.inl ⟨by rfl,?_⟩) ?_ ?_
 rotate_left
 ·intro w'
  go_simp
  with_reducible rfl
 rotate_left
 ·simp only [Act.put,zp1,zp2,zp3,i64_w,i32_w]
  rfl
 refine pure_ (i:=3) (N:=some 11) (v:=undef) (a':=?_) #[Y,Y,Y,Y,X,X,X,X,X,X,X,X,X,X] rfl rfl (by kernel_rfl) (fun _ _ _ h=>h) (Or.inr ⟨by rfl,rfl⟩) ?_ ?_
 rotate_left
 ·simp only [Act.put,zp1,zp2,zp3,i64_w,i32_w]
  rfl
 refine pure_ (i:=4) (N:=some 12) (v:=undef) (a':=?_) #[Y,Y,Y,Y,Y,X,X,X,X,X,X,X,X,X] rfl rfl (by kernel_rfl) (fun _ _ _ h=>h) (Or.inr ⟨by rfl,rfl⟩) ?_ ?_
 rotate_left
 ·simp only [Act.put,zp1,zp2,zp3,i64_w,i32_w]
  rfl
 refine pure_ (i:=5) (N:=some 13) (v:=undef) (a':=?_) #[Y,Y,Y,Y,Y,Y,X,X,X,X,X,X,X,X] rfl rfl (by kernel_rfl) (fun _ _ _ h=>h) (Or.inr ⟨by rfl,rfl⟩) ?_ ?_
 rotate_left
 ·simp only [Act.put,zp1,zp2,zp3,i64_w,i32_w]
  rfl
 refine pure_ (i:=6) (N:=some 14) (v:=undef) (a':=?_) #[Y,Y,Y,Y,Y,Y,Y,X,X,X,X,X,X,X] rfl rfl (by kernel_rfl) (fun _ _ _ h=>h) (Or.inr ⟨by rfl,rfl⟩) ?_ ?_
 rotate_left
 ·simp only [Act.put,zp1,zp2,zp3,i64_w,i32_w]
  rfl
 refine pure_ (i:=7) (N:=some 15) (v:=?_) (a':=?_) #[Y,Y,Y,Y,Y,Y,Y,Y,X,X,X,X,X,X] rfl rfl (by kernel_rfl) (fun _ _ _ h=>h) (Or.inl ⟨by rfl,?_⟩) ?_ ?_
 rotate_left
 ·intro w'
  go_simp
  with_reducible rfl
 rotate_left
 ·simp only [Act.put,zp1,zp2,zp3,i64_w,i32_w]
  rfl
 refine pure_ (i:=8) (N:=some 16) (v:=?_) (a':=?_) #[Y,Y,Y,Y,Y,Y,Y,Y,Y,X,X,X,X,X] rfl rfl (by kernel_rfl) (fun _ _ _ h=>h) (Or.inl ⟨by rfl,?_⟩) ?_ ?_
 rotate_left
 ·intro w'
  go_simp
  with_reducible rfl
 rotate_left
 ·simp only [Act.put,zp1,zp2,zp3,i64_w,i32_w]
  rfl
 refine pure_ (i:=9) (N:=some 17) (v:=undef) (a':=?_) #[Y,Y,Y,Y,Y,Y,Y,Y,Y,Y,X,X,X,X] rfl rfl (by kernel_rfl) (fun _ _ _ h=>h) (Or.inr ⟨by rfl,rfl⟩) ?_ ?_
 rotate_left
 ·simp only [Act.put,zp1,zp2,zp3,i64_w,i32_w]
  rfl
 refine pure_ (i:=10) (N:=some 18) (v:=undef) (a':=?_) #[Y,Y,Y,Y,Y,Y,Y,Y,Y,Y,Y,X,X,X] rfl rfl (by kernel_rfl) (fun _ _ _ h=>h) (Or.inr ⟨by rfl,rfl⟩) ?_ ?_
 rotate_left
 ·simp only [Act.put,zp1,zp2,zp3,i64_w,i32_w]
  rfl
 refine pure_ (i:=11) (N:=some 19) (v:=undef) (a':=?_) #[Y,Y,Y,Y,Y,Y,Y,Y,Y,Y,Y,Y,X,X] rfl rfl (by kernel_rfl) (fun _ _ _ h=>h) (Or.inr ⟨by rfl,rfl⟩) ?_ ?_
 rotate_left
 ·simp only [Act.put,zp1,zp2,zp3,i64_w,i32_w]
  rfl
 refine pure_ (i:=12) (N:=some 20) (v:=?_) (a':=?_) #[Y,Y,Y,Y,Y,Y,Y,Y,Y,Y,Y,Y,Y,X] rfl rfl (by kernel_rfl) (fun _ _ _ h=>h) (Or.inl ⟨by rfl,?_⟩) ?_ ?_
 rotate_left
 ·intro w'
  go_simp
  with_reducible rfl
 rotate_left
 ·simp only [Act.put,zp1,zp2,zp3,i64_w,i32_w]
  rfl
 refine pure_ (i:=13) (N:=some 4) (v:=?_) (a':=?_) #[Y,Y,Y,Y,Y,Y,Y,Y,Y,Y,Y,Y,Y,Y] rfl rfl (by kernel_rfl) (fun _ _ _ h=>h) (Or.inl ⟨by rfl,?_⟩) ?_ ?_
 rotate_left
 ·intro w'
  go_simp
  with_reducible rfl
 rotate_left
 ·simp only [Act.put,zp1,zp2,zp3,i64_w,i32_w]
  rfl
 refine done_ (by kernel_rfl) ?_
 go_wp2
 go_ret
 exact ⟨rfl,hHeld⟩
set_option maxHeartbeats 8000000 in
theorem impl_CellOk.calls (a0_0:Int) (a0_1:Int) (a0_2:Int) (a0_3:Int) (a1:Int) (r:Bool) (w:World) (h:impl_CellOk.f a0_0 a0_1 a0_2 a0_3 a1=some r) :
  Calls Tryd.prog 26 #[.agg #[.int .i64 a0_0,.int .i64 a0_1,.int .i64 a0_2,.int .i64 a0_3],.int .i64 a1] w fun e w'=>e=.returned (.bool r)∧Below w.heap.size w w':=by
 have ne : ∀ x:Int,¬ x=0→((0:Int) == x)=false:=fun x hx=>by simpa using fun e:0=x=>hx e.symm
 unfold impl_CellOk.f at h
 by_cases h1:a0_0=1
 ·subst h1
  rw [if_pos rfl] at h
  by_cases h2:a0_2=0
  ·subst h2
   rw [if_pos rfl] at h
   by_cases h3:a0_3=0
   ·subst h3
    rw [if_pos rfl] at h
    exact cellOk_col a0_1 a1 r w h
   ·rw [if_neg h3] at h
    obtain rfl:=Option.some.inj h
    exact cellOk_col_n a0_1 a0_3 a1 w (ne _ h3)
  ·rw [if_neg h2] at h
   obtain rfl:=Option.some.inj h
   exact cellOk_col_b a0_1 a0_2 a0_3 a1 w (ne _ h2)
 rw [if_neg h1] at h
 by_cases h2:a0_0=2
 ·subst h2
  rw [if_pos rfl] at h
  by_cases h3:a0_1=0
  ·subst h3
   rw [if_pos rfl] at h
   by_cases h4:a0_2=0
   ·subst h4
    rw [if_pos rfl] at h
    exact cellOk_num a0_3 a1 r w h
   ·rw [if_neg h4] at h
    obtain rfl:=Option.some.inj h
    exact cellOk_num_b a0_2 a0_3 a1 w (ne _ h4)
  ·rw [if_neg h3] at h
   obtain rfl:=Option.some.inj h
   exact cellOk_num_a a0_1 a0_2 a0_3 a1 w (ne _ h3)
 rw [if_neg h2] at h
 by_cases h3:a0_0=3
 ·subst h3
  rw [if_pos rfl] at h
  by_cases h4:a0_3=0
  ·subst h4
   rw [if_pos rfl] at h
   exact cellOk_sum a0_1 a0_2 a1 r w h
  ·rw [if_neg h4] at h
   obtain rfl:=Option.some.inj h
   exact cellOk_sum_n a0_1 a0_2 a0_3 a1 w (ne _ h4)
 rw [if_neg h3] at h
 obtain rfl:=Option.some.inj h
 exact cellOk_none a0_0 a0_1 a0_2 a0_3 a1 w h1 h2 h3

end Go.Proofs.YthmcbekemnabdaaDoor.PFnExactTestRead
