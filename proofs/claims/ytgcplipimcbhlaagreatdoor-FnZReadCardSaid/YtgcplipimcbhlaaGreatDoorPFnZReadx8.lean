-- Written by wip/tools/pp.py, a program of this session over the kit's printer: not the kit's own print
import Derived.Test.YtgcplipimcbhlaaGreatDoorPFnZReadx0
namespace Go.Proofs.YtgcplipimcbhlaaGreatDoor.PFnZRead
open Go.RowKit Go.Proofs.YtgcplipimcbhlaaGreatDoorW.PrintWords Go.Proofs.YtgcplipimcbhlaaGreatDoorW.PrintLast Go.Proofs.YtgcplipimcbhlaaGreatDoorW.PrintMore
attribute [local go_sem] max2_int min2_int max_two min_two max_three min_three max_four min_four   -- for this text's walks alone
set_option linter.unusedVariables false
set_option linter.unusedSimpArgs false

/-! ### impl_RowText: function 28 (by hand) -/
theorem tab_on {P:Program} {w w':World} {nm:String} {k:IntKind} {zs:List Int} (h:Lib.TabIs P w nm k zs) (hb:Below w.heap.size w w'):Lib.TabIs P w' nm k zs:=Lib.tabBelow_of_tabIs h w' hb
theorem var_on {P:Program} {w w':World} {nm:String} {cs:Array Value} (h:w.var? P nm=some cs) (hb:Below w.heap.size w w'):w'.var? P nm=some cs:=by
 unfold World.var? at *
 cases hg:P.globalNamed nm with
 | none=>simp [hg] at h
 | some g =>
  simp only [hg,Option.bind_some] at h ⊢
  have hlt:g < w.heap.size:=by
   rcases Nat.lt_or_ge g w.heap.size with h'|h'
   ·exact h'
   ·rw [Array.getElem?_eq_none h'] at h;simp at h
  rw [hb.block g hlt]
  exact h
/-- what strings.Cut and strings.Split want of internal/bytealg.MaxLen, where they are used (MAXLEN in the law's env; else nothing) -/
def MaxW (w:World):Prop:=∃ m:Int,w.cell? ⟨0,0,none⟩=some (.int .i64 m)
theorem MaxW.on {w w':World} (h:MaxW w) (hb:Below w.heap.size w w'):MaxW w':=by
 unfold MaxW at *
 (obtain ⟨m,hm⟩:=h;exact ⟨m,(hb.cell (World.block_lt_of_cell? _ _ hm)).trans hm⟩)
/-- what the texts' functions find in the library's variables -/
def TxtW (w : World) : Prop := Lib.TabIs Tryz.prog w "internal/strconv.uint64pow10" .u64 Lib.pow10Tab ∧ (∃ tp p, w.var? Tryz.prog "strconv.ErrSyntax" = some #[.iface tp p]) ∧ (∃ tp p, w.var? Tryz.prog "strconv.ErrRange" = some #[.iface tp p]) ∧ MaxW w
theorem TxtW.tab {w : World} (h : TxtW w) : Lib.TabIs Tryz.prog w "internal/strconv.uint64pow10" .u64 Lib.pow10Tab := h.1
theorem TxtW.on {w w':World} (h:TxtW w) (hb:Below w.heap.size w w'):TxtW w':=by
 obtain ⟨h1,⟨t1,p1,h2⟩,⟨t2,p2,h3⟩,h4⟩:=h
 exact ⟨Lib.tabBelow_of_tabIs h1 w' hb,⟨t1,p1,var_on h2 hb⟩,⟨t2,p2,var_on h3 hb⟩,h4.on hb⟩
/-- a row's text: the numerals, with a comma between -/
def tailB (l:List Int):List UInt8:=(l.map (fun x=>44 :: Lib.itoa x)).flatten
def rowB:List Int→List UInt8
 | []=>[]
 | x :: l=>Lib.itoa x ++ tailB l
theorem rowB_snoc (l:List Int) (x:Int):rowB (l ++ [x])=rowB l ++ ((if l = [] then [] else [44]) ++ Lib.itoa x):=by
 cases l with
 | nil=>simp [rowB,tailB]
 | cons y l=>simp [rowB,tailB,List.append_assoc]
def okI (x:Int):Bool:=decide (-9223372036854775808≤x) && decide (x≤9223372036854775807)
theorem okI_iff {x:Int}:okI x=true ↔ (-9223372036854775808≤x∧x≤9223372036854775807):=by unfold okI;simp
theorem tailB_len (l:List Int) (h : ∀ x ∈ l,okI x=true):(tailB l).length≤22 * l.length:=by
 induction l with
 | nil=>simp [tailB]
 | cons x l ih =>
  have h1:=okI_iff.1 (h x List.mem_cons_self)
  have h2:=Lib.itoa_length_le x h1.1 h1.2
  have h3:=ih (fun y hy=>h y (List.mem_cons_of_mem _ hy))
  have e:(tailB (x :: l)).length=1 + (Lib.itoa x).length + (tailB l).length:=by simp [tailB];omega
  rw [e,List.length_cons]
  omega
theorem rowB_len (l:List Int) (h : ∀ x ∈ l,okI x=true):(rowB l).length≤22 * l.length:=by
 cases l with
 | nil=>simp [rowB]
 | cons x l =>
  have h1:=okI_iff.1 (h x List.mem_cons_self)
  have h2:=Lib.itoa_length_le x h1.1 h1.2
  have h3:=tailB_len l (fun y hy=>h y (List.mem_cons_of_mem _ hy))
  rw [rowB,List.length_append,List.length_cons]
  omega
def impl_RowText.f (l0:List Int):Option ByteArray:=if l0.length≤1048576 then (if l0.all okI=true then some ⟨(rowB l0).toArray⟩ else none) else none
theorem intOf_k (k:Nat):(intOf (.int .i64 (k:Int))).toNat=k:=by simp [intOf]
theorem infoByte:(Tryz.prog.info? 5).map (fun i=>(i.zero,i.size,i.bytes))=some (some (.int .u8 0),1,1):=by kernel_rfl
set_option maxHeartbeats 8000000 in
set_option maxRecDepth 100000 in
theorem impl_RowText.calls (A0 : Option Addr) (c0 : Nat) (l0 : List Int) (r : ByteArray) (w : World) (hr0 : Kd.C (Kd.int .i64) w A0 l0.length l0) (hc0 : l0.length ≤ c0) (h : impl_RowText.f l0 = some r) (hT : Lib.TabIs Tryz.prog w "internal/strconv.uint64pow10" .u64 Lib.pow10Tab := by first | exact TxtW.tab (TxtW.on HT0.out zhb) | exact tab_on HT0.out zhb) :
  Calls Tryz.prog 28 #[.slice A0 l0.length c0] w fun e w'=>e=.returned (.string r)∧Below w.heap.size w w':=by
 unfold impl_RowText.f at h
 by_cases hl:l0.length≤1048576
 case neg=>rw [if_neg hl] at h;cases h
 rw [if_pos hl] at h
 by_cases ha:l0.all okI=true
 case neg=>rw [if_neg ha] at h;cases h
 rw [if_pos ha] at h
 obtain rfl:=Option.some.inj h
 clear h
 have hok : ∀ x ∈ l0,okI x=true:=List.all_eq_true.1 ha
 obtain ⟨i0,hi,hz0,hz1,hz2⟩:=info_parts infoByte
 have HR:=Aside0.mk hr0
 have HL:=Aside0.mk hl
 have HOK:=Aside0.mk hok
 have HTB:=Aside0.mk (Lib.tabBelow_of_tabIs hT)
 clear hr0 hl hok ha hT hc0
 go_enter Tryz.func28,Tryz.ntmps28
 go_wp2
 go_loopw [3,8] (fun v i wr=>∃ k:Nat,k≤l0.length∧i=.int .i64 k∧wr.ownsRow w.heap.size 5 1 v (rowB (l0.take k)).length (Lib.byteCells (rowB (l0.take k)))∧Below w.heap.size w wr)
  (fun _ i _=>l0.length - (intOf i).toNat)
 case atStart=>exact ⟨0,Nat.zero_le _,rfl,World.ownsRow_nil _ _ _ _,Below.refl _ _⟩
 case round =>
  obtain ⟨k,hk,rfl,hown,hnx⟩:=hrel
  have HOW:=Aside0.mk hown
  have HNX:=Aside0.mk hnx
  clear hown hnx
  by_cases hlt:k < l0.length
  case neg =>
   have hkl:k=l0.length:=by omega
   have f0:decide ((k:Int) < (l0.length:Int))=false:=decide_eq_false (by omega)
   have f1:decide (k < l0.length)=false:=decide_eq_false (by omega)
   subst hkl
   have hown:=HOW.out
   rw [List.take_length] at hown
   obtain ⟨l,hl⟩ : ∃ l,l=rowB l0:=⟨_,rfl⟩
   rw [← hl] at hown
   have HLL:=Aside0.mk hl
   clear hl HOW hk hlt
   rcases hown.2 with ⟨hv,h0⟩|⟨g,cap,cur,rfl,-,-,-,-,-,-⟩
   ·subst hv
    have h1:=hown.1
    have e1:l = []:=List.eq_nil_of_length_eq_zero (by omega)
    subst e1
    have hcv:=run_convert_bytes_nil (P:=Tryz.prog) wr 22 5 Tryz.underlying22 Tryz.underlying5 0 0 9 Tryz.underlying9
    clear hown h0 h1
    go_wp2
    go_ret
    refine ⟨?_,HNX.out⟩
    rw [← HLL.out]
    rfl
   ·have hcv:=run_convert_bytes_back (P:=Tryz.prog) wr 22 9 5 ⟨g,0,none⟩ cap l Tryz.underlying22 Tryz.underlying5 Tryz.underlying9 (fun j hj=>hown.cells (g:=g) rfl j _ (by simp [Lib.byteCells,hj]))
    clear hown
    go_wp2
    go_ret
    have hl:=HLL.out
    subst hl
    exact ⟨rfl,HNX.out⟩
  have f0:decide ((k:Int) < (l0.length:Int))=true:=decide_eq_true (by omega)
  have f1:decide (k < l0.length)=true:=decide_eq_true (by omega)
  obtain ⟨ad,rfl,hcell⟩:=Kd.at_int HR.out (k:Int) (by omega) (by omega)
  obtain ⟨x,hx⟩ : ∃ x,x=rd l0 (k:Int):=⟨_,rfl⟩
  rw [← hx] at hcell
  have hxl:x=l0[k]:=by rw [hx];show l0.getD k 0=_;rw [List.getD_eq_getElem?_getD,List.getElem?_eq_getElem hlt];rfl
  have hxo:=okI_iff.1 (HOK.out x (by rw [hxl];exact List.getElem_mem hlt))
  have hcell1:wr.cell? (ad.add k)=some (.int .i64 x):=by
   have h1:=HNX.out.cell (World.block_lt_of_cell? _ _ hcell)
   exact h1.trans hcell
  have HX:=Aside0.mk hxl
  have HXO:=Aside0.mk hxo
  clear hcell hx hxl hxo
  have HLT:=Aside0.mk hlt
  have HK:=Aside0.mk (show (rowB (l0.take k)).length≤22 * k by
   have h1:=rowB_len (l0.take k) (fun y hy=>HOK.out y (List.mem_of_mem_take hy))
   rw [List.length_take] at h1
   omega)
  have HE:=Aside0.mk (show rowB (l0.take (k + 1))=rowB (l0.take k) ++ ((if l0.take k = [] then [] else [44]) ++ Lib.itoa x) by
   rw [List.take_succ_eq_append_getElem hlt,← HX.out,rowB_snoc])
  have HS:=Aside0.mk (HNX.out.size)
  have HW:=Aside0.mk (show wrap64 ((k:Int) + 1)=((k + 1:Nat):Int) by have:=HL.out;unfold wrap64;omega)
  clear HX
  by_cases h0:k=0
  ·have g0:decide (0 < (k:Int))=false:=decide_eq_false (by omega)
   have g1:decide (0 < k)=false:=decide_eq_false (by omega)
   have H0:=Aside0.mk h0
   clear h0 hk
   go_wp2_with (go_at_call 57;refine (Tryz.strconv_AppendInt_10 w.heap.size _ x HXO.out.1 HXO.out.2 u3 _ wr HOW.out HS.out (by have:=HL.out;have:=HLT.out;have:=HK.out;omega) (HTB.out.on HNX.out)).mono ?_;rintro e w1 ⟨v1,rfl,hown1,hnx1,-⟩;refine Hid.out ?_)
   refine Lib.hid ?_
   have HOW1:=Aside0.mk hown1
   have HNX1:=Aside0.mk (HNX.out.trans hnx1)
   clear hown1 hnx1
   go_wp2
   go_roundw
   case rel =>
    refine ⟨k + 1,HLT.out,by rw [HW.out],?_,HNX1.out⟩
    have h1:=HOW1.out
    have e0:l0.take k = []:=by rw [H0.out];rfl
    rw [HE.out,if_pos e0,List.nil_append,e0]
    rw [e0,← Lib.byteCells_append,← List.length_append] at h1
    exact h1
   case measure=>have:=HLT.out;rw [HW.out];simp only [intOf];omega
  ·have g0:decide (0 < (k:Int))=true:=decide_eq_true (by omega)
   have g1:decide (0 < k)=true:=decide_eq_true (by omega)
   have H0:=Aside0.mk h0
   clear h0 hk
   go_wp2_with (at_builtin;refine wpList_append_own _ rfl _ _ 22 rfl w.heap.size 5 i0 (.int .u8 0) 1 1 Tryz.underlying22 hi hz0 hz1 hz2 rfl (by decide) _ _ _ rfl (HOW.out.alloc _) ⟨wr.heap.size,0,none⟩ 1 1 [Value.int .u8 44] rfl rfl (by intro j u' hj;match j,hj with|0,hj=>simp at hj;subst hj;simp [Addr.add]) (by intro u' hu';simp at hu';subst hu';rfl) (by have:=HL.out;have:=HLT.out;have:=HK.out;unfold maxLen;omega) (by have:=HL.out;have:=HLT.out;have:=HK.out;omega) (by have:=HS.out;simp;omega) ?_)
   intro v2 w2 hown2 hgrow _
   have hnx2:Below w.heap.size w w2:=(HNX.out.alloc (by have:=HS.out;omega) _).grown hgrow (by have:=HS.out;simp;omega) (fun k_ hk_=>(HOW.out.lt k_ hk_).1)
   have HOW2:=Aside0.mk hown2
   have HNX2:=Aside0.mk hnx2
   clear hown2 hgrow hnx2
   go_wp2_with (go_at_call 57;refine (Tryz.strconv_AppendInt_10 w.heap.size _ x HXO.out.1 HXO.out.2 v2 _ w2 HOW2.out HNX2.out.size (by have:=HL.out;have:=HLT.out;have:=HK.out;omega) (HTB.out.on HNX2.out)).mono ?_;rintro e w1 ⟨v1,rfl,hown1,hnx1,-⟩;refine Hid.out ?_)
   refine Lib.hid ?_
   have HOW1:=Aside0.mk hown1
   have HNX1:=Aside0.mk (HNX2.out.trans hnx1)
   clear hown1 hnx1
   go_wp2
   go_roundw
   case rel =>
    refine ⟨k + 1,HLT.out,by rw [HW.out],?_,HNX1.out⟩
    have h1:=HOW1.out
    have e0:l0.take k≠[]:=by
     intro e
     have:=congrArg List.length e
     rw [List.length_take] at this
     have h2:=H0.out;have h3:=HLT.out
     rw [List.length_nil] at this
     omega
    rw [HE.out,if_neg e0,← List.append_assoc,Lib.byteCells_append,Lib.byteCells_append,List.length_append,List.length_append]
    exact h1
   case measure=>have:=HLT.out;rw [HW.out];simp only [intOf];omega

/-! ### strconv_Itoa: function 29 (by hand) -/
def strconv_Itoa.f (a0:Int):Option ByteArray:=if okI a0=true then some ⟨(Lib.itoa a0).toArray⟩ else none
theorem strconv_Itoa.calls (a0 : Int) (r : ByteArray) (w : World) (h : strconv_Itoa.f a0 = some r) (hT : Lib.TabIs Tryz.prog w "internal/strconv.uint64pow10" .u64 Lib.pow10Tab := by first | exact TxtW.tab (TxtW.on HT0.out zhb) | exact tab_on HT0.out zhb) :
  Calls Tryz.prog 29 #[.int .i64 a0] w fun e w'=>e=.returned (.string r)∧Below w.heap.size w w':=by
 unfold strconv_Itoa.f at h
 by_cases h1:okI a0=true
 case neg=>rw [if_neg h1] at h;cases h
 rw [if_pos h1] at h
 obtain rfl:=Option.some.inj h
 have h2:=okI_iff.1 h1
 refine (Tryz.strconv_Itoa a0 h2.1 h2.2 w hT).mono ?_
 rintro e w' ⟨rfl,k,os,rfl⟩
 refine ⟨rfl,rfl,rfl,rfl,?_,fun i hi=>?_⟩
 ·show w.heap.size≤((w.drewN k).heap ++ os).size
  rw [Array.size_append]
  exact Nat.le_add_right _ _
 ·show ((w.drewN k).heap ++ os)[i]?=_
  rw [Array.getElem?_append_left (by show i < w.heap.size;omega)]
  rfl

/-! ### strings_Join: function 30 (by hand) -/
def joinF (l:List ByteArray) (sep:ByteArray):List UInt8:=Lib.join (l.map (·.data.toList)) sep.data.toList
def strings_Join.f (l0:List ByteArray) (a1:ByteArray):Option ByteArray:=if l0.length≤140737488355328 then (if (joinF l0 a1).length≤140737488355328 then some ⟨(joinF l0 a1).toArray⟩ else none) else none
theorem strings_Join.calls (A0:Option Addr) (c0:Nat) (l0:List ByteArray) (a1:ByteArray) (r:ByteArray) (w:World) (hr0:Kd.C Kd.string w A0 l0.length l0) (hc0:l0.length≤c0) (h:strings_Join.f l0 a1=some r) :
  Calls Tryz.prog 30 #[.slice A0 l0.length c0,.string a1] w fun e w'=>e=.returned (.string r)∧Below w.heap.size w w':=by
 unfold strings_Join.f at h
 by_cases h1:l0.length≤140737488355328
 case neg=>rw [if_neg h1] at h;cases h
 rw [if_pos h1] at h
 by_cases h2:(joinF l0 a1).length≤140737488355328
 case neg=>rw [if_neg h2] at h;cases h
 rw [if_pos h2] at h
 obtain rfl:=Option.some.inj h
 cases hl:l0 with
 | nil =>
  subst hl
  refine (Tryz.strings_Join_none A0 c0 a1 w).mono ?_
  rintro e w' ⟨rfl,rfl⟩
  exact ⟨rfl,Below.refl _ _⟩
 | cons x l =>
  rw [← hl]
  have hpos:(0:Int) < l0.length:=by rw [hl];simp
  obtain ⟨ad,rfl,hc⟩:=Kd.at_string hr0 0 (by omega) hpos
  obtain ⟨bk,off,spot⟩:=ad
  have hs:spot=none:=by
   have:(Addr.mk bk off spot).add (0:Int).toNat=⟨bk,off,spot⟩:=rfl
   rw [this] at hc
   unfold World.cell? at hc
   simp only at hc
   split at hc
   ·split at hc
    ·cases hc
    ·next hns=>simpa using hns
   ·cases hc
  subst hs
  have cells : ∀ (j:Nat) x,l0[j]?=some x→w.cell? ⟨bk,off + j,none⟩=some (.string x):=by
   intro j x hj
   obtain ⟨hjl,hx⟩:=List.getElem?_eq_some_iff.1 hj
   obtain ⟨ad',e1,h3⟩:=Kd.at_string hr0 (j:Int) (by omega) (by omega)
   have e2:=Option.some.inj e1
   subst e2
   rw [Int.toNat_natCast] at h3
   have e3:(Addr.mk bk off none).add j=⟨bk,off + j,none⟩:=by
    unfold Addr.add
    split
    ·next h0=>subst h0;rfl
    ·rfl
   rw [e3] at h3
   rw [h3]
   unfold rdOf
   rw [Int.toNat_natCast,List.getD_eq_getElem?_getD,hj]
   rfl
  exact Tryz.strings_Join bk off c0 l0 a1 w cells (World.block_lt_of_cell? _ _ hc) (by omega) hc0 h2

/-! ### impl_ZText: function 9 -/
def impl_ZText.l0:Nat→List ByteArray→List (S33)→Int→Int→Option (ByteArray)
 | 0,_,_,_,_=>none
 | k + 1,x3,x6,x7,x8=>if x8 < x7 then (if 0≤x8 then (if x8 < (x6.length:Int) then ((impl_RowText.f ((rd_T33 x6 x8).f0)).bind fun t214=>(if t214.size + 1≤9223372036854775807 then ((strconv_Itoa.f ((rd_T33 x6 x8).f1)).bind fun t215=>(if (t214 ++ (⟨#[42]⟩:ByteArray)).size + t215.size≤9223372036854775807 then (if x3.length < 8796093022208 then (impl_ZText.l0 k (x3 ++ [(t214 ++ (⟨#[42]⟩:ByteArray)) ++ t215]) x6 x7 (wrap64 (x8 + 1))) else (none)) else (none))) else (none))) else (none)) else (none)) else ((strings_Join.f x3 (⟨#[32]⟩:ByteArray)).bind fun t219=>(some t219))
def impl_ZText.f (k:Nat) (l0:List (S33)):Option (ByteArray):=impl_ZText.l0 k ([]:List ByteArray) l0 (l0.length:Int) 0
theorem impl_ZText.mono_l : ∀ k,(∀ y0 y1 y2 y3,LeO (impl_ZText.l0 k y0 y1 y2 y3) (impl_ZText.l0 (k + 1) y0 y1 y2 y3))
 | 0=>fun _ _ _ _ r h=>by simp [impl_ZText.l0] at h
 | k + 1=>by
  have ih0:=impl_ZText.mono_l k
  ·intro y0 y1 y2 y3
   unfold impl_ZText.l0
   repeat' first
   | (with_reducible exact ih0 _ _ _ _)
   | (with_reducible exact LeO.refl _)
   | (with_reducible exact LeO.none _)
   | (with_reducible refine LeO.ite ?_ ?_)
   | (with_reducible refine LeO.bind ?_ (fun _=>?_))
   | exact LeO.none _
   | refine LeO.ite ?_ ?_
   | refine LeO.bind ?_ (fun _=>?_)
theorem impl_ZText.mono : ∀ a0 k,LeO (impl_ZText.f k a0) (impl_ZText.f (k + 1) a0):=by
 intro a0 k
 have ih0:=impl_ZText.mono_l k
 unfold impl_ZText.f
 repeat' first
   | (with_reducible exact ih0 _ _ _ _)
   | (with_reducible exact LeO.refl _)
   | (with_reducible exact LeO.none _)
   | (with_reducible refine LeO.ite ?_ ?_)
   | (with_reducible refine LeO.bind ?_ (fun _=>?_))
   | exact LeO.none _
   | refine LeO.ite ?_ ?_
   | refine LeO.bind ?_ (fun _=>?_)
def impl_ZText.T5:Bool × List (List Nat × List Nat):=(true,[([],[]),([],[]),([1],[1]),([2],[2]),([3],[3]),([],[]),([5],[5]),([6,3],[6]),([4,7],[4,7]),([8],[8]),([0,9,7],[0,9]),([10,10,0,1,2,3,4,5,6,7,8,9,10],[0,10])])
def impl_ZText.B5:List Nat:=[0,0,2,6,14,0,32,110,254,510,1023,2047]
theorem impl_ZText.tab5:rtab .any (opsOf Tryz.f9 5)=impl_ZText.T5:=by kernel_rfl
theorem impl_ZText.bits5:waitsOk impl_ZText.T5.2 impl_ZText.B5=true:=by kernel_rfl
set_option maxHeartbeats 8000000 in
set_option maxRecDepth 100000 in
theorem impl_ZText.calls (k : Nat) (A0 : Option Addr) (c0 : Nat) (l0 : List (S33)) (r : ByteArray) (w : World) (hr0 : Kd.C k33 w A0 l0.length l0) (hc0 : l0.length ≤ c0) (h : impl_ZText.f k l0 = some r) (hT : Lib.TabIs Tryz.prog w "internal/strconv.uint64pow10" .u64 Lib.pow10Tab := by first | exact TxtW.tab (TxtW.on HT0.out zhb) | exact tab_on HT0.out zhb) :
  Calls Tryz.prog 9 #[.slice A0 l0.length c0] w fun e w'=>e=.returned (.string r)∧Below w.heap.size w w':=by
 have HT0:=Aside0.mk hT
 clear hT
 have hu33:=Tryz.underlying33
 have HR0:=Aside0.mk hr0
 have HC0:=Aside0.mk hc0
 clear hr0 hc0
 have HB:=Aside0.mk (Below.refl w.heap.size w)
 have H:(impl_ZText.l0 k ([]:List ByteArray) l0 (l0.length:Int) 0)=some r:=h
 clear h
 have H':=Aside0.mk H
 clear H
 go_enter Tryz.func9,Tryz.ntmps9
 go_wp2
 go_loopg [3,8] k (fun kq v3 v8 w'=>∃ (x3_1:List ByteArray) (x8_1:Int),v8=.int .i64 x8_1∧Aside0 (impl_ZText.l0 kq x3_1 l0 (l0.length:Int) x8_1=some r)∧Aside0 (kq≤k)∧Aside0 (Kd.R Kd.string 9 w' w.heap.size (fun _=>True) v3 x3_1)∧Aside0 (Below w.heap.size w w'))
 case atStart=>exact ⟨(([]:List ByteArray)),(0),(by first|rfl|(simp;done)|(simp [*];done)),H',⟨Nat.le_refl _⟩,⟨by first|exact Kd.R_nil _ _ _ _ _|exact Kd.N_nil _ _ _ _ _|exact Kd.V_nil _ _ _ _ _|exact Kd.Q_nil _ _ _ _ _|exact Kd.S_nil _ _ _ _ _⟩,⟨zhb⟩⟩
 case round =>
  clear H'
  obtain ⟨x3_1,x8_1,rfl,HA,HK1,HO_3,HB⟩:=hrel
  cases gk with
  | zero=>exact absurd HA.out (by simp [impl_ZText.l0])
  | succ k1 =>
   have H:=HA.out
   clear HA
   simp only [impl_ZText.l0] at H
   by_cases c2:x8_1 < (l0.length:Int)
   ·rw [if_pos c2] at H
    have c2b0:decide (x8_1 < (l0.length:Int))=true:=decide_eq_true c2
    clear c2
    by_cases c3:0≤x8_1
    ·rw [if_pos c3] at H
     have c3b0:decide (0≤x8_1)=true:=decide_eq_true c3
     clear c3
     by_cases c4:x8_1 < (l0.length:Int)
     ·rw [if_pos c4] at H
      have c4b0:decide (x8_1 < (l0.length:Int))=true:=decide_eq_true c4
      clear c4
      replace H:=Option.bind_eq_some_iff.mp H
      obtain ⟨t214,A50,H⟩:=H
      (try dsimp only at H)
      have A5:=Aside0.mk A50
      clear A50
      by_cases c6:t214.size + 1≤9223372036854775807
      ·rw [if_pos c6] at H
       have c6b0:=eq_true c6
       have c6b1:decide (t214.size + 1≤9223372036854775807)=true:=decide_eq_true c6
       try have c6b2:(9223372036854775807 < t214.size + 1)=False:=eq_false (Nat.not_lt.2 c6)
       replace H:=Option.bind_eq_some_iff.mp H
       obtain ⟨t215,A70,H⟩:=H
       (try dsimp only at H)
       have A7:=Aside0.mk A70
       clear A70
       by_cases c8:(t214 ++ (⟨#[42]⟩:ByteArray)).size + t215.size≤9223372036854775807
       ·rw [if_pos c8] at H
        have c8b0:=eq_true c8
        have c8b1:decide ((t214 ++ (⟨#[42]⟩:ByteArray)).size + t215.size≤9223372036854775807)=true:=decide_eq_true c8
        (try (have c8b3:t214.size + 1 + t215.size≤9223372036854775807:=by have h_:=c8;simp only [ByteArray.size_append] at h_;exact h_))
        (try have c8b4:=eq_true c8b3)
        (try have c8b5:decide (t214.size + 1 + t215.size≤9223372036854775807)=true:=decide_eq_true c8b3)
        (try have c8b6:(9223372036854775807 < t214.size + 1 + t215.size)=False:=eq_false (Nat.not_lt.2 c8b3))
        try have c8b2:(9223372036854775807 < (t214 ++ (⟨#[42]⟩:ByteArray)).size + t215.size)=False:=eq_false (Nat.not_lt.2 c8)
        by_cases c9:x3_1.length < 8796093022208
        ·rw [if_pos c9] at H
         have LMc9:=Aside0.mk c9
         clear c9
         obtain ⟨y216,hy216⟩ : ∃ y_:List ByteArray,y_=(x3_1 ++ [(t214 ++ (⟨#[42]⟩:ByteArray)) ++ t215]):=⟨_,rfl⟩
         replace H:(impl_ZText.l0 k1 y216 l0 (l0.length:Int) (wrap64 (x8_1 + 1)))=some r:=by first|(rw [hy216];with_reducible exact H)|(have H2_:=(Option.bind_some _ _).symm.trans H;rw [hy216];with_reducible exact H2_)|(have H2_:=(Option.bind_some _ _).symm.trans H;with_reducible exact H2_)|with_reducible exact H|(rw [hy216];exact H)|exact H
         have Ny216:=Aside0.mk hy216
         clear hy216
         have H':=Aside0.mk H
         clear H
         have p212:0≤(x8_1:Int):=zod
         have q212:x8_1 < (l0.length:Int):=zod
         obtain ⟨ad212,A212_0,c212_0,e212,hx212_0,hx212_1,hl212_0,hi212_0⟩:=at_T33 HR0.out x8_1 p212 q212
         cases e212
         replace hx212_0:=(HB.out.cell (World.block_lt_of_cell? w _ hx212_0)).trans hx212_0
         replace hx212_1:=(HB.out.cell (World.block_lt_of_cell? w _ hx212_1)).trans hx212_1
         have HR212_0:=Aside0.mk hi212_0
         have HC212_0:=Aside0.mk hl212_0
         clear hi212_0 hl212_0
         replace p212:=eq_true p212
         replace q212:=eq_true q212
         try go_wp2_with (first|((with_reducible refine gate_dst (N:=5) rfl ?_);refine box_event ?hg (N:=5) ?hd (cs:=#[.slice none 0 0,.int .i64 0]) (t:=33) ?hr ?_;(case hd=>rfl);(case hg=>rfl);(case hr=>first|(go_simp;done)|(go_simp;rfl));intro gb213 hg w10 hbox hb;have n0_:=Aside0.mk (Kd.R_below (by (with_reducible repeat (first|apply Kd.R_alloc|apply Kd.R_drewN|apply Kd.R_drew));exact HO_3.out) hb);have n1_:=Aside0.mk (below_step zhb hb);have n2_:=Aside0.mk (hbox);have n3_:=Aside0.mk ((by rw [hg];exact (below_size zhb):w.heap.size≤gb213));have n4_:=Aside0.mk ((by rw [hg];exact (below_size zhb):w.heap.size≤gb213));clear HO_3;clear HB;have HO_3:=n0_;have HB:=n1_;have BK213:=n2_;have GW213:=n3_;have GE213:=n4_;clear n0_ n1_ n2_ n3_ n4_;clear hb hbox hg;have hcz11_0:w10.cell? ⟨gb213,0,none⟩=some (.slice none 0 0):=(blk_cell BK213.out 0).trans rfl;have hcz11_1:w10.cell? ⟨gb213,1,none⟩=some (.int .i64 0):=(blk_cell BK213.out 1).trans rfl;have hfz11_0:=blk_frozen BK213.out 0;have hfz11_1:=blk_frozen BK213.out 1))
         have n0_:Aside0 (Kd.R Kd.string 9 ((w10.setCell ⟨gb213,0,none⟩ (.slice A212_0 ((rd_T33 l0 x8_1).f0).length c212_0)).setCell ⟨gb213,1,none⟩ (.int .i64 ((rd_T33 l0 x8_1).f1))) w.heap.size (fun _=>True) u3 x3_1):=⟨by (with_reducible repeat (first|apply Kd.R_alloc|apply Kd.R_drewN|apply Kd.R_drew));exact Kd.R_mono (Kd.R_far (p:=⟨gb213,1,none⟩) (Kd.R_far (p:=⟨gb213,0,none⟩) (Kd.R_types HO_3.out BK213.out (by decide)) (fun _ hk=>hk.2) (.slice A212_0 ((rd_T33 l0 x8_1).f0).length c212_0)) (fun _ hk=>hk.2) (.int .i64 ((rd_T33 l0 x8_1).f1))) (fun _ hk=>trivial)⟩
         have n1_:Aside0 (((w10.setCell ⟨gb213,0,none⟩ (.slice A212_0 ((rd_T33 l0 x8_1).f0).length c212_0)).setCell ⟨gb213,1,none⟩ (.int .i64 ((rd_T33 l0 x8_1).f1))).heap[gb213]?=some (.cells #[.slice A212_0 ((rd_T33 l0 x8_1).f0).length c212_0,.int .i64 ((rd_T33 l0 x8_1).f1)] 33 (0,0))):=⟨by (with_reducible repeat (first|refine blk_drewN ?_ _|refine blk_drew ?_|refine blk_alloc ?_ _));refine blk_put (cs:=#[.slice A212_0 ((rd_T33 l0 x8_1).f0).length c212_0,.int .i64 0]) ?_ 1 _ rfl;(with_reducible repeat (first|refine blk_drewN ?_ _|refine blk_drew ?_|refine blk_alloc ?_ _));refine blk_put (cs:=#[.slice none 0 0,.int .i64 0]) ?_ 0 _ rfl;(with_reducible repeat (first|refine blk_drewN ?_ _|refine blk_drew ?_|refine blk_alloc ?_ _));exact BK213.out⟩
         have n2_:Aside0 (Below w.heap.size w ((w10.setCell ⟨gb213,0,none⟩ (.slice A212_0 ((rd_T33 l0 x8_1).f0).length c212_0)).setCell ⟨gb213,1,none⟩ (.int .i64 ((rd_T33 l0 x8_1).f1)))):=⟨by repeat (first|(with_reducible first|exact HB.out|apply below_alloc|apply pw_below_drewN|apply below_drew1|refine below_set ?_ GE213.out)|exact HB.out)⟩
         (try clear HO_3)
         (try clear BK213)
         (try clear HB)
         generalize ((w10.setCell ⟨gb213,0,none⟩ (.slice A212_0 ((rd_T33 l0 x8_1).f0).length c212_0)).setCell ⟨gb213,1,none⟩ (.int .i64 ((rd_T33 l0 x8_1).f1)))=w12 at n0_ n1_ n2_ ⊢
         have HO_3:=n0_
         have BK213:=n1_
         have HB:=n2_
         clear n0_ n1_ n2_
         have n0_:=Aside0.mk (Kd.R_drew HO_3.out)
         have n1_:=Aside0.mk (blk_drew BK213.out)
         have n2_:=Aside0.mk (below_drew1 HB.out)
         clear HO_3
         clear BK213
         clear HB
         have HO_3:=n0_
         have BK213:=n1_
         have HB:=n2_
         clear n0_ n1_ n2_
         refine start_ (n:=12) (S:=fun w'=>w'.cell? ⟨gb213,0,none⟩=some (.slice A212_0 ((rd_T33 l0 x8_1).f0).length c212_0)∧w'.cell? ⟨gb213,1,none⟩=some (.int .i64 ((rd_T33 l0 x8_1).f1))) (ds:=[]) #[X,X,X,X,X,X,X,X,X,X,X,X] (by kernel_rfl) rfl rfl ⟨(blk_cell BK213.out 0).trans rfl,(blk_cell BK213.out 1).trans rfl⟩ (fun hHeld=>?_);refine with_tabW impl_ZText.tab5 impl_ZText.bits5 (fun HT_ HW_=>?_)
         generalize w12.drew=w13 at HO_3 BK213 HB hHeld ⊢
         refine pure_ (i:=0) (N:=some 12) (v:=?_) (a':=?_) #[Y,X,X,X,X,X,X,X,X,X,X,X] rfl rfl zan (fun _ _ _ h=>h) (Or.inl ⟨by rfl,?_⟩) ?_ ?_
         rotate_left
         ·intro w'
          go_simp
          with_reducible rfl
         rotate_left
         ·simp only [Act.put,zp1,zp2,zp3,i64_w,i32_w]
          rfl
         refine pure_ (i:=1) (N:=some 13) (v:=?_) (a':=?_) #[Y,Y,X,X,X,X,X,X,X,X,X,X] rfl rfl zan (fun _ _ _ h=>h) (Or.inl ⟨by rfl,?_⟩) ?_ ?_
         rotate_left
         ·intro w'
          go_simp
          with_reducible rfl
         rotate_left
         ·simp only [Act.put,zp1,zp2,zp3,i64_w,i32_w]
          rfl
         refine pure_ (i:=5) (N:=some 17) (v:=?_) (a':=?_) #[Y,Y,X,X,X,Y,X,X,X,X,X,X] rfl rfl zan (fun _ _ _ h=>h) (Or.inl ⟨by rfl,?_⟩) ?_ ?_
         rotate_left
         ·intro w'
          go_simp
          with_reducible rfl
         rotate_left
         ·simp only [Act.put,zp1,zp2,zp3,i64_w,i32_w]
          rfl
         refine take_ (i:=2) (N:=some 14) (v:=?_) (a':=?_) #[Y,Y,Y,X,X,Y,X,X,X,X,X,X] rfl rfl ztw (fun _ _ _ h=>h) (Or.inl ⟨by rfl,?_⟩) hHeld ?_ ?_
         rotate_left
         ·rintro w' ⟨s0,s1⟩
          go_simp
          with_reducible rfl
         rotate_left
         ·simp only [Act.put,zp1,zp2,zp3,i64_w,i32_w]
          rfl
         refine take_ (i:=6) (N:=some 18) (v:=?_) (a':=?_) #[Y,Y,Y,X,X,Y,Y,X,X,X,X,X] rfl rfl ztw (fun _ _ _ h=>h) (Or.inl ⟨by rfl,?_⟩) hHeld ?_ ?_
         rotate_left
         ·rintro w' ⟨s0,s1⟩
          go_simp
          with_reducible rfl
         rotate_left
         ·simp only [Act.put,zp1,zp2,zp3,i64_w,i32_w]
          rfl
         refine one_ (i:=3) (N:=some 15) #[Y,Y,Y,Y,X,Y,Y,X,X,X,X,X] rfl rfl (one_of HT_.out (by kernel_rfl)) (by decide) (fun K hK=>?_)
         refine goes_ Tryz.func28 (by kernel_rfl) rfl #[.slice A212_0 ((rd_T33 l0 x8_1).f0).length c212_0] (by rfl) rfl rfl zar ?_
         with_reducible refine (impl_RowText.calls _ _ ((rd_T33 l0 x8_1).f0) t214 _ ?side1 ?side2 A5.out).mono ?_
         (case side1=>exact zC (Kd.C_below HR212_0.out HB.out))
         (case side2=>exact HC212_0.out)
         rintro e w14 ⟨rfl,hb⟩
         refine ⟨_,rfl,?_⟩
         have n0_:=Aside0.mk (Kd.R_below (by (with_reducible repeat (first|apply Kd.R_alloc|apply Kd.R_drewN|apply Kd.R_drew));exact HO_3.out) hb)
         have n1_:=Aside0.mk (blk_below (g:=gb213) (o:=.cells #[.slice A212_0 ((rd_T33 l0 x8_1).f0).length c212_0,.int .i64 ((rd_T33 l0 x8_1).f1)] 33 (0,0)) (by (with_reducible repeat (first|refine blk_drewN ?_ _|refine blk_drew ?_|refine blk_alloc ?_ _));exact BK213.out) hb)
         have n2_:=Aside0.mk (below_step (by repeat (first|(with_reducible first|exact HB.out|apply below_alloc|apply pw_below_drewN|apply below_drew1|refine below_set ?_ GE213.out)|exact HB.out)) hb)
         clear HO_3
         clear BK213
         clear HB
         have HO_3:=n0_
         have BK213:=n1_
         have HB:=n2_
         clear n0_ n1_ n2_
         (try clear hb)
         (try clear hb2)
         (try clear hk)
         (try clear hi)
         refine hK.out _ _ ⟨(blk_cell BK213.out 0).trans rfl,(blk_cell BK213.out 1).trans rfl⟩ (fun hHeld=>?_)
         clear hK K
         refine norm_ (a':=?_) ?_ ?_
         rotate_left
         ·show Act.put _ (some 15) _=_
          simp only [Act.put,zp1,zp2,zp3,i64_w,i32_w]
          rfl
         refine pure_ (i:=4) (N:=some 16) (v:=?_) (a':=?_) #[Y,Y,Y,Y,Y,Y,Y,X,X,X,X,X] rfl rfl zan (fun _ _ _ h=>h) (Or.inl ⟨by rfl,?_⟩) ?_ ?_
         rotate_left
         ·intro w'
          go_simp
          with_reducible rfl
         rotate_left
         ·simp only [Act.put,zp1,zp2,zp3,i64_w,i32_w]
          rfl
         refine one_ (i:=7) (N:=some 19) #[Y,Y,Y,Y,Y,Y,Y,Y,X,X,X,X] rfl rfl (one_of HT_.out (by kernel_rfl)) (by decide) (fun K hK=>?_)
         refine goes_ Tryz.func29 (by kernel_rfl) rfl #[.int .i64 ((rd_T33 l0 x8_1).f1)] (by rfl) rfl rfl zar ?_
         with_reducible refine (strconv_Itoa.calls ((rd_T33 l0 x8_1).f1) t215 _ A7.out).mono ?_
         rintro e w15 ⟨rfl,hb⟩
         refine ⟨_,rfl,?_⟩
         have n0_:=Aside0.mk (Kd.R_below (by (with_reducible repeat (first|apply Kd.R_alloc|apply Kd.R_drewN|apply Kd.R_drew));exact HO_3.out) hb)
         have n1_:=Aside0.mk (blk_below (g:=gb213) (o:=.cells #[.slice A212_0 ((rd_T33 l0 x8_1).f0).length c212_0,.int .i64 ((rd_T33 l0 x8_1).f1)] 33 (0,0)) (by (with_reducible repeat (first|refine blk_drewN ?_ _|refine blk_drew ?_|refine blk_alloc ?_ _));exact BK213.out) hb)
         have n2_:=Aside0.mk (below_step (by repeat (first|(with_reducible first|exact HB.out|apply below_alloc|apply pw_below_drewN|apply below_drew1|refine below_set ?_ GE213.out)|exact HB.out)) hb)
         clear HO_3
         clear BK213
         clear HB
         have HO_3:=n0_
         have BK213:=n1_
         have HB:=n2_
         clear n0_ n1_ n2_
         (try clear hb)
         (try clear hb2)
         (try clear hk)
         (try clear hi)
         refine hK.out _ _ ⟨(blk_cell BK213.out 0).trans rfl,(blk_cell BK213.out 1).trans rfl⟩ (fun hHeld=>?_)
         clear hK K
         refine norm_ (a':=?_) ?_ ?_
         rotate_left
         ·show Act.put _ (some 19) _=_
          simp only [Act.put,zp1,zp2,zp3,i64_w,i32_w]
          rfl
         refine pure_ (i:=8) (N:=some 20) (v:=?_) (a':=?_) #[Y,Y,Y,Y,Y,Y,Y,Y,Y,X,X,X] rfl rfl zan (fun _ _ _ h=>h) (Or.inl ⟨by rfl,?_⟩) ?_ ?_
         rotate_left
         ·intro w'
          go_simp
          with_reducible rfl
         rotate_left
         ·simp only [Act.put,zp1,zp2,zp3,i64_w,i32_w]
          rfl
         refine one_ (i:=9) (N:=some 21) #[Y,Y,Y,Y,Y,Y,Y,Y,Y,Y,X,X] rfl rfl (one_of HT_.out (by kernel_rfl)) (by decide) (fun K hK=>?_)
         refine value_ (w1:=?_) (v:=?_) (by rfl) rfl ?_ ?_
         rotate_left 2
         ·go_simp
          constructor
          ·rfl
          ·rfl
         refine hK.out _ _ ⟨(blk_cell (blk_alloc BK213.out _) 0).trans rfl,(blk_cell (blk_alloc BK213.out _) 1).trans rfl⟩ (fun hHeld=>?_)
         clear hK K
         refine norm_ (a':=?_) ?_ ?_
         rotate_left
         ·show Act.put _ (some 21) _=_
          simp only [Act.put,zp1,zp2,zp3,i64_w,i32_w]
          rfl
         refine one_ (i:=10) (N:=some 22) #[Y,Y,Y,Y,Y,Y,Y,Y,Y,Y,Y,X] rfl rfl (one_of HT_.out (by kernel_rfl)) (by decide) (fun K hK=>?_)
         refine Kd.R_append_step Kd.string (w0:=w) w.heap.size (by rfl) (.tmp 12) (.tmp 21) 44 9 (.string ⟨#[]⟩) 16 rfl Tryz.underlying44 info9 rfl (by decide) (by omega) u3 x3_1 ((t214 ++ (⟨#[42]⟩:ByteArray)) ++ t215) [.string ((t214 ++ (⟨#[42]⟩:ByteArray)) ++ t215)] (fun _=>True) (fun _=>False) rfl rfl ?aP (fun _ hk=>hk.elim) ?aF ?aO ?aB ?aS ?aL ?_
         (case aP=>exact rfl)
         (case aB=>exact (by repeat (first|(with_reducible first|exact HB.out|apply below_alloc|apply pw_below_drewN|apply below_drew1|refine below_set ?_ GE213.out)|exact HB.out)))
         (case aF=>exact (fun _ _=>trivial))
         (case aO=>exact (by (with_reducible repeat (first|apply Kd.R_alloc|apply Kd.R_drewN|apply Kd.R_drew));exact HO_3.out))
         (case aS=>exact (below_size (by repeat (first|(with_reducible first|exact HB.out|apply below_alloc|apply pw_below_drewN|apply below_drew1|refine below_set ?_ GE213.out)|exact HB.out))))
         (case aL=>have:=LMc9.out;omega)
         intro v217 w16 ho hb hg hat
         rw [← Ny216.out] at ho
         have n0_:=Aside0.mk (blk_grown (g:=gb213) (o:=.cells #[.slice A212_0 ((rd_T33 l0 x8_1).f0).length c212_0,.int .i64 ((rd_T33 l0 x8_1).f1)] 33 (0,0)) (by (with_reducible repeat (first|refine blk_drewN ?_ _|refine blk_drew ?_|refine blk_alloc ?_ _));exact BK213.out) hg (Kd.R_ne HO_3.out BK213.out (by decide)))
         have n1_:=Aside0.mk (hb)
         have n2_:=Aside0.mk (ho)
         clear BK213
         clear HB
         clear HO_3
         have BK213:=n0_
         have HB:=n1_
         have HO218:=n2_
         clear n0_ n1_ n2_
         clear ho hb hg hat
         refine hK.out _ _ ⟨(blk_cell BK213.out 0).trans rfl,(blk_cell BK213.out 1).trans rfl⟩ (fun hHeld=>?_)
         clear hK K
         refine norm_ (a':=?_) ?_ ?_
         rotate_left
         ·show Act.put _ (some 22) _=_
          simp only [Act.put,zp1,zp2,zp3,i64_w,i32_w]
          rfl
         refine pure_ (i:=11) (N:=some 3) (v:=?_) (a':=?_) #[Y,Y,Y,Y,Y,Y,Y,Y,Y,Y,Y,Y] rfl rfl zan (fun _ _ _ h=>h) (Or.inl ⟨by rfl,?_⟩) ?_ ?_
         rotate_left
         ·intro w'
          go_simp
          with_reducible rfl
         rotate_left
         ·simp only [Act.put,zp1,zp2,zp3,i64_w,i32_w]
          rfl
         refine done_ (done_of HT_.out (by kernel_rfl)) ?_
         try go_wp2
         go_roundg k1
         case measure=>have:=HK1.out;omega
         case rel=>exact ⟨(y216),(wrap64 (x8_1 + 1)),(by first|rfl|(simp;done)|(simp [*];done)),H',⟨by have:=HK1.out;omega⟩,⟨by (with_reducible repeat (first|apply Kd.R_alloc|apply Kd.R_drewN|apply Kd.R_drew));exact HO218.out⟩,⟨by repeat (first|(with_reducible first|exact HB.out|apply below_alloc|apply pw_below_drewN|apply below_drew1|refine below_set ?_ GE213.out)|exact HB.out)⟩⟩
        ·rw [if_neg c9] at H
         exact absurd H (by simp)
       ·rw [if_neg c8] at H
        exact absurd H (by simp)
      ·rw [if_neg c6] at H
       exact absurd H (by simp)
     ·rw [if_neg c4] at H
      exact absurd H (by simp)
    ·rw [if_neg c3] at H
     exact absurd H (by simp)
   ·rw [if_neg c2] at H
    have c2b0:decide (x8_1 < (l0.length:Int))=false:=decide_eq_false c2
    clear c2
    replace H:=Option.bind_eq_some_iff.mp H
    obtain ⟨t219,A170,H⟩:=H
    (try dsimp only at H)
    have A17:=Aside0.mk A170
    clear A170
    obtain rfl:=Option.some.inj H
    obtain ⟨Ao18,co18,eo18⟩:=Kd.R_slice HO_3.out
    subst eo18
    go_wp2_with (first|((with_reducible refine gate_callee (f:=30) rfl ?_);refine goesL_ (some 25) rfl rfl Tryz.func30 (by kernel_rfl) rfl #[.slice Ao18 x3_1.length co18,.string (⟨#[32]⟩:ByteArray)] rfl zar ?_;(with_reducible refine (strings_Join.calls _ _ x3_1 (⟨#[32]⟩:ByteArray) t219 _ ?side1 ?side2 A17.out).mono ?_);(case side1=>repeat (first|exact (Kd.R_reads' HO_3.out).2.2|(with_reducible refine Kd.C_alloc ?_ _)|(with_reducible refine Kd.C_drewN ?_ _)|(with_reducible refine Kd.C_drew ?_)));(case side2=>exact (Kd.R_reads' HO_3.out).2.1);rintro e w19 ⟨rfl,hb⟩;refine ⟨_,rfl,?_⟩;have n0_:=Aside0.mk (Kd.R_below (by (with_reducible repeat (first|apply Kd.R_alloc|apply Kd.R_drewN|apply Kd.R_drew));exact HO_3.out) hb);have n1_:=Aside0.mk (below_step zhb hb);clear HO_3;clear HB;have HO_3:=n0_;have HB:=n1_;clear n0_ n1_;(try clear hb);(try clear hb2);(try clear hk);(try clear hi)))
    go_ret
    exact ⟨by first|rfl|(simp [errW_none,errW_some] <;> rfl)|(simp [*,errW_none,errW_some] <;> rfl),zhb⟩

/-! ### strings_Split: function 24 (by hand) -/
def splitF (a0 a1:ByteArray):List ByteArray:=Lib.splitB a1 0 (Lib.countB a0 a1) a0
def strings_Split.f (a0:ByteArray) (a1:ByteArray):Option (List ByteArray):=if a0.size≤1048576 then (if 1≤a1.size then (if (splitF a0 a1).length=Lib.countB a0 a1 + 1 then (if Lib.countB a0 a1≤1048576 then some (splitF a0 a1) else none) else none) else none) else none
theorem strings_Split.calls (a0:ByteArray) (a1:ByteArray) (r:List ByteArray) (w:World) (h:strings_Split.f a0 a1=some r) (hT:TxtW w:=by exact TxtW.on HT0.out zhb) :
  Calls Tryz.prog 24 #[.string a0,.string a1] w fun e w'=>∃ v0_:Value,e=.returned v0_∧Kd.R Kd.string 9 w' w.heap.size (fun _=>True) v0_ r∧Below w.heap.size w w':=by
 unfold strings_Split.f at h
 by_cases h1:a0.size≤1048576
 case neg=>rw [if_neg h1] at h;cases h
 rw [if_pos h1] at h
 by_cases h2:1≤a1.size
 case neg=>rw [if_neg h2] at h;cases h
 rw [if_pos h2] at h
 by_cases h3:(splitF a0 a1).length=Lib.countB a0 a1 + 1
 case neg=>rw [if_neg h3] at h;cases h
 rw [if_pos h3] at h
 by_cases h4:Lib.countB a0 a1≤1048576
 case neg=>rw [if_neg h4] at h;cases h
 rw [if_pos h4] at h
 obtain rfl:=Option.some.inj h
 obtain ⟨-,-,-,m,hm⟩:=hT
 refine (Tryz.strings_Split a0 a1 m w (by omega) hm h2).mono ?_
 rintro e w' ⟨rfl,rfl⟩
 have hM:maxLen=9223372036854775807:=rfl
 refine ⟨_,rfl,Kd.R_of_own (h1:=fun _=>rfl) ⟨?_,.inr ⟨w.heap.size,_,_,by rw [h3],Nat.le_refl _,blk_new w _,by omega,by omega,?_,?_⟩⟩ (fun _ _=>trivial),below_alloc (Below.refl _ _) _⟩
 ·simp [encs]
 ·rw [Nat.mul_one,← h3];simp [splitF]
 ·rw [Nat.mul_one]
  show (((splitF a0 a1).map Value.string).toArray).toList.take _=_
  rw [List.toList_toArray,List.take_of_length_le (by simp)]
  rfl

/-! ### strings_Cut: function 25 (by hand) -/
def cutF (a0 a1:ByteArray):ByteArray × ByteArray × Bool:=(⟨(Lib.cut a0.data.toList a1.data.toList).1.toArray⟩,⟨(Lib.cut a0.data.toList a1.data.toList).2.1.toArray⟩,(Lib.cut a0.data.toList a1.data.toList).2.2)
def strings_Cut.f (a0:ByteArray) (a1:ByteArray):Option (ByteArray × ByteArray × Bool):=if a0.size≤1048576 then some (cutF a0 a1) else none
theorem strings_Cut.calls (a0:ByteArray) (a1:ByteArray) (r1:ByteArray) (r2:ByteArray) (r3:Bool) (w:World) (h:strings_Cut.f a0 a1=some (r1,r2,r3)) (hT:TxtW w:=by exact TxtW.on HT0.out zhb) :
  Calls Tryz.prog 25 #[.string a0,.string a1] w fun e w'=>e=.returned (.tuple #[.string r1,.string r2,.bool r3])∧Below w.heap.size w w':=by
 unfold strings_Cut.f at h
 by_cases h1:a0.size≤1048576
 case neg=>rw [if_neg h1] at h;cases h
 rw [if_pos h1] at h
 unfold cutF at h
 simp only [Option.some.injEq,Prod.mk.injEq] at h
 obtain ⟨rfl,rfl,rfl⟩:=h
 obtain ⟨-,-,-,m,hm⟩:=hT
 refine (Tryz.strings_Cut a0 a1 m w (by omega) hm).mono ?_
 rintro e w' ⟨rfl,n,rfl⟩
 exact ⟨rfl,pw_below_drewN (Below.refl _ _) n⟩

end Go.Proofs.YtgcplipimcbhlaaGreatDoor.PFnZRead
