-- Written by wip/tools/pp.py, a program of this session over the kit's printer: not the kit's own print
import Derived.Test.YtgcplipimcbhlaaDoorPFnExactZReadx0
import Derived.Test.YtgcplipimcbhlaaDoorPFnExactZReadx5
import Derived.Test.YtgcplipimcbhlaaDoorPFnExactZReadx6
namespace Go.Proofs.YtgcplipimcbhlaaDoor.PFnExactZRead
open Go.RowKit Go.Proofs.YtgcplipimcbhlaaDoorW.PrintWords Go.Proofs.YtgcplipimcbhlaaDoorW.PrintLast Go.Proofs.YtgcplipimcbhlaaDoorW.PrintMore
attribute [local go_sem] max2_int min2_int max_two min_two max_three min_three max_four min_four   -- for this text's walks alone
set_option linter.unusedVariables false
set_option linter.unusedSimpArgs false

/-! ### impl_RowRead: function 28 (by hand) -/
/-- the cells of a text: what stands between its commas, read as numbers; none, if one is no number -/
def goB:List UInt8→List Int→List UInt8→Option (List Int)
 | _,rs,[]=>some rs
 | cur,rs,c :: l=>if c=44 then (match Lib.atoiAll cur with | .ok v=>goB [] (rs ++ [v]) l | _=>none) else goB (cur ++ [c]) rs l
theorem goB_skip : ∀ (m l:List UInt8) (cur:List UInt8) (rs:List Int),(∀ c ∈ m,c≠44)→goB cur rs (m ++ l)=goB (cur ++ m) rs l:=by
 intro m
 induction m with
 | nil=>intro l cur rs _;simp
 | cons c m ih =>
  intro l cur rs h
  rw [List.cons_append,goB,if_neg (h c List.mem_cons_self),ih _ _ _ (fun x hx=>h x (List.mem_cons_of_mem _ hx)),List.append_assoc]
  rfl
/-- a rune that is no ASCII byte passes over no comma -/
theorem decode_skip (s:ByteArray) (pos:Nat) (h:pos < s.size) (ha:128≤(s.get! pos).toNat):1≤(Utf8.decode s pos).2∧pos + (Utf8.decode s pos).2≤s.size∧128≤(Utf8.decode s pos).1∧∀ k,k < (Utf8.decode s pos).2→128≤(s.get! (pos + k)).toNat:=by
 rw [Lib.decode_at]
 unfold Lib.decodeN
 rw [if_neg (by omega)]
 repeat' split
 all_goals refine ⟨by simp only;omega,by simp only;omega,by simp only;omega,?_⟩
 all_goals intro k hk
 all_goals simp only at hk
 all_goals rcases k with _|_|_|_|k
 all_goals first|exact ha|(exfalso;omega)|(show 128≤(s.get! (pos + 1)).toNat;omega)|(show 128≤(s.get! (pos + 2)).toNat;omega)|(show 128≤(s.get! (pos + 3)).toNat;omega)

def impl_RowRead.f (k:Nat) (a0:ByteArray):Option (List Int × Bool) :=
 if a0.size > 100 then some ([],false) else
  match goB [] [] (a0.data.toList ++ [44]) with
  | none=>some ([],false)
  | some rs=>(impl_RowOk.f k rs).bind fun b=>if b=true then ((impl_RowText.f rs).bind fun t=>if t=a0 then some (rs,true) else some ([],false)) else some ([],false)
theorem impl_RowRead.mono : ∀ a0 k,LeO (impl_RowRead.f k a0) (impl_RowRead.f (k + 1) a0):=by
 intro a0 k
 unfold impl_RowRead.f
 refine LeO.ite (LeO.refl _) ?_
 cases goB [] [] (a0.data.toList ++ [44]) with
 | none=>exact LeO.refl _
 | some rs=>exact LeO.bind (impl_RowOk.mono _ _) (fun _=>LeO.refl _)
theorem bytes_ne {a b:ByteArray} (h:a≠b):(a.toList == b.toList)=false:=by
 rw [beq_eq_false_iff_ne]
 intro e
 rw [Lib.toList_data,Lib.toList_data] at e
 exact h (ByteArray.ext (Array.toList_inj.1 e))
theorem take_more (l:List UInt8) (f p n:Nat) (h:f≤p):(l.drop f).take (p + n - f)=(l.drop f).take (p - f) ++ (l.drop p).take n:=by
 rw [show p + n - f=(p - f) + n by omega,List.take_add,List.drop_drop,show f + (p - f)=p by omega]
/-- a rune that is no comma is passed over -/
theorem step_other (S:ByteArray) (pos f:Nat) (rs:List Int) (h:pos < S.size) (hf:f≤pos) (h44:(Utf8.decode S pos).1≠44):pos + (Utf8.decode S pos).2≤S.size∧1≤(Utf8.decode S pos).2 ∧
  goB ((S.data.toList.drop f).take (pos + (Utf8.decode S pos).2 - f)) rs (S.data.toList.drop (pos + (Utf8.decode S pos).2))=goB ((S.data.toList.drop f).take (pos - f)) rs (S.data.toList.drop pos):=by
 have hl:S.data.toList.length=S.size:=Array.length_toList
 have hget : ∀ k,pos + k < S.size→∀ c,S.data.toList[pos + k]?=some c→c=S.get! (pos + k):=by
  intro k hk c hc
  rw [List.getElem?_eq_getElem (by omega)] at hc
  rw [← Option.some.inj hc]
  show _=S.data[pos + k]!
  rw [getElem!_pos S.data (pos + k) (by exact hk)]
  exact Array.getElem_toList ..
 have key:1≤(Utf8.decode S pos).2∧pos + (Utf8.decode S pos).2≤S.size∧∀ k,k < (Utf8.decode S pos).2→S.get! (pos + k)≠44:=by
  by_cases ha:(S.get! pos).toNat < 128
  ·have e:S[pos]'h=S.get! pos:=(get_at S pos h).symm
   have hd:=decode_ascii S pos h (by rw [e];exact ha)
   rw [hd]
   refine ⟨Nat.le_refl _,h,fun k hk=>?_⟩
   have hk0:k=0:=by simp only at hk;omega
   subst hk0
   intro e44
   rw [hd] at h44
   apply h44
   show (S[pos]'h).toNat=44
   rw [e]
   have:S.get! pos=44:=e44
   rw [this]
   rfl
  ·obtain ⟨h1,h2,h3,h4⟩:=decode_skip S pos h (by omega)
   refine ⟨h1,h2,fun k hk e44=>?_⟩
   have:=h4 k hk
   rw [e44] at this
   exact absurd this (by decide)
 refine ⟨key.2.1,key.1,?_⟩
 rw [take_more _ f pos _ hf,show S.data.toList.drop pos=(S.data.toList.drop pos).take (Utf8.decode S pos).2 ++ S.data.toList.drop (pos + (Utf8.decode S pos).2) by rw [← List.drop_drop,List.take_append_drop]]
 rw [goB_skip]
 ·rw [List.take_append_of_le_length (by rw [List.length_take,List.length_drop];omega),List.take_take,Nat.min_self]
 ·intro c hc
  obtain ⟨k,hk⟩:=List.getElem?_of_mem hc
  have hk':k < (Utf8.decode S pos).2:=by
   have:=(List.getElem?_eq_some_iff.1 hk).1
   rw [List.length_take] at this
   omega
  rw [List.getElem?_take_of_lt hk',List.getElem?_drop] at hk
  rw [hget k (by omega) c hk]
  exact key.2.2 k hk'
theorem step_comma (a0 S:ByteArray) (hS:S.data.toList=a0.data.toList ++ [44]) (pos f:Nat) (h:pos < S.size) (hf:f≤pos) (hp:pos≤a0.size) (h44:(Utf8.decode S pos).1=44) :
  (Utf8.decode S pos).2=1∧(a0.extract f pos).data.toList=(S.data.toList.drop f).take (pos - f)∧S.data.toList.drop pos=44 :: S.data.toList.drop (pos + 1):=by
 have hl:a0.data.toList.length=a0.size:=Array.length_toList
 have hb:(S.get! pos).toNat < 128:=by
  by_cases ha:(S.get! pos).toNat < 128
  ·exact ha
  ·have:=(decode_skip S pos h (by omega)).2.2.1
   omega
 have e:S[pos]'h=S.get! pos:=(get_at S pos h).symm
 have hd:=decode_ascii S pos h (by rw [e];exact hb)
 refine ⟨by rw [hd],?_,?_⟩
 ·rw [hS,List.drop_append_of_le_length (by omega),List.take_append_of_le_length (by rw [List.length_drop];omega)]
  simp [ByteArray.data_extract]
 ·have hsl:pos < S.data.toList.length:=by rw [Array.length_toList];exact h
  rw [List.drop_eq_getElem_cons hsl]
  congr 1
  have:(S[pos]'h).toNat=44:=by rw [hd] at h44;exact h44
  have e2:S.data.toList[pos]=S[pos]'h:=Array.getElem_toList ..
  rw [e2]
  exact UInt8.toNat_inj.1 this
theorem infoInt:(Tryd.prog.info? 3).map (fun i=>(i.zero,i.size,i.bytes))=some (some (.int .i64 0),1,8):=by kernel_rfl
theorem below_iter {w W:World} (hb:Below w.heap.size w W) (s:ByteArray) (p:Nat):Below w.heap.size w (W.iterAt w.heap.size s p):=Lib.below_iterAt hb (k:=w.heap.size) (Nat.le_refl _) s p
theorem own_iter {W:World} {n:Nat} {e:TypeId} {v:Value} {m:Nat} {xs:List Value} (h:W.ownsRow (n + 1) e 1 v m xs) (s:ByteArray) (p:Nat):(W.iterAt n s p).ownsRow (n + 1) e 1 v m xs :=
 own_move h (fun k hk=>Lib.iterAt_other W n k s p (by have:=(h.lt k hk).1;omega))
set_option maxHeartbeats 8000000 in
set_option maxRecDepth 100000 in
theorem impl_RowRead.calls (k:Nat) (a0:ByteArray) (r1:List Int) (r2:Bool) (w:World) (h:impl_RowRead.f k a0=some (r1,r2)) (hT:TxtW w:=by exact TxtW.on HT0.out zhb) :
  Calls Tryd.prog 28 #[.string a0] w fun e w'=>∃ v0_:Value,e=.returned (.tuple #[v0_,.bool r2])∧Kd.R (Kd.int .i64) 3 w' w.heap.size (fun _=>True) v0_ r1∧Below w.heap.size w w':=by
 have HT:=Aside0.mk hT
 clear hT
 unfold impl_RowRead.f at h
 by_cases h0:a0.size > 100
 ·rw [if_pos h0] at h
  injection h with h
  injection h with e1 e2
  subst e1 e2
  have c0:decide (100 < (a0.size:Int))=true:=decide_eq_true (by omega)
  clear h0
  go_enter Tryd.func28,Tryd.ntmps28
  go_wp2
  go_step3
  go_wp2
  rw [Exit.noGoto_ret]
  go_ret2
  exact ⟨_,rfl,Kd.R_nil _ _ _ _ _,Below.refl _ _⟩
 rw [if_neg h0] at h
 have HF:=Aside0.mk h
 clear h
 have c0:decide (100 < (a0.size:Int))=false:=decide_eq_false (by omega)
 have hcat:a0.size + 1≤9223372036854775807:=by omega
 obtain ⟨S,hS⟩ : ∃ S,S=a0 ++ (⟨#[44]⟩:ByteArray):=⟨_,rfl⟩
 have hSz:S.size=a0.size + 1:=by rw [hS,ByteArray.size_append];rfl
 have HS:=Aside0.mk hS
 have HSZ:=Aside0.mk hSz
 have HSD:=Aside0.mk (show S.data.toList=a0.data.toList ++ [44] by rw [hS,ByteArray.data_append,Array.toList_append])
 have HA:=Aside0.mk (show a0.size≤100 by omega)
 have hS':=hS.symm
 obtain ⟨i0,hi,hz0,hz1,hz2⟩:=info_parts infoInt
 clear hS hSz h0
 go_enter Tryd.func28,Tryd.ntmps28
 go_wp2
 go_step3
 go_wp2
 go_step3
 go_wp2
 go_loopw [4,5] (fun v f wr=>∃ (pos from_:Nat) (rs:List Int),pos≤S.size∧from_≤pos∧f=.int .i64 from_∧wr.heap[w.heap.size]?=some (.stringIter S pos)∧wr.ownsRow (w.heap.size + 1) 3 1 v rs.length (encs (Value.int .i64) rs)∧Below w.heap.size w wr∧rs.length≤from_∧goB ((S.data.toList.drop from_).take (pos - from_)) rs (S.data.toList.drop pos)=goB [] [] S.data.toList)
  (fun _ _ wr=>S.size - wr.iterPos w.heap.size)
 case atStart =>
  refine ⟨0,0,[],Nat.zero_le _,Nat.le_refl _,rfl,?_,World.ownsRow_nil _ _ _ _,?_,Nat.le_refl _,?_⟩
  ·rw [HS.out];exact World.iter_heap w _ 0
  ·exact (Below.refl _ w).alloc (Nat.le_refl _) _
  ·simp
 case round =>
  obtain ⟨pos,from_,rs,hp,hfp,rfl,hit,hown,hnx,hrl,hgo⟩:=hrel
  have HIT:=Aside0.mk hit
  have HOW:=Aside0.mk hown
  have HNX:=Aside0.mk hnx
  have HGO:=Aside0.mk hgo
  have HRL:=Aside0.mk hrl
  have HFP:=Aside0.mk hfp
  have HSI:=Aside0.mk (show w.heap.size < wr.heap.size from (Array.getElem?_eq_some_iff.1 hit).1)
  clear hit hown hnx hgo hrl hfp
  by_cases hlt:pos < S.size
  case neg =>
   have hnext : ∀ ty,(Instr.next (.pointer (some ⟨w.heap.size,0,none⟩)) true ty).run Tryd.prog wr=_:=fun ty=>Lib.run_next_end_at wr w.heap.size S pos ty HIT.out hlt
   have HG:=Aside0.mk (show goB [] [] (a0.data.toList ++ [44])=some rs by
    rw [← HSD.out,← HGO.out,show S.data.toList.drop pos = [] from List.drop_of_length_le (by rw [Array.length_toList];show S.size≤pos;omega),goB])
   have h:=HF.out
   rw [HG.out] at h
   replace h:=Option.bind_eq_some_iff.mp h
   obtain ⟨b,h_,h⟩:=h
   have A1:=Aside0.mk h_
   have HR:=Aside0.mk (Kd.R_of_own (h1:=fun _=>rfl) (ok:=fun _=>True) HOW.out (fun _ _=>trivial))
   obtain ⟨a4,c4,rfl⟩:=Kd.R_slice HR.out
   have HX:=Aside0.mk (Kd.R_reads' HR.out).2.2
   have HP:=Aside0.mk (Kd.R_reads' HR.out).2.1
   clear h_ HF hlt hp
   cases b with
   | false =>
    rw [if_neg (by decide)] at h
    injection h with h
    injection h with e1 e2
    subst e1 e2
    go_wp2_with fail
    refine (impl_RowOk.calls k _ _ rs false _ HX.out HP.out A1.out).mono ?_
    rintro e w1 ⟨rfl,hd⟩
    have hb:Below wr.heap.size wr w1:=by obtain ⟨n,rfl⟩:=hd;exact pw_below_drewN (Below.refl _ _) n
    have HB1:=Aside0.mk (HNX.out.trans (hb.mono HNX.out.size))
    clear hb hd
    go_wp2
    rw [Exit.noGoto_ret]
    go_ret2
    exact ⟨_,rfl,Kd.R_nil _ _ _ _ _,HB1.out⟩
   | true =>
   rw [if_pos rfl] at h
   replace h:=Option.bind_eq_some_iff.mp h
   obtain ⟨t,h_,h⟩:=h
   have A2:=Aside0.mk h_
   have HH:=Aside0.mk h
   clear h_ h
   go_wp2_with fail
   refine (impl_RowOk.calls k _ _ rs true _ HX.out HP.out A1.out).mono ?_
   rintro e w1 ⟨rfl,hd⟩
   have hb:Below wr.heap.size wr w1:=by obtain ⟨n,rfl⟩:=hd;exact pw_below_drewN (Below.refl _ _) n
   have HB1:=Aside0.mk (HNX.out.trans (hb.mono HNX.out.size))
   have HBq:=Aside0.mk hb
   clear hb hd
   go_wp2_with fail
   refine (impl_RowText.calls _ _ rs t _ (Kd.C_below HX.out HBq.out) HP.out A2.out (Lib.tabBelow_of_tabIs HT.out.1 _ HB1.out)).mono ?_
   rintro e w2 ⟨rfl,hb⟩
   have HB2:=Aside0.mk (HB1.out.trans (hb.mono HB1.out.size))
   have HBr:=Aside0.mk (below_step HBq.out hb)
   clear hb
   have h:=HH.out
   clear HH
   by_cases ht:t=a0
   ·subst ht
    rw [if_pos rfl] at h
    injection h with h
    injection h with e1 e2
    subst e1 e2
    go_wp2
    rw [Exit.noGoto_ret]
    go_ret2
    exact ⟨_,rfl,Kd.R_lower (Kd.R_below HR.out HBr.out) (Nat.le_succ _),HB2.out⟩
   ·rw [if_neg ht] at h
    injection h with h
    injection h with e1 e2
    subst e1 e2
    have ht0:=bytes_ne ht
    go_wp2
    rw [Exit.noGoto_ret]
    go_ret2
    exact ⟨_,rfl,Kd.R_nil _ _ _ _ _,HB2.out⟩
  have hnext : ∀ ty,(Instr.next (.pointer (some ⟨w.heap.size,0,none⟩)) true ty).run Tryd.prog wr=_:=fun ty=>Lib.run_next_any_at wr w.heap.size S pos ty HIT.out hlt
  by_cases h44:(Utf8.decode S pos).1=44
  case neg =>
   have i44b : ¬ ((Utf8.decode S pos).1:Int)=44:=by omega
   have HNI:=Aside0.mk (below_iter HNX.out S (pos + (Utf8.decode S pos).2))
   have HOI:=Aside0.mk (own_iter HOW.out S (pos + (Utf8.decode S pos).2))
   have HII:=Aside0.mk (Lib.iterAt_heap wr w.heap.size S pos (pos + (Utf8.decode S pos).2) HIT.out)
   have HST:=Aside0.mk (step_other S pos from_ rs hlt HFP.out h44)
   clear h44
   go_wp2_with fail
   go_roundw
   case rel =>
    exact ⟨pos + (Utf8.decode S pos).2,from_,rs,HST.out.1,by have:=HFP.out;omega,rfl,HII.out,HOI.out,HNI.out,HRL.out,HST.out.2.2.trans HGO.out⟩
   case measure =>
    simp only [World.iterPos,HII.out,HIT.out]
    have:=HST.out.2.1
    omega
  have i44b:((Utf8.decode S pos).1:Int)=44:=by omega
  have i44c:IntKind.i32.wrap 44=44:=rfl
  have hpa:pos≤a0.size:=by have:=HSZ.out;omega
  have hfp2:=HFP.out
  have HSC:=Aside0.mk (step_comma a0 S HSD.out pos from_ hlt hfp2 hpa h44)
  have hw1:=HSC.out.1
  rw [hw1] at hnext
  have HNI:=Aside0.mk (below_iter HNX.out S (pos + 1))
  have HOI:=Aside0.mk (own_iter HOW.out S (pos + 1))
  have HII:=Aside0.mk (Lib.iterAt_heap wr w.heap.size S pos (pos + 1) HIT.out)
  have HZI:=Aside0.mk (show w.heap.size + 1≤(wr.iterAt w.heap.size S (pos + 1)).heap.size by rw [Lib.iterAt_size];exact HSI.out)
  have HIP:=Aside0.mk (show wr.iterPos w.heap.size=pos by simp only [World.iterPos,HIT.out])
  have HLT:=Aside0.mk hlt
  have HG2:=Aside0.mk (show goB [] [] S.data.toList=(match Lib.atoiAll (a0.extract from_ pos).data.toList with | .ok v=>goB [] (rs ++ [v]) (S.data.toList.drop (pos + 1))|_=>none) by
   rw [← HGO.out,HSC.out.2.2,HSC.out.2.1,goB,if_pos rfl])
  have HEX:=Aside0.mk (show (a0.extract from_ pos).size≤100 by
   show (a0.extract from_ pos).data.size≤100
   rw [← Array.length_toList,HSC.out.2.1,List.length_take]
   have:=HA.out
   omega)
  obtain ⟨W1,hW1⟩ : ∃ W1,W1=wr.iterAt w.heap.size S (pos + 1):=⟨_,rfl⟩
  rw [← hW1] at hnext
  rw [← hW1] at HNI HOI HII HZI
  clear hW1 hw1 h44 hlt
  have hret : ∀ (z:Lib.NumEnd Int),Lib.atoiAll (a0.extract from_ pos).data.toList=z→(∀ v,z≠.ok v)→r1 = []∧r2=false:=by
   intro z hz hn
   have h1:=HF.out
   have h2:=HG2.out
   rw [HSD.out,hz] at h2
   rw [h2] at h1
   cases z with
   | ok v=>exact absurd rfl (hn v)
   | range=>simp at h1;exact ⟨h1.1,h1.2⟩
   | _=>simp at h1;exact ⟨h1.1,h1.2⟩
  have HRT:=Aside0.mk hret
  clear hret
  cases hat:Lib.atoiAll (a0.extract from_ pos).data.toList with
  | ok v =>
   have HAT:=Aside0.mk hat
   clear hat
   go_wp2_with (go_at_call 40;refine (Tryd.strconv_Atoi_ok _ (by have:=HEX.out;omega) v HAT.out W1).mono ?_;rintro e W2 ⟨rfl,hw⟩;refine Hid.out ?_)
   refine Lib.hid ?_
   have hb:Below W1.heap.size W1 W2:=by
    rcases hw with rfl|⟨t,rfl⟩
    ·exact Below.refl _ _
    ·exact Lib.bytesWorld_below W1 _ t
   have HB1:=Aside0.mk hb
   have HNW:=Aside0.mk (HNI.out.trans (hb.mono HNI.out.size))
   have HOJ:=Aside0.mk (own_move HOI.out (fun k hk=>hb.block k (by
    obtain ⟨cells,hc⟩:=own_typed HOI.out k hk
    exact (Array.getElem?_eq_some_iff.1 hc).1)))
   have HIJ:=Aside0.mk ((hb.block _ (by have:=HZI.out;omega)).trans HII.out)
   have HZJ:=Aside0.mk (Nat.le_trans HZI.out hb.size)
   have HLN:=Aside0.mk (show rs.length≤100 by have:=HRL.out;have:=HFP.out;have:=HA.out;omega)
   have HWR:=Aside0.mk (show wrap64 ((pos:Int) + 1)=((pos + 1:Nat):Int) by have:=HA.out;unfold wrap64;omega)
   clear hw hb hfp2
   go_wp2_with (at_builtin;refine wpList_append_own _ rfl _ _ 28 rfl (w.heap.size + 1) 3 i0 (.int .i64 0) 1 8 Tryd.underlying28 hi hz0 hz1 hz2 rfl (by decide) _ _ _ rfl (HOJ.out.alloc _) ⟨W2.heap.size,0,none⟩ 1 1 [Value.int .i64 v] rfl rfl (by intro j u' hj;match j,hj with|0,hj=>simp at hj;subst hj;simp [Addr.add]) (by intro u' hu';simp at hu';subst hu';rfl) (by have:=HLN.out;unfold maxLen;omega) (by have:=HLN.out;omega) (by have:=HZJ.out;simp;omega) ?_)
   intro v3 w3 hown3 hgrow _
   have hnx3:Below w.heap.size w w3:=(HNW.out.alloc (by have:=HZJ.out;omega) _).grown hgrow (by have:=HZJ.out;simp;omega) (fun k_ hk_=>Nat.le_trans (Nat.le_succ _) (HOJ.out.lt k_ hk_).1)
   have hit3:w3.heap[w.heap.size]?=some (.stringIter S (pos + 1)):=by
    have h1:Below (w.heap.size + 1) W2 w3:=((Below.refl (w.heap.size + 1) W2).alloc HZJ.out _).grown hgrow (by have:=HZJ.out;simp;omega) (fun k_ hk_=>(HOJ.out.lt k_ hk_).1)
    exact (h1.block _ (Nat.lt_succ_self _)).trans HIJ.out
   have HOW3:=Aside0.mk hown3
   have HNX3:=Aside0.mk hnx3
   have HIT3:=Aside0.mk hit3
   clear hown3 hgrow hnx3 hit3
   go_wp2
   go_roundw
   case rel =>
    refine ⟨pos + 1,pos + 1,rs ++ [v],HLT.out,Nat.le_refl _,by first|rfl|simp,HIT3.out,?_,HNX3.out,?_,?_⟩
    ·have:=HOW3.out
     simpa [encs] using this
    ·have:=HRL.out;have:=HFP.out;rw [List.length_append,List.length_singleton];omega
    ·rw [Nat.sub_self,List.take_zero,HG2.out,HAT.out]
   case measure =>
    simp only [World.iterPos,HIT3.out]
    have:=HLT.out
    have h2:=HIP.out
    simp only [World.iterPos] at h2
    rw [h2]
    omega
  | range =>
   obtain ⟨rfl,rfl⟩:=HRT.out _ hat (fun v=>by intro h;cases h)
   have HAT:=Aside0.mk hat
   clear hat
   obtain ⟨tp,p,hv⟩:=(HT.out.on HNI.out).2.2.1
   have HV:=Aside0.mk hv
   clear hv
   go_wp2_with (go_at_call 40;refine (Tryd.strconv_Atoi_range_var _ (by have:=HEX.out;omega) HAT.out tp p W1 HV.out).mono ?_;rintro e W2 ⟨N,rfl,-,-,hb⟩;have HB2:=Aside0.mk (HNI.out.trans (hb.mono HNI.out.size));clear hb)
   rw [Exit.noGoto_ret]
   go_ret2
   exact ⟨_,rfl,Kd.R_nil _ _ _ _ _,HB2.out⟩
  | _ =>
   obtain ⟨rfl,rfl⟩:=HRT.out _ hat (fun v=>by intro h;cases h)
   have HAT:=Aside0.mk hat
   clear hat
   obtain ⟨tp,p,hv⟩:=(HT.out.on HNI.out).2.1
   have HV:=Aside0.mk hv
   clear hv
   go_wp2_with (go_at_call 40;refine (Tryd.strconv_Atoi_syntax_var _ (by have:=HEX.out;omega) HAT.out tp p W1 HV.out).mono ?_;rintro e W2 ⟨N,rfl,-,-,hb⟩;have HB2:=Aside0.mk (HNI.out.trans (hb.mono HNI.out.size));clear hb)
   rw [Exit.noGoto_ret]
   go_ret2
   exact ⟨_,rfl,Kd.R_nil _ _ _ _ _,HB2.out⟩

/-! ### strings_Split: function 38 (by hand) -/
def splitF (a0 a1:ByteArray):List ByteArray:=Lib.splitB a1 0 (Lib.countB a0 a1) a0
def strings_Split.f (a0:ByteArray) (a1:ByteArray):Option (List ByteArray):=if a0.size≤1048576 then (if 1≤a1.size then (if (splitF a0 a1).length=Lib.countB a0 a1 + 1 then (if Lib.countB a0 a1≤1048576 then some (splitF a0 a1) else none) else none) else none) else none
theorem strings_Split.calls (a0:ByteArray) (a1:ByteArray) (r:List ByteArray) (w:World) (h:strings_Split.f a0 a1=some r) (hT:TxtW w:=by exact TxtW.on HT0.out zhb) :
  Calls Tryd.prog 38 #[.string a0,.string a1] w fun e w'=>∃ v0_:Value,e=.returned v0_∧Kd.R Kd.string 9 w' w.heap.size (fun _=>True) v0_ r∧Below w.heap.size w w':=by
 unfold strings_Split.f at h
 by_cases h1:a0.size≤1048576
 case neg=>rw [if_neg h1] at h;cases h
 rw [if_pos h1] at h
 by_cases h2:1≤a1.size
 case neg=>rw [if_neg h2] at h;cases h
 rw [if_pos h2] at h
 by_cases h3:(splitF a0 a1).length=Lib.countB a0 a1 + 1
 case neg=>rw [if_neg h3] at h;cases h
 rw [if_pos h3] at h
 by_cases h4:Lib.countB a0 a1≤1048576
 case neg=>rw [if_neg h4] at h;cases h
 rw [if_pos h4] at h
 obtain rfl:=Option.some.inj h
 obtain ⟨-,-,-,m,hm⟩:=hT
 refine (Tryd.strings_Split a0 a1 m w (by omega) hm h2).mono ?_
 rintro e w' ⟨rfl,rfl⟩
 have hM:maxLen=9223372036854775807:=rfl
 refine ⟨_,rfl,Kd.R_of_own (h1:=fun _=>rfl) ⟨?_,.inr ⟨w.heap.size,_,_,by rw [h3],Nat.le_refl _,blk_new w _,by omega,by omega,?_,?_⟩⟩ (fun _ _=>trivial),below_alloc (Below.refl _ _) _⟩
 ·simp [encs]
 ·rw [Nat.mul_one,← h3];simp [splitF]
 ·rw [Nat.mul_one]
  show (((splitF a0 a1).map Value.string).toArray).toList.take _=_
  rw [List.toList_toArray,List.take_of_length_le (by simp)]
  rfl

/-! ### strings_Cut: function 39 (by hand) -/
def cutF (a0 a1:ByteArray):ByteArray × ByteArray × Bool:=(⟨(Lib.cut a0.data.toList a1.data.toList).1.toArray⟩,⟨(Lib.cut a0.data.toList a1.data.toList).2.1.toArray⟩,(Lib.cut a0.data.toList a1.data.toList).2.2)
def strings_Cut.f (a0:ByteArray) (a1:ByteArray):Option (ByteArray × ByteArray × Bool):=if a0.size≤1048576 then some (cutF a0 a1) else none
theorem strings_Cut.calls (a0:ByteArray) (a1:ByteArray) (r1:ByteArray) (r2:ByteArray) (r3:Bool) (w:World) (h:strings_Cut.f a0 a1=some (r1,r2,r3)) (hT:TxtW w:=by exact TxtW.on HT0.out zhb) :
  Calls Tryd.prog 39 #[.string a0,.string a1] w fun e w'=>e=.returned (.tuple #[.string r1,.string r2,.bool r3])∧Below w.heap.size w w':=by
 unfold strings_Cut.f at h
 by_cases h1:a0.size≤1048576
 case neg=>rw [if_neg h1] at h;cases h
 rw [if_pos h1] at h
 unfold cutF at h
 simp only [Option.some.injEq,Prod.mk.injEq] at h
 obtain ⟨rfl,rfl,rfl⟩:=h
 obtain ⟨-,-,-,m,hm⟩:=hT
 refine (Tryd.strings_Cut a0 a1 m w (by omega) hm).mono ?_
 rintro e w' ⟨rfl,n,rfl⟩
 exact ⟨rfl,pw_below_drewN (Below.refl _ _) n⟩

/-! ### strconv_Atoi: function 40 (by hand) -/
def strconv_Atoi.f (a0:ByteArray):Option (Int × Option Int):=if a0.size≤1048576 then (match Lib.atoiAll a0.data.toList with | .ok v=>some (v,none) | .range=>some (Lib.atoiSat a0.data.toList,some 0)|_=>some (0,some 0)) else none
/-- the error that goes with it: none, or one that is no nil -/
def ErrV:Option Int→Value→Prop
 | none,v=>v=.nilIface
 | some _,v=>∃ (t:TypeId) (p:Nat),v=.iface t (.pointer (some ⟨p,0,none⟩))
theorem strconv_Atoi.calls (a0:ByteArray) (r1:Int) (r2:Option Int) (w:World) (h:strconv_Atoi.f a0=some (r1,r2)) (hT:TxtW w:=by exact TxtW.on HT0.out zhb) :
  Calls Tryd.prog 40 #[.string a0] w fun e w'=>∃ ev:Value,ErrV r2 ev∧e=.returned (.tuple #[.int .i64 r1,ev])∧Below w.heap.size w w':=by
 unfold strconv_Atoi.f at h
 by_cases h1:a0.size≤1048576
 case neg=>rw [if_neg h1] at h;cases h
 rw [if_pos h1] at h
 obtain ⟨-,⟨t1,p1,hs⟩,⟨t2,p2,hr⟩,-⟩:=hT
 cases ha:Lib.atoiAll a0.data.toList with
 | ok v =>
  rw [ha] at h
  simp only [Option.some.injEq,Prod.mk.injEq] at h
  obtain ⟨rfl,rfl⟩:=h
  refine (Tryd.strconv_Atoi_ok a0 (by omega) v ha w).mono ?_
  rintro e w' ⟨rfl,h2⟩
  refine ⟨_,rfl,rfl,?_⟩
  rcases h2 with rfl|⟨t,rfl⟩
  ·exact Below.refl _ _
  ·exact Lib.bytesWorld_below w 5 t
 | range =>
  rw [ha] at h
  simp only [Option.some.injEq,Prod.mk.injEq] at h
  obtain ⟨rfl,rfl⟩:=h
  refine (Tryd.strconv_Atoi_range_var a0 (by omega) ha t2 p2 w hr).mono ?_
  rintro e w' ⟨N,rfl,-,-,hb⟩
  exact ⟨_,⟨_,_,rfl⟩,rfl,hb⟩
 | _ =>
  rw [ha] at h
  simp only [Option.some.injEq,Prod.mk.injEq] at h
  obtain ⟨rfl,rfl⟩:=h
  refine (Tryd.strconv_Atoi_syntax_var a0 (by omega) ha t1 p1 w hs).mono ?_
  rintro e w' ⟨N,rfl,-,-,hb⟩
  exact ⟨_,⟨_,_,rfl⟩,rfl,hb⟩

/-! ### cmp_isNaN_int: function 129 -/
def cmp_isNaN_int.f (a0:Int):Option (Bool):=some (a0 != a0)
set_option maxHeartbeats 8000000 in
set_option maxRecDepth 100000 in
theorem cmp_isNaN_int.calls (a0:Int) (r:Bool) (w:World) (h:cmp_isNaN_int.f a0=some r) :
  Calls Tryd.prog 129 #[.int .i64 a0] w fun e w'=>e=.returned (.bool r)∧Drawn0 w w':=by
 have H:(some (a0 != a0))=some r:=h
 clear h
 obtain rfl:=Option.some.inj H
 go_enter Tryd.func129,Tryd.ntmps129
 go_wp2
 go_ret
 exact ⟨by first|rfl|(simp;done)|(simp [*];done),zdw⟩

/-! ### cmp_Compare_int: function 117 -/
def cmp_Compare_int.f (a0:Int) (a1:Int):Option (Int):=(cmp_isNaN_int.f a0).bind fun t175=>((cmp_isNaN_int.f a1).bind fun t176=>(if t175=true then (if t176=true then (some 0) else (some (-1))) else (if t176=true then (some 1) else (if a0 < a1 then (some (-1)) else (if a0 > a1 then (some 1) else (some 0))))))
set_option maxHeartbeats 8000000 in
set_option maxRecDepth 100000 in
theorem cmp_Compare_int.calls (a0:Int) (a1:Int) (r:Int) (w:World) (h:cmp_Compare_int.f a0 a1=some r) :
  Calls Tryd.prog 117 #[.int .i64 a0,.int .i64 a1] w fun e w'=>e=.returned (.int .i64 r)∧Drawn0 w w':=by
 have H:((cmp_isNaN_int.f a0).bind fun t175=>((cmp_isNaN_int.f a1).bind fun t176=>(if t175=true then (if t176=true then (some 0) else (some (-1))) else (if t176=true then (some 1) else (if a0 < a1 then (some (-1)) else (if a0 > a1 then (some 1) else (some 0)))))))=some r:=h
 clear h
 replace H:=Option.bind_eq_some_iff.mp H
 obtain ⟨t175,A30,H⟩:=H
 (try dsimp only at H)
 have A3:=Aside0.mk A30
 clear A30
 replace H:=Option.bind_eq_some_iff.mp H
 obtain ⟨t176,A40,H⟩:=H
 (try dsimp only at H)
 have A4:=Aside0.mk A40
 clear A40
 by_cases c5:t175=true
 ·subst c5
  have H1:(if t176=true then (some 0) else (some (-1)))=some r:=by rw [if_pos rfl] at H;exact H
  clear H
  have H:=H1
  clear H1
  by_cases c6:t176=true
  ·subst c6
   have H1:(some 0)=some r:=by rw [if_pos rfl] at H;exact H
   clear H
   have H:=H1
   clear H1
   obtain rfl:=Option.some.inj H
   go_enter Tryd.func117,Tryd.ntmps117
   go_wp2_with (first|((with_reducible refine gate_callee (f:=129) rfl ?_);refine goesL_ (some 8) rfl rfl Tryd.func129 (by kernel_rfl) rfl #[.int .i64 a0] rfl zar ?_;(with_reducible refine (cmp_isNaN_int.calls a0 true _ A3.out).mono ?_);rintro e w' ⟨rfl,⟨nd,rfl⟩⟩;refine ⟨_,rfl,?_⟩)|((with_reducible refine gate_callee (f:=129) rfl ?_);refine goesL_ (some 10) rfl rfl Tryd.func129 (by kernel_rfl) rfl #[.int .i64 a1] rfl zar ?_;(with_reducible refine (cmp_isNaN_int.calls a1 true _ A4.out).mono ?_);rintro e w' ⟨rfl,⟨nd,rfl⟩⟩;refine ⟨_,rfl,?_⟩))
   go_ret
   exact ⟨by first|rfl|(simp;done)|(simp [*];done),zdw⟩
  ·replace c6:=Bool.eq_false_iff.mpr c6
   subst c6
   have H1:(some (-1))=some r:=by rw [if_neg (show ¬ (false=true) by decide)] at H;exact H
   clear H
   have H:=H1
   clear H1
   obtain rfl:=Option.some.inj H
   go_enter Tryd.func117,Tryd.ntmps117
   go_wp2_with (first|((with_reducible refine gate_callee (f:=129) rfl ?_);refine goesL_ (some 8) rfl rfl Tryd.func129 (by kernel_rfl) rfl #[.int .i64 a0] rfl zar ?_;(with_reducible refine (cmp_isNaN_int.calls a0 true _ A3.out).mono ?_);rintro e w' ⟨rfl,⟨nd,rfl⟩⟩;refine ⟨_,rfl,?_⟩)|((with_reducible refine gate_callee (f:=129) rfl ?_);refine goesL_ (some 10) rfl rfl Tryd.func129 (by kernel_rfl) rfl #[.int .i64 a1] rfl zar ?_;(with_reducible refine (cmp_isNaN_int.calls a1 false _ A4.out).mono ?_);rintro e w' ⟨rfl,⟨nd,rfl⟩⟩;refine ⟨_,rfl,?_⟩))
   go_ret
   exact ⟨by first|rfl|(simp;done)|(simp [*];done),zdw⟩
 ·replace c5:=Bool.eq_false_iff.mpr c5
  subst c5
  have H1:(if t176=true then (some 1) else (if a0 < a1 then (some (-1)) else (if a0 > a1 then (some 1) else (some 0))))=some r:=by rw [if_neg (show ¬ (false=true) by decide)] at H;exact H
  clear H
  have H:=H1
  clear H1
  by_cases c7:t176=true
  ·subst c7
   have H1:(some 1)=some r:=by rw [if_pos rfl] at H;exact H
   clear H
   have H:=H1
   clear H1
   obtain rfl:=Option.some.inj H
   go_enter Tryd.func117,Tryd.ntmps117
   go_wp2_with (first|((with_reducible refine gate_callee (f:=129) rfl ?_);refine goesL_ (some 8) rfl rfl Tryd.func129 (by kernel_rfl) rfl #[.int .i64 a0] rfl zar ?_;(with_reducible refine (cmp_isNaN_int.calls a0 false _ A3.out).mono ?_);rintro e w' ⟨rfl,⟨nd,rfl⟩⟩;refine ⟨_,rfl,?_⟩)|((with_reducible refine gate_callee (f:=129) rfl ?_);refine goesL_ (some 10) rfl rfl Tryd.func129 (by kernel_rfl) rfl #[.int .i64 a1] rfl zar ?_;(with_reducible refine (cmp_isNaN_int.calls a1 true _ A4.out).mono ?_);rintro e w' ⟨rfl,⟨nd,rfl⟩⟩;refine ⟨_,rfl,?_⟩))
   go_ret
   exact ⟨by first|rfl|(simp;done)|(simp [*];done),zdw⟩
  ·replace c7:=Bool.eq_false_iff.mpr c7
   subst c7
   have H1:(if a0 < a1 then (some (-1)) else (if a0 > a1 then (some 1) else (some 0)))=some r:=by rw [if_neg (show ¬ (false=true) by decide)] at H;exact H
   clear H
   have H:=H1
   clear H1
   by_cases c8:a0 < a1
   ·rw [if_pos c8] at H
    have c8b0:decide (a0 < a1)=true:=decide_eq_true c8
    clear c8
    obtain rfl:=Option.some.inj H
    go_enter Tryd.func117,Tryd.ntmps117
    go_wp2_with (first|((with_reducible refine gate_callee (f:=129) rfl ?_);refine goesL_ (some 8) rfl rfl Tryd.func129 (by kernel_rfl) rfl #[.int .i64 a0] rfl zar ?_;(with_reducible refine (cmp_isNaN_int.calls a0 false _ A3.out).mono ?_);rintro e w' ⟨rfl,⟨nd,rfl⟩⟩;refine ⟨_,rfl,?_⟩)|((with_reducible refine gate_callee (f:=129) rfl ?_);refine goesL_ (some 10) rfl rfl Tryd.func129 (by kernel_rfl) rfl #[.int .i64 a1] rfl zar ?_;(with_reducible refine (cmp_isNaN_int.calls a1 false _ A4.out).mono ?_);rintro e w' ⟨rfl,⟨nd,rfl⟩⟩;refine ⟨_,rfl,?_⟩))
    go_ret
    exact ⟨by first|rfl|(simp;done)|(simp [*];done),zdw⟩
   ·rw [if_neg c8] at H
    have c8b0:decide (a0 < a1)=false:=decide_eq_false c8
    clear c8
    by_cases c9:a0 > a1
    ·rw [if_pos c9] at H
     have c9b0:decide (a1 < a0)=true:=decide_eq_true c9
     clear c9
     obtain rfl:=Option.some.inj H
     go_enter Tryd.func117,Tryd.ntmps117
     go_wp2_with (first|((with_reducible refine gate_callee (f:=129) rfl ?_);refine goesL_ (some 8) rfl rfl Tryd.func129 (by kernel_rfl) rfl #[.int .i64 a0] rfl zar ?_;(with_reducible refine (cmp_isNaN_int.calls a0 false _ A3.out).mono ?_);rintro e w' ⟨rfl,⟨nd,rfl⟩⟩;refine ⟨_,rfl,?_⟩)|((with_reducible refine gate_callee (f:=129) rfl ?_);refine goesL_ (some 10) rfl rfl Tryd.func129 (by kernel_rfl) rfl #[.int .i64 a1] rfl zar ?_;(with_reducible refine (cmp_isNaN_int.calls a1 false _ A4.out).mono ?_);rintro e w' ⟨rfl,⟨nd,rfl⟩⟩;refine ⟨_,rfl,?_⟩))
     go_ret
     exact ⟨by first|rfl|(simp;done)|(simp [*];done),zdw⟩
    ·rw [if_neg c9] at H
     have c9b0:decide (a1 < a0)=false:=decide_eq_false c9
     clear c9
     obtain rfl:=Option.some.inj H
     go_enter Tryd.func117,Tryd.ntmps117
     go_wp2_with (first|((with_reducible refine gate_callee (f:=129) rfl ?_);refine goesL_ (some 8) rfl rfl Tryd.func129 (by kernel_rfl) rfl #[.int .i64 a0] rfl zar ?_;(with_reducible refine (cmp_isNaN_int.calls a0 false _ A3.out).mono ?_);rintro e w' ⟨rfl,⟨nd,rfl⟩⟩;refine ⟨_,rfl,?_⟩)|((with_reducible refine gate_callee (f:=129) rfl ?_);refine goesL_ (some 10) rfl rfl Tryd.func129 (by kernel_rfl) rfl #[.int .i64 a1] rfl zar ?_;(with_reducible refine (cmp_isNaN_int.calls a1 false _ A4.out).mono ?_);rintro e w' ⟨rfl,⟨nd,rfl⟩⟩;refine ⟨_,rfl,?_⟩))
     go_ret
     exact ⟨by first|rfl|(simp;done)|(simp [*];done),zdw⟩

/-! ### slices_Compare_int_int: function 98 -/
def slices_Compare_int_int.l0:Nat→List Int→List Int→List Int→Int→Int→Option (Int)
 | 0,_,_,_,_,_=>none
 | k + 1,x0,x1,x9,x10,x11=>if x11 < x10 then (if 0≤x11 then (if x11 < (x9.length:Int) then (if x11 ≥ (x1.length:Int) then (some 1) else (if x11 < (x1.length:Int) then ((cmp_Compare_int.f (rd x9 x11) (rd x1 x11)).bind fun t179=>(if t179=0 then (slices_Compare_int_int.l0 k x0 x1 x9 x10 (wrap64 (x11 + 1))) else (some t179))) else (none))) else (none)) else (none)) else (if (x0.length:Int) < (x1.length:Int) then (some (-1)) else (some 0))
def slices_Compare_int_int.f (k:Nat) (l0:List Int) (l1:List Int):Option (Int):=slices_Compare_int_int.l0 k l0 l1 l0 (l0.length:Int) 0
theorem slices_Compare_int_int.mono_l : ∀ k,(∀ y0 y1 y2 y3 y4,LeO (slices_Compare_int_int.l0 k y0 y1 y2 y3 y4) (slices_Compare_int_int.l0 (k + 1) y0 y1 y2 y3 y4))
 | 0=>fun _ _ _ _ _ r h=>by simp [slices_Compare_int_int.l0] at h
 | k + 1=>by
  have ih0:=slices_Compare_int_int.mono_l k
  ·intro y0 y1 y2 y3 y4
   unfold slices_Compare_int_int.l0
   repeat' first
   | (with_reducible exact ih0 _ _ _ _ _)
   | (with_reducible exact LeO.refl _)
   | (with_reducible exact LeO.none _)
   | (with_reducible refine LeO.ite ?_ ?_)
   | (with_reducible refine LeO.bind ?_ (fun _=>?_))
   | exact LeO.none _
   | refine LeO.ite ?_ ?_
   | refine LeO.bind ?_ (fun _=>?_)
theorem slices_Compare_int_int.mono : ∀ a0 a1 k,LeO (slices_Compare_int_int.f k a0 a1) (slices_Compare_int_int.f (k + 1) a0 a1):=by
 intro a0 a1 k
 have ih0:=slices_Compare_int_int.mono_l k
 unfold slices_Compare_int_int.f
 repeat' first
   | (with_reducible exact ih0 _ _ _ _ _)
   | (with_reducible exact LeO.refl _)
   | (with_reducible exact LeO.none _)
   | (with_reducible refine LeO.ite ?_ ?_)
   | (with_reducible refine LeO.bind ?_ (fun _=>?_))
   | exact LeO.none _
   | refine LeO.ite ?_ ?_
   | refine LeO.bind ?_ (fun _=>?_)
set_option maxHeartbeats 8000000 in
set_option maxRecDepth 100000 in
theorem slices_Compare_int_int.calls (k:Nat) (A0:Option Addr) (c0:Nat) (l0:List Int) (A1:Option Addr) (c1:Nat) (l1:List Int) (r:Int) (w:World) (hr0:Kd.C (Kd.int .i64) w A0 l0.length l0) (hc0:l0.length≤c0) (hr1:Kd.C (Kd.int .i64) w A1 l1.length l1) (hc1:l1.length≤c1) (h:slices_Compare_int_int.f k l0 l1=some r) :
  Calls Tryd.prog 98 #[.slice A0 l0.length c0,.slice A1 l1.length c1] w fun e w'=>e=.returned (.int .i64 r)∧Drawn0 w w':=by
 have HR0:=Aside0.mk hr0
 have HC0:=Aside0.mk hc0
 clear hr0 hc0
 have HR1:=Aside0.mk hr1
 have HC1:=Aside0.mk hc1
 clear hr1 hc1
 have H:(slices_Compare_int_int.l0 k l0 l1 l0 (l0.length:Int) 0)=some r:=h
 clear h
 have H':=Aside0.mk H
 clear H
 go_enter Tryd.func98,Tryd.ntmps98
 go_wp2
 go_loopg [11] k (fun kq v11 w'=>∃ (x11_1:Int),v11=.int .i64 x11_1∧Aside0 (slices_Compare_int_int.l0 kq l0 l1 l0 (l0.length:Int) x11_1=some r)∧Aside0 (kq≤k)∧Drawn0 w w')
 case atStart=>exact ⟨(0),(by first|rfl|(simp;done)|(simp [*];done)),H',⟨Nat.le_refl _⟩,zdw⟩
 case round =>
  clear H'
  try clear c1
  try clear p2
  obtain ⟨x11_1,rfl,HA,HK1,⟨m1,rfl⟩⟩:=hrel
  cases gk with
  | zero=>exact absurd HA.out (by simp [slices_Compare_int_int.l0])
  | succ k1 =>
   have H:=HA.out
   clear HA
   simp only [slices_Compare_int_int.l0] at H
   by_cases c3:x11_1 < (l0.length:Int)
   ·rw [if_pos c3] at H
    have c3b0:decide (x11_1 < (l0.length:Int))=true:=decide_eq_true c3
    clear c3
    by_cases c4:0≤x11_1
    ·rw [if_pos c4] at H
     have c4b0:decide (0≤x11_1)=true:=decide_eq_true c4
     clear c4
     by_cases c5:x11_1 < (l0.length:Int)
     ·rw [if_pos c5] at H
      have c5b0:decide (x11_1 < (l0.length:Int))=true:=decide_eq_true c5
      clear c5
      by_cases c6:x11_1 ≥ (l1.length:Int)
      ·rw [if_pos c6] at H
       have c6b0:decide ((l1.length:Int)≤x11_1)=true:=decide_eq_true c6
       clear c6
       obtain rfl:=Option.some.inj H
       have p177:0≤(x11_1:Int):=zod
       have q177:x11_1 < (l0.length:Int):=zod
       obtain ⟨ad177,e177,hx177_0⟩:=Kd.at_int HR0.out x11_1 p177 q177
       cases e177
       replace p177:=eq_true p177
       replace q177:=eq_true q177
       go_wp2
       go_ret
       exact ⟨by first|rfl|(simp;done)|(simp [*];done),zdw⟩
      ·rw [if_neg c6] at H
       have c6b0:decide ((l1.length:Int)≤x11_1)=false:=decide_eq_false c6
       clear c6
       by_cases c7:x11_1 < (l1.length:Int)
       ·rw [if_pos c7] at H
        have c7b0:decide (x11_1 < (l1.length:Int))=true:=decide_eq_true c7
        clear c7
        replace H:=Option.bind_eq_some_iff.mp H
        obtain ⟨t179,A80,H⟩:=H
        (try dsimp only at H)
        have A8:=Aside0.mk A80
        clear A80
        by_cases c9:t179=0
        ·rw [if_pos c9] at H
         have c9b0:(t179 == 0)=true:=beq_iff_eq.mpr c9
         have c9b1:(t179 != 0)=false:=bne_eq_false_iff_eq.mpr c9
         clear c9
         have H':=Aside0.mk H
         clear H
         have p177:0≤(x11_1:Int):=zod
         have q177:x11_1 < (l0.length:Int):=zod
         obtain ⟨ad177,e177,hx177_0⟩:=Kd.at_int HR0.out x11_1 p177 q177
         cases e177
         replace p177:=eq_true p177
         replace q177:=eq_true q177
         have p178:0≤(x11_1:Int):=zod
         have q178:x11_1 < (l1.length:Int):=zod
         obtain ⟨ad178,e178,hx178_0⟩:=Kd.at_int HR1.out x11_1 p178 q178
         cases e178
         replace p178:=eq_true p178
         replace q178:=eq_true q178
         go_wp2_with (first|((with_reducible refine gate_callee (f:=117) rfl ?_);refine goesL_ (some 26) rfl rfl Tryd.func117 (by kernel_rfl) rfl #[.int .i64 (rd l0 x11_1),.int .i64 (rd l1 x11_1)] rfl zar ?_;(with_reducible refine (cmp_Compare_int.calls (rd l0 x11_1) (rd l1 x11_1) t179 _ A8.out).mono ?_);rintro e w' ⟨rfl,⟨nd,rfl⟩⟩;refine ⟨_,rfl,?_⟩))
         go_roundg k1
         case measure=>have:=HK1.out;omega
         case rel=>exact ⟨(wrap64 (x11_1 + 1)),(by first|rfl|(simp;done)|(simp [*];done)),H',⟨by have:=HK1.out;omega⟩,zdw⟩
        ·rw [if_neg c9] at H
         have c9b0:(t179 == 0)=false:=beq_eq_false_iff_ne.mpr c9
         have c9b1:(t179 != 0)=true:=bne_iff_ne.mpr c9
         obtain rfl:=Option.some.inj H
         have p177:0≤(x11_1:Int):=zod
         have q177:x11_1 < (l0.length:Int):=zod
         obtain ⟨ad177,e177,hx177_0⟩:=Kd.at_int HR0.out x11_1 p177 q177
         cases e177
         replace p177:=eq_true p177
         replace q177:=eq_true q177
         have p178:0≤(x11_1:Int):=zod
         have q178:x11_1 < (l1.length:Int):=zod
         obtain ⟨ad178,e178,hx178_0⟩:=Kd.at_int HR1.out x11_1 p178 q178
         cases e178
         replace p178:=eq_true p178
         replace q178:=eq_true q178
         go_wp2_with (first|((with_reducible refine gate_callee (f:=117) rfl ?_);refine goesL_ (some 26) rfl rfl Tryd.func117 (by kernel_rfl) rfl #[.int .i64 (rd l0 x11_1),.int .i64 (rd l1 x11_1)] rfl zar ?_;(with_reducible refine (cmp_Compare_int.calls (rd l0 x11_1) (rd l1 x11_1) t179 _ A8.out).mono ?_);rintro e w' ⟨rfl,⟨nd,rfl⟩⟩;refine ⟨_,rfl,?_⟩))
         go_ret
         exact ⟨by first|rfl|(simp;done)|(simp [*];done),zdw⟩
       ·rw [if_neg c7] at H
        exact absurd H (by simp)
     ·rw [if_neg c5] at H
      exact absurd H (by simp)
    ·rw [if_neg c4] at H
     exact absurd H (by simp)
   ·rw [if_neg c3] at H
    have c3b0:decide (x11_1 < (l0.length:Int))=false:=decide_eq_false c3
    clear c3
    by_cases c10:(l0.length:Int) < (l1.length:Int)
    ·rw [if_pos c10] at H
     have c10b0:decide ((l0.length:Int) < (l1.length:Int))=true:=decide_eq_true c10
     have c10b1:decide (l0.length < l1.length)=true:=decide_eq_true (Int.ofNat_lt.mp c10)
     clear c10
     obtain rfl:=Option.some.inj H
     go_wp2
     go_ret
     exact ⟨by first|rfl|(simp;done)|(simp [*];done),zdw⟩
    ·rw [if_neg c10] at H
     have c10b0:decide ((l0.length:Int) < (l1.length:Int))=false:=decide_eq_false c10
     have c10b1:decide (l0.length < l1.length)=false:=decide_eq_false (fun h=>c10 (Int.ofNat_lt.mpr h))
     clear c10
     obtain rfl:=Option.some.inj H
     go_wp2
     go_ret
     exact ⟨by first|rfl|(simp;done)|(simp [*];done),zdw⟩

/-! ### impl_RowLess: function 72 -/
def impl_RowLess.f (k:Nat) (l0:List Int) (l1:List Int):Option (Bool):=(slices_Compare_int_int.f k l0 l1).bind fun t180=>(some (decide (t180 < 0)))
theorem impl_RowLess.mono : ∀ a0 a1 k,LeO (impl_RowLess.f k a0 a1) (impl_RowLess.f (k + 1) a0 a1):=by
 intro a0 a1 k
 unfold impl_RowLess.f
 repeat' first
   | (with_reducible exact slices_Compare_int_int.mono _ _ _)
   | (with_reducible exact LeO.refl _)
   | (with_reducible exact LeO.none _)
   | (with_reducible refine LeO.ite ?_ ?_)
   | (with_reducible refine LeO.bind ?_ (fun _=>?_))
   | exact LeO.none _
   | refine LeO.ite ?_ ?_
   | refine LeO.bind ?_ (fun _=>?_)
set_option maxHeartbeats 8000000 in
set_option maxRecDepth 100000 in
theorem impl_RowLess.calls (k:Nat) (A0:Option Addr) (c0:Nat) (l0:List Int) (A1:Option Addr) (c1:Nat) (l1:List Int) (r:Bool) (w:World) (hr0:Kd.C (Kd.int .i64) w A0 l0.length l0) (hc0:l0.length≤c0) (hr1:Kd.C (Kd.int .i64) w A1 l1.length l1) (hc1:l1.length≤c1) (h:impl_RowLess.f k l0 l1=some r) :
  Calls Tryd.prog 72 #[.slice A0 l0.length c0,.slice A1 l1.length c1] w fun e w'=>e=.returned (.bool r)∧Drawn0 w w':=by
 have HR0:=Aside0.mk hr0
 have HC0:=Aside0.mk hc0
 clear hr0 hc0
 have HR1:=Aside0.mk hr1
 have HC1:=Aside0.mk hc1
 clear hr1 hc1
 have H:((slices_Compare_int_int.f k l0 l1).bind fun t180=>(some (decide (t180 < 0))))=some r:=h
 clear h
 replace H:=Option.bind_eq_some_iff.mp H
 obtain ⟨t180,A30,H⟩:=H
 (try dsimp only at H)
 have A3:=Aside0.mk A30
 clear A30
 obtain rfl:=Option.some.inj H
 go_enter Tryd.func72,Tryd.ntmps72
 go_wp2_with (first|((with_reducible refine gate_callee (f:=98) rfl ?_);refine goesL_ (some 7) rfl rfl Tryd.func98 (by kernel_rfl) rfl #[.slice A0 l0.length c0,.slice A1 l1.length c1] rfl zar ?_;(with_reducible refine (slices_Compare_int_int.calls k _ _ l0 _ _ l1 t180 _ ?side1 ?side2 ?side3 ?side4 A3.out).mono ?_);(case side1=>exact zC HR0.out);(case side2=>exact HC0.out);(case side3=>exact zC HR1.out);(case side4=>exact HC1.out);rintro e w' ⟨rfl,⟨nd,rfl⟩⟩;refine ⟨_,rfl,?_⟩))
 go_ret
 exact ⟨by first|rfl|(simp;done)|(simp [*];done),zdw⟩

end Go.Proofs.YtgcplipimcbhlaaDoor.PFnExactZRead
