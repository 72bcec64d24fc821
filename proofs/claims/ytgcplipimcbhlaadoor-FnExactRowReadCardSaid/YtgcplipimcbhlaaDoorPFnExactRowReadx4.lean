-- Written by wip/tools/pp.py, a program of this session over the kit's printer: not the kit's own print
import Derived.Test.YtgcplipimcbhlaaDoorPFnExactRowReadx0
import Derived.Test.YtgcplipimcbhlaaDoorPFnExactRowReadx1
import Derived.Test.YtgcplipimcbhlaaDoorPFnExactRowReadx3
namespace Go.Proofs.YtgcplipimcbhlaaDoor.PFnExactRowRead
open Go.RowKit Go.Proofs.YtgcplipimcbhlaaDoorW.PrintWords Go.Proofs.YtgcplipimcbhlaaDoorW.PrintLast Go.Proofs.YtgcplipimcbhlaaDoorW.PrintMore
attribute [local go_sem] max2_int min2_int max_two min_two max_three min_three max_four min_four   -- for this text's walks alone
set_option linter.unusedVariables false
set_option linter.unusedSimpArgs false

/-! ### impl_RowRead: function 28 (by hand) -/
/-- the cells of a text: what stands between its commas, read as numbers; none, if one is no number -/
def goB:List UInt8→List Int→List UInt8→Option (List Int)
 | _,rs,[]=>some rs
 | cur,rs,c :: l=>if c=44 then (match Lib.atoiAll cur with | .ok v=>goB [] (rs ++ [v]) l | _=>none) else goB (cur ++ [c]) rs l
theorem goB_skip : ∀ (m l:List UInt8) (cur:List UInt8) (rs:List Int),(∀ c ∈ m,c≠44)→goB cur rs (m ++ l)=goB (cur ++ m) rs l:=by
 intro m
 induction m with
 | nil=>intro l cur rs _;simp
 | cons c m ih =>
  intro l cur rs h
  rw [List.cons_append,goB,if_neg (h c List.mem_cons_self),ih _ _ _ (fun x hx=>h x (List.mem_cons_of_mem _ hx)),List.append_assoc]
  rfl
/-- a rune that is no ASCII byte passes over no comma -/
theorem decode_skip (s:ByteArray) (pos:Nat) (h:pos < s.size) (ha:128≤(s.get! pos).toNat):1≤(Utf8.decode s pos).2∧pos + (Utf8.decode s pos).2≤s.size∧128≤(Utf8.decode s pos).1∧∀ k,k < (Utf8.decode s pos).2→128≤(s.get! (pos + k)).toNat:=by
 rw [Lib.decode_at]
 unfold Lib.decodeN
 rw [if_neg (by omega)]
 repeat' split
 all_goals refine ⟨by simp only;omega,by simp only;omega,by simp only;omega,?_⟩
 all_goals intro k hk
 all_goals simp only at hk
 all_goals rcases k with _|_|_|_|k
 all_goals first|exact ha|(exfalso;omega)|(show 128≤(s.get! (pos + 1)).toNat;omega)|(show 128≤(s.get! (pos + 2)).toNat;omega)|(show 128≤(s.get! (pos + 3)).toNat;omega)

def impl_RowRead.f (k:Nat) (a0:ByteArray):Option (List Int × Bool) :=
 if a0.size > 100 then some ([],false) else
  match goB [] [] (a0.data.toList ++ [44]) with
  | none=>some ([],false)
  | some rs=>(impl_RowOk.f k rs).bind fun b=>if b=true then ((impl_RowText.f rs).bind fun t=>if t=a0 then some (rs,true) else some ([],false)) else some ([],false)
theorem impl_RowRead.mono : ∀ a0 k,LeO (impl_RowRead.f k a0) (impl_RowRead.f (k + 1) a0):=by
 intro a0 k
 unfold impl_RowRead.f
 refine LeO.ite (LeO.refl _) ?_
 cases goB [] [] (a0.data.toList ++ [44]) with
 | none=>exact LeO.refl _
 | some rs=>exact LeO.bind (impl_RowOk.mono _ _) (fun _=>LeO.refl _)
theorem bytes_ne {a b:ByteArray} (h:a≠b):(a.toList == b.toList)=false:=by
 rw [beq_eq_false_iff_ne]
 intro e
 rw [Lib.toList_data,Lib.toList_data] at e
 exact h (ByteArray.ext (Array.toList_inj.1 e))
theorem take_more (l:List UInt8) (f p n:Nat) (h:f≤p):(l.drop f).take (p + n - f)=(l.drop f).take (p - f) ++ (l.drop p).take n:=by
 rw [show p + n - f=(p - f) + n by omega,List.take_add,List.drop_drop,show f + (p - f)=p by omega]
/-- a rune that is no comma is passed over -/
theorem step_other (S:ByteArray) (pos f:Nat) (rs:List Int) (h:pos < S.size) (hf:f≤pos) (h44:(Utf8.decode S pos).1≠44):pos + (Utf8.decode S pos).2≤S.size∧1≤(Utf8.decode S pos).2 ∧
  goB ((S.data.toList.drop f).take (pos + (Utf8.decode S pos).2 - f)) rs (S.data.toList.drop (pos + (Utf8.decode S pos).2))=goB ((S.data.toList.drop f).take (pos - f)) rs (S.data.toList.drop pos):=by
 have hl:S.data.toList.length=S.size:=Array.length_toList
 have hget : ∀ k,pos + k < S.size→∀ c,S.data.toList[pos + k]?=some c→c=S.get! (pos + k):=by
  intro k hk c hc
  rw [List.getElem?_eq_getElem (by omega)] at hc
  rw [← Option.some.inj hc]
  show _=S.data[pos + k]!
  rw [getElem!_pos S.data (pos + k) (by exact hk)]
  exact Array.getElem_toList ..
 have key:1≤(Utf8.decode S pos).2∧pos + (Utf8.decode S pos).2≤S.size∧∀ k,k < (Utf8.decode S pos).2→S.get! (pos + k)≠44:=by
  by_cases ha:(S.get! pos).toNat < 128
  ·have e:S[pos]'h=S.get! pos:=(get_at S pos h).symm
   have hd:=decode_ascii S pos h (by rw [e];exact ha)
   rw [hd]
   refine ⟨Nat.le_refl _,h,fun k hk=>?_⟩
   have hk0:k=0:=by simp only at hk;omega
   subst hk0
   intro e44
   rw [hd] at h44
   apply h44
   show (S[pos]'h).toNat=44
   rw [e]
   have:S.get! pos=44:=e44
   rw [this]
   rfl
  ·obtain ⟨h1,h2,h3,h4⟩:=decode_skip S pos h (by omega)
   refine ⟨h1,h2,fun k hk e44=>?_⟩
   have:=h4 k hk
   rw [e44] at this
   exact absurd this (by decide)
 refine ⟨key.2.1,key.1,?_⟩
 rw [take_more _ f pos _ hf,show S.data.toList.drop pos=(S.data.toList.drop pos).take (Utf8.decode S pos).2 ++ S.data.toList.drop (pos + (Utf8.decode S pos).2) by rw [← List.drop_drop,List.take_append_drop]]
 rw [goB_skip]
 ·rw [List.take_append_of_le_length (by rw [List.length_take,List.length_drop];omega),List.take_take,Nat.min_self]
 ·intro c hc
  obtain ⟨k,hk⟩:=List.getElem?_of_mem hc
  have hk':k < (Utf8.decode S pos).2:=by
   have:=(List.getElem?_eq_some_iff.1 hk).1
   rw [List.length_take] at this
   omega
  rw [List.getElem?_take_of_lt hk',List.getElem?_drop] at hk
  rw [hget k (by omega) c hk]
  exact key.2.2 k hk'
theorem step_comma (a0 S:ByteArray) (hS:S.data.toList=a0.data.toList ++ [44]) (pos f:Nat) (h:pos < S.size) (hf:f≤pos) (hp:pos≤a0.size) (h44:(Utf8.decode S pos).1=44) :
  (Utf8.decode S pos).2=1∧(a0.extract f pos).data.toList=(S.data.toList.drop f).take (pos - f)∧S.data.toList.drop pos=44 :: S.data.toList.drop (pos + 1):=by
 have hl:a0.data.toList.length=a0.size:=Array.length_toList
 have hb:(S.get! pos).toNat < 128:=by
  by_cases ha:(S.get! pos).toNat < 128
  ·exact ha
  ·have:=(decode_skip S pos h (by omega)).2.2.1
   omega
 have e:S[pos]'h=S.get! pos:=(get_at S pos h).symm
 have hd:=decode_ascii S pos h (by rw [e];exact hb)
 refine ⟨by rw [hd],?_,?_⟩
 ·rw [hS,List.drop_append_of_le_length (by omega),List.take_append_of_le_length (by rw [List.length_drop];omega)]
  simp [ByteArray.data_extract]
 ·have hsl:pos < S.data.toList.length:=by rw [Array.length_toList];exact h
  rw [List.drop_eq_getElem_cons hsl]
  congr 1
  have:(S[pos]'h).toNat=44:=by rw [hd] at h44;exact h44
  have e2:S.data.toList[pos]=S[pos]'h:=Array.getElem_toList ..
  rw [e2]
  exact UInt8.toNat_inj.1 this
theorem infoInt:(Tryd.prog.info? 3).map (fun i=>(i.zero,i.size,i.bytes))=some (some (.int .i64 0),1,8):=by kernel_rfl
theorem below_iter {w W:World} (hb:Below w.heap.size w W) (s:ByteArray) (p:Nat):Below w.heap.size w (W.iterAt w.heap.size s p):=Lib.below_iterAt hb (k:=w.heap.size) (Nat.le_refl _) s p
theorem own_iter {W:World} {n:Nat} {e:TypeId} {v:Value} {m:Nat} {xs:List Value} (h:W.ownsRow (n + 1) e 1 v m xs) (s:ByteArray) (p:Nat):(W.iterAt n s p).ownsRow (n + 1) e 1 v m xs :=
 own_move h (fun k hk=>Lib.iterAt_other W n k s p (by have:=(h.lt k hk).1;omega))
set_option maxHeartbeats 8000000 in
set_option maxRecDepth 100000 in
theorem impl_RowRead.calls (k:Nat) (a0:ByteArray) (r1:List Int) (r2:Bool) (w:World) (h:impl_RowRead.f k a0=some (r1,r2)) (hT:TxtW w:=by exact TxtW.on HT0.out zhb) :
  Calls Tryd.prog 28 #[.string a0] w fun e w'=>∃ v0_:Value,e=.returned (.tuple #[v0_,.bool r2])∧Kd.R (Kd.int .i64) 3 w' w.heap.size (fun _=>True) v0_ r1∧Below w.heap.size w w':=by
 have HT:=Aside0.mk hT
 clear hT
 unfold impl_RowRead.f at h
 by_cases h0:a0.size > 100
 ·rw [if_pos h0] at h
  injection h with h
  injection h with e1 e2
  subst e1 e2
  have c0:decide (100 < (a0.size:Int))=true:=decide_eq_true (by omega)
  clear h0
  go_enter Tryd.func28,Tryd.ntmps28
  go_wp2
  go_step3
  go_wp2
  rw [Exit.noGoto_ret]
  go_ret2
  exact ⟨_,rfl,Kd.R_nil _ _ _ _ _,Below.refl _ _⟩
 rw [if_neg h0] at h
 have HF:=Aside0.mk h
 clear h
 have c0:decide (100 < (a0.size:Int))=false:=decide_eq_false (by omega)
 have hcat:a0.size + 1≤9223372036854775807:=by omega
 obtain ⟨S,hS⟩ : ∃ S,S=a0 ++ (⟨#[44]⟩:ByteArray):=⟨_,rfl⟩
 have hSz:S.size=a0.size + 1:=by rw [hS,ByteArray.size_append];rfl
 have HS:=Aside0.mk hS
 have HSZ:=Aside0.mk hSz
 have HSD:=Aside0.mk (show S.data.toList=a0.data.toList ++ [44] by rw [hS,ByteArray.data_append,Array.toList_append])
 have HA:=Aside0.mk (show a0.size≤100 by omega)
 have hS':=hS.symm
 obtain ⟨i0,hi,hz0,hz1,hz2⟩:=info_parts infoInt
 clear hS hSz h0
 go_enter Tryd.func28,Tryd.ntmps28
 go_wp2
 go_step3
 go_wp2
 go_step3
 go_wp2
 go_loopw [4,5] (fun v f wr=>∃ (pos from_:Nat) (rs:List Int),pos≤S.size∧from_≤pos∧f=.int .i64 from_∧wr.heap[w.heap.size]?=some (.stringIter S pos)∧wr.ownsRow (w.heap.size + 1) 3 1 v rs.length (encs (Value.int .i64) rs)∧Below w.heap.size w wr∧rs.length≤from_∧goB ((S.data.toList.drop from_).take (pos - from_)) rs (S.data.toList.drop pos)=goB [] [] S.data.toList)
  (fun _ _ wr=>S.size - wr.iterPos w.heap.size)
 case atStart =>
  refine ⟨0,0,[],Nat.zero_le _,Nat.le_refl _,rfl,?_,World.ownsRow_nil _ _ _ _,?_,Nat.le_refl _,?_⟩
  ·rw [HS.out];exact World.iter_heap w _ 0
  ·exact (Below.refl _ w).alloc (Nat.le_refl _) _
  ·simp
 case round =>
  obtain ⟨pos,from_,rs,hp,hfp,rfl,hit,hown,hnx,hrl,hgo⟩:=hrel
  have HIT:=Aside0.mk hit
  have HOW:=Aside0.mk hown
  have HNX:=Aside0.mk hnx
  have HGO:=Aside0.mk hgo
  have HRL:=Aside0.mk hrl
  have HFP:=Aside0.mk hfp
  have HSI:=Aside0.mk (show w.heap.size < wr.heap.size from (Array.getElem?_eq_some_iff.1 hit).1)
  clear hit hown hnx hgo hrl hfp
  by_cases hlt:pos < S.size
  case neg =>
   have hnext : ∀ ty,(Instr.next (.pointer (some ⟨w.heap.size,0,none⟩)) true ty).run Tryd.prog wr=_:=fun ty=>Lib.run_next_end_at wr w.heap.size S pos ty HIT.out hlt
   have HG:=Aside0.mk (show goB [] [] (a0.data.toList ++ [44])=some rs by
    rw [← HSD.out,← HGO.out,show S.data.toList.drop pos = [] from List.drop_of_length_le (by rw [Array.length_toList];show S.size≤pos;omega),goB])
   have h:=HF.out
   rw [HG.out] at h
   replace h:=Option.bind_eq_some_iff.mp h
   obtain ⟨b,h_,h⟩:=h
   have A1:=Aside0.mk h_
   have HR:=Aside0.mk (Kd.R_of_own (h1:=fun _=>rfl) (ok:=fun _=>True) HOW.out (fun _ _=>trivial))
   obtain ⟨a4,c4,rfl⟩:=Kd.R_slice HR.out
   have HX:=Aside0.mk (Kd.R_reads' HR.out).2.2
   have HP:=Aside0.mk (Kd.R_reads' HR.out).2.1
   clear h_ HF hlt hp
   cases b with
   | false =>
    rw [if_neg (by decide)] at h
    injection h with h
    injection h with e1 e2
    subst e1 e2
    go_wp2_with fail
    refine (impl_RowOk.calls k _ _ rs false _ HX.out HP.out A1.out).mono ?_
    rintro e w1 ⟨rfl,hd⟩
    have hb:Below wr.heap.size wr w1:=by obtain ⟨n,rfl⟩:=hd;exact pw_below_drewN (Below.refl _ _) n
    have HB1:=Aside0.mk (HNX.out.trans (hb.mono HNX.out.size))
    clear hb hd
    go_wp2
    rw [Exit.noGoto_ret]
    go_ret2
    exact ⟨_,rfl,Kd.R_nil _ _ _ _ _,HB1.out⟩
   | true =>
   rw [if_pos rfl] at h
   replace h:=Option.bind_eq_some_iff.mp h
   obtain ⟨t,h_,h⟩:=h
   have A2:=Aside0.mk h_
   have HH:=Aside0.mk h
   clear h_ h
   go_wp2_with fail
   refine (impl_RowOk.calls k _ _ rs true _ HX.out HP.out A1.out).mono ?_
   rintro e w1 ⟨rfl,hd⟩
   have hb:Below wr.heap.size wr w1:=by obtain ⟨n,rfl⟩:=hd;exact pw_below_drewN (Below.refl _ _) n
   have HB1:=Aside0.mk (HNX.out.trans (hb.mono HNX.out.size))
   have HBq:=Aside0.mk hb
   clear hb hd
   go_wp2_with fail
   refine (impl_RowText.calls _ _ rs t _ (Kd.C_below HX.out HBq.out) HP.out A2.out (Lib.tabBelow_of_tabIs HT.out.1 _ HB1.out)).mono ?_
   rintro e w2 ⟨rfl,hb⟩
   have HB2:=Aside0.mk (HB1.out.trans (hb.mono HB1.out.size))
   have HBr:=Aside0.mk (below_step HBq.out hb)
   clear hb
   have h:=HH.out
   clear HH
   by_cases ht:t=a0
   ·subst ht
    rw [if_pos rfl] at h
    injection h with h
    injection h with e1 e2
    subst e1 e2
    go_wp2
    rw [Exit.noGoto_ret]
    go_ret2
    exact ⟨_,rfl,Kd.R_lower (Kd.R_below HR.out HBr.out) (Nat.le_succ _),HB2.out⟩
   ·rw [if_neg ht] at h
    injection h with h
    injection h with e1 e2
    subst e1 e2
    have ht0:=bytes_ne ht
    go_wp2
    rw [Exit.noGoto_ret]
    go_ret2
    exact ⟨_,rfl,Kd.R_nil _ _ _ _ _,HB2.out⟩
  have hnext : ∀ ty,(Instr.next (.pointer (some ⟨w.heap.size,0,none⟩)) true ty).run Tryd.prog wr=_:=fun ty=>Lib.run_next_any_at wr w.heap.size S pos ty HIT.out hlt
  by_cases h44:(Utf8.decode S pos).1=44
  case neg =>
   have i44b : ¬ ((Utf8.decode S pos).1:Int)=44:=by omega
   have HNI:=Aside0.mk (below_iter HNX.out S (pos + (Utf8.decode S pos).2))
   have HOI:=Aside0.mk (own_iter HOW.out S (pos + (Utf8.decode S pos).2))
   have HII:=Aside0.mk (Lib.iterAt_heap wr w.heap.size S pos (pos + (Utf8.decode S pos).2) HIT.out)
   have HST:=Aside0.mk (step_other S pos from_ rs hlt HFP.out h44)
   clear h44
   go_wp2_with fail
   go_roundw
   case rel =>
    exact ⟨pos + (Utf8.decode S pos).2,from_,rs,HST.out.1,by have:=HFP.out;omega,rfl,HII.out,HOI.out,HNI.out,HRL.out,HST.out.2.2.trans HGO.out⟩
   case measure =>
    simp only [World.iterPos,HII.out,HIT.out]
    have:=HST.out.2.1
    omega
  have i44b:((Utf8.decode S pos).1:Int)=44:=by omega
  have i44c:IntKind.i32.wrap 44=44:=rfl
  have hpa:pos≤a0.size:=by have:=HSZ.out;omega
  have hfp2:=HFP.out
  have HSC:=Aside0.mk (step_comma a0 S HSD.out pos from_ hlt hfp2 hpa h44)
  have hw1:=HSC.out.1
  rw [hw1] at hnext
  have HNI:=Aside0.mk (below_iter HNX.out S (pos + 1))
  have HOI:=Aside0.mk (own_iter HOW.out S (pos + 1))
  have HII:=Aside0.mk (Lib.iterAt_heap wr w.heap.size S pos (pos + 1) HIT.out)
  have HZI:=Aside0.mk (show w.heap.size + 1≤(wr.iterAt w.heap.size S (pos + 1)).heap.size by rw [Lib.iterAt_size];exact HSI.out)
  have HIP:=Aside0.mk (show wr.iterPos w.heap.size=pos by simp only [World.iterPos,HIT.out])
  have HLT:=Aside0.mk hlt
  have HG2:=Aside0.mk (show goB [] [] S.data.toList=(match Lib.atoiAll (a0.extract from_ pos).data.toList with | .ok v=>goB [] (rs ++ [v]) (S.data.toList.drop (pos + 1))|_=>none) by
   rw [← HGO.out,HSC.out.2.2,HSC.out.2.1,goB,if_pos rfl])
  have HEX:=Aside0.mk (show (a0.extract from_ pos).size≤100 by
   show (a0.extract from_ pos).data.size≤100
   rw [← Array.length_toList,HSC.out.2.1,List.length_take]
   have:=HA.out
   omega)
  obtain ⟨W1,hW1⟩ : ∃ W1,W1=wr.iterAt w.heap.size S (pos + 1):=⟨_,rfl⟩
  rw [← hW1] at hnext
  rw [← hW1] at HNI HOI HII HZI
  clear hW1 hw1 h44 hlt
  have hret : ∀ (z:Lib.NumEnd Int),Lib.atoiAll (a0.extract from_ pos).data.toList=z→(∀ v,z≠.ok v)→r1 = []∧r2=false:=by
   intro z hz hn
   have h1:=HF.out
   have h2:=HG2.out
   rw [HSD.out,hz] at h2
   rw [h2] at h1
   cases z with
   | ok v=>exact absurd rfl (hn v)
   | range=>simp at h1;exact ⟨h1.1,h1.2⟩
   | _=>simp at h1;exact ⟨h1.1,h1.2⟩
  have HRT:=Aside0.mk hret
  clear hret
  cases hat:Lib.atoiAll (a0.extract from_ pos).data.toList with
  | ok v =>
   have HAT:=Aside0.mk hat
   clear hat
   go_wp2_with (go_at_call 40;refine (Tryd.strconv_Atoi_ok _ (by have:=HEX.out;omega) v HAT.out W1).mono ?_;rintro e W2 ⟨rfl,hw⟩;refine Hid.out ?_)
   refine Lib.hid ?_
   have hb:Below W1.heap.size W1 W2:=by
    rcases hw with rfl|⟨t,rfl⟩
    ·exact Below.refl _ _
    ·exact Lib.bytesWorld_below W1 _ t
   have HB1:=Aside0.mk hb
   have HNW:=Aside0.mk (HNI.out.trans (hb.mono HNI.out.size))
   have HOJ:=Aside0.mk (own_move HOI.out (fun k hk=>hb.block k (by
    obtain ⟨cells,hc⟩:=own_typed HOI.out k hk
    exact (Array.getElem?_eq_some_iff.1 hc).1)))
   have HIJ:=Aside0.mk ((hb.block _ (by have:=HZI.out;omega)).trans HII.out)
   have HZJ:=Aside0.mk (Nat.le_trans HZI.out hb.size)
   have HLN:=Aside0.mk (show rs.length≤100 by have:=HRL.out;have:=HFP.out;have:=HA.out;omega)
   have HWR:=Aside0.mk (show wrap64 ((pos:Int) + 1)=((pos + 1:Nat):Int) by have:=HA.out;unfold wrap64;omega)
   clear hw hb hfp2
   go_wp2_with (at_builtin;refine wpList_append_own _ rfl _ _ 28 rfl (w.heap.size + 1) 3 i0 (.int .i64 0) 1 8 Tryd.underlying28 hi hz0 hz1 hz2 rfl (by decide) _ _ _ rfl (HOJ.out.alloc _) ⟨W2.heap.size,0,none⟩ 1 1 [Value.int .i64 v] rfl rfl (by intro j u' hj;match j,hj with|0,hj=>simp at hj;subst hj;simp [Addr.add]) (by intro u' hu';simp at hu';subst hu';rfl) (by have:=HLN.out;unfold maxLen;omega) (by have:=HLN.out;omega) (by have:=HZJ.out;simp;omega) ?_)
   intro v3 w3 hown3 hgrow _
   have hnx3:Below w.heap.size w w3:=(HNW.out.alloc (by have:=HZJ.out;omega) _).grown hgrow (by have:=HZJ.out;simp;omega) (fun k_ hk_=>Nat.le_trans (Nat.le_succ _) (HOJ.out.lt k_ hk_).1)
   have hit3:w3.heap[w.heap.size]?=some (.stringIter S (pos + 1)):=by
    have h1:Below (w.heap.size + 1) W2 w3:=((Below.refl (w.heap.size + 1) W2).alloc HZJ.out _).grown hgrow (by have:=HZJ.out;simp;omega) (fun k_ hk_=>(HOJ.out.lt k_ hk_).1)
    exact (h1.block _ (Nat.lt_succ_self _)).trans HIJ.out
   have HOW3:=Aside0.mk hown3
   have HNX3:=Aside0.mk hnx3
   have HIT3:=Aside0.mk hit3
   clear hown3 hgrow hnx3 hit3
   go_wp2
   go_roundw
   case rel =>
    refine ⟨pos + 1,pos + 1,rs ++ [v],HLT.out,Nat.le_refl _,by first|rfl|simp,HIT3.out,?_,HNX3.out,?_,?_⟩
    ·have:=HOW3.out
     simpa [encs] using this
    ·have:=HRL.out;have:=HFP.out;rw [List.length_append,List.length_singleton];omega
    ·rw [Nat.sub_self,List.take_zero,HG2.out,HAT.out]
   case measure =>
    simp only [World.iterPos,HIT3.out]
    have:=HLT.out
    have h2:=HIP.out
    simp only [World.iterPos] at h2
    rw [h2]
    omega
  | range =>
   obtain ⟨rfl,rfl⟩:=HRT.out _ hat (fun v=>by intro h;cases h)
   have HAT:=Aside0.mk hat
   clear hat
   obtain ⟨tp,p,hv⟩:=(HT.out.on HNI.out).2.2
   have HV:=Aside0.mk hv
   clear hv
   go_wp2_with (go_at_call 40;refine (Tryd.strconv_Atoi_range_var _ (by have:=HEX.out;omega) HAT.out tp p W1 HV.out).mono ?_;rintro e W2 ⟨N,rfl,-,-,hb⟩;have HB2:=Aside0.mk (HNI.out.trans (hb.mono HNI.out.size));clear hb)
   rw [Exit.noGoto_ret]
   go_ret2
   exact ⟨_,rfl,Kd.R_nil _ _ _ _ _,HB2.out⟩
  | _ =>
   obtain ⟨rfl,rfl⟩:=HRT.out _ hat (fun v=>by intro h;cases h)
   have HAT:=Aside0.mk hat
   clear hat
   obtain ⟨tp,p,hv⟩:=(HT.out.on HNI.out).2.1
   have HV:=Aside0.mk hv
   clear hv
   go_wp2_with (go_at_call 40;refine (Tryd.strconv_Atoi_syntax_var _ (by have:=HEX.out;omega) HAT.out tp p W1 HV.out).mono ?_;rintro e W2 ⟨N,rfl,-,-,hb⟩;have HB2:=Aside0.mk (HNI.out.trans (hb.mono HNI.out.size));clear hb)
   rw [Exit.noGoto_ret]
   go_ret2
   exact ⟨_,rfl,Kd.R_nil _ _ _ _ _,HB2.out⟩

/-! ### laws_markIntS: function 29 -/
def laws_markIntS.l0:Nat→List Int→Int→Int→Option (Int × List Int)
 | 0,_,_,_=>none
 | k + 1,x0,x1,x5=>if x5 < (x0.length:Int) then (if 0≤x5 then (laws_markIntS.l0 k (x0.set (x5:Int).toNat x1) (wrap64 (x1 + 1)) (wrap64 (x5 + 1))) else (none)) else (some (x1,x0))
def laws_markIntS.f (k:Nat) (l0:List Int) (a1:Int):Option (Int × List Int):=laws_markIntS.l0 k l0 a1 0
theorem laws_markIntS.mono_l : ∀ k,(∀ y0 y1 y2,LeO (laws_markIntS.l0 k y0 y1 y2) (laws_markIntS.l0 (k + 1) y0 y1 y2))
 | 0=>fun _ _ _ r h=>by simp [laws_markIntS.l0] at h
 | k + 1=>by
  have ih0:=laws_markIntS.mono_l k
  ·intro y0 y1 y2
   unfold laws_markIntS.l0
   repeat' first
   | (with_reducible exact ih0 _ _ _)
   | (with_reducible exact LeO.refl _)
   | (with_reducible exact LeO.none _)
   | (with_reducible refine LeO.ite ?_ ?_)
   | (with_reducible refine LeO.bind ?_ (fun _=>?_))
   | exact LeO.none _
   | refine LeO.ite ?_ ?_
   | refine LeO.bind ?_ (fun _=>?_)
theorem laws_markIntS.mono : ∀ a0 a1 k,LeO (laws_markIntS.f k a0 a1) (laws_markIntS.f (k + 1) a0 a1):=by
 intro a0 a1 k
 have ih0:=laws_markIntS.mono_l k
 unfold laws_markIntS.f
 repeat' first
   | (with_reducible exact ih0 _ _ _)
   | (with_reducible exact LeO.refl _)
   | (with_reducible exact LeO.none _)
   | (with_reducible refine LeO.ite ?_ ?_)
   | (with_reducible refine LeO.bind ?_ (fun _=>?_))
   | exact LeO.none _
   | refine LeO.ite ?_ ?_
   | refine LeO.bind ?_ (fun _=>?_)
set_option maxHeartbeats 8000000 in
set_option maxRecDepth 100000 in
theorem laws_markIntS.calls (k:Nat) (P0_:Nat→Prop) (u9000_:Value) (l0:List Int) (a1:Int) (r1:Int) (r2:List Int) (w0 w:World) (hB:Below w0.heap.size w0 w) (ho0:Kd.R (Kd.int .i64) 3 w w0.heap.size P0_ u9000_ l0) (h:laws_markIntS.f k l0 a1=some (r1,r2)) :
  Calls Tryd.prog 29 #[u9000_,.int .i64 a1] w fun e w'=>e=.returned (.int .i64 r1)∧Kd.R (Kd.int .i64) 3 w' w0.heap.size (fun k_=>(P0_ k_∨w.heap.size≤k_)) u9000_ r2∧Below w0.heap.size w0 w'∧Kept w w' (fun k_=>P0_ k_):=by
 have HO0:=Aside0.mk (show Kd.R (Kd.int .i64) 3 w w0.heap.size (fun k_=>(P0_ k_∨w.heap.size≤k_)) u9000_ l0 from Kd.R_mono ho0 (fun k_ hk=>(.inl hk)))
 have HK:=Aside0.mk (Kept.refl w (fun k_=>P0_ k_))
 have HW0:=Aside0.mk hB.size
 have HB:=Aside0.mk hB
 clear hB
 have H:(laws_markIntS.l0 k l0 a1 0)=some (r1,r2):=h
 clear h
 have H':=Aside0.mk H
 clear H
 go_enter Tryd.func29,Tryd.ntmps29
 go_wp2
 go_loopg [1,5] k (fun kq v1 v5 w'=>∃ (x0_1:List Int) (x1_1:Int) (x5_1:Int),v1=.int .i64 x1_1∧v5=.int .i64 x5_1∧Aside0 (laws_markIntS.l0 kq x0_1 x1_1 x5_1=some (r1,r2))∧Aside0 (kq≤k)∧Aside0 (Kd.R (Kd.int .i64) 3 w' w0.heap.size (fun k_=>(P0_ k_∨w.heap.size≤k_)) u9000_ x0_1)∧Aside0 (Kept w w' (fun k_=>P0_ k_))∧Aside0 (Below w0.heap.size w0 w'))
 case atStart=>exact ⟨(l0),(a1),(0),(by first|rfl|(rw [HR_.out];first|done|rfl)|(simp;done)|(simp [*];done)),(by first|rfl|(rw [HR_.out];first|done|rfl)|(simp;done)|(simp [*];done)),H',⟨Nat.le_refl _⟩,⟨by (with_reducible repeat (first|apply Kd.R_alloc|apply Kd.R_drewN|apply Kd.R_drew));exact HO0.out⟩,⟨zhq⟩,⟨zhb⟩⟩
 case round =>
  clear H'
  try clear c2
  try clear p2
  obtain ⟨x0_1,x1_1,x5_1,rfl,rfl,HA,HK1,HO_0,HK,HB⟩:=hrel
  cases gk with
  | zero=>exact absurd HA.out (by simp [laws_markIntS.l0])
  | succ k1 =>
   have H:=HA.out
   clear HA
   simp only [laws_markIntS.l0] at H
   by_cases c3:x5_1 < (x0_1.length:Int)
   ·rw [if_pos c3] at H
    have c3b0:decide (x5_1 < (x0_1.length:Int))=true:=decide_eq_true c3
    clear c3
    by_cases c4:0≤x5_1
    ·rw [if_pos c4] at H
     have c4b0:decide (0≤x5_1)=true:=decide_eq_true c4
     clear c4
     obtain ⟨y132,hy132⟩ : ∃ y_:List Int,y_=(x0_1.set (x5_1:Int).toNat x1_1):=⟨_,rfl⟩
     replace H:(laws_markIntS.l0 k1 y132 (wrap64 (x1_1 + 1)) (wrap64 (x5_1 + 1)))=some (r1,r2):=by first|(rw [hy132];with_reducible exact H)|(have H2_:=(Option.bind_some _ _).symm.trans H;rw [hy132];with_reducible exact H2_)|(have H2_:=(Option.bind_some _ _).symm.trans H;with_reducible exact H2_)|with_reducible exact H|(rw [hy132];exact H)|exact H
     have Ny132:=Aside0.mk hy132
     clear hy132
     have H':=Aside0.mk H
     clear H
     obtain ⟨Ao6,co6,eo6⟩:=Kd.R_slice HO_0.out
     subst eo6
     have p5:0≤(x5_1:Int):=zod
     have q5:(x5_1:Int) < ((x0_1.length:Int):Int):=zod
     obtain ⟨go5,co5,eo5,gb5,gl5,cl5,HG5⟩:=Kd.R_form HO_0.out (by omega)
     (first|cases eo5|(injection eo5 with ea_ en_ ec_;(first|subst ea_|(injection ea_ with ea_;subst ea_));subst ec_;clear en_))
     have GB5:=Aside0.mk gb5
     have GG5:=Aside0.mk HG5
     clear gb5 gl5 HG5
     have HMgo5:=Aside0.mk (show (P0_ go5∨w.heap.size≤go5) from (HO_0.out.1 _ rfl))
     obtain ⟨hx5_0,hf5_0⟩:=Kd.R_celln 0 HO_0.out (x5_1:Int) p5 q5
     replace p5:=eq_true p5
     replace q5:=eq_true q5
     have HP7:=Kd.R_putg HO_0.out (x5_1:Int) x1_1
     go_wp2_with (first|((with_reducible refine gate_store (t:=3) (p:=15) rfl ?_);refine store_event (t:=3) (p:=15) (v:=?vo_w8) (w1:=(wr.setCell ⟨go5,(x5_1:Int).toNat,none⟩ (.int .i64 x1_1))) ?hg ?ho ?hn ?hr ?_;(case ho=>rfl);(case hg=>rfl);(case hn=>rfl);(case hr=>first|(go_simp;done)|(go_simp;rfl));intro w8 hw;have hg:wr.grownBy w8 (some go5):=(by rw [hw];exact HP7.2);have hp_:Kd.R (Kd.int .i64) 3 w8 w0.heap.size (fun k_=>(P0_ k_∨w.heap.size≤k_)) (.slice (some ⟨go5,0,none⟩) x0_1.length co6) y132:=(by rw [hw,Ny132.out];exact HP7.1);clear HP7;have n0_:=Aside0.mk (hp_);have n1_:=Aside0.mk ((by rw [hw];exact below_set (HB.out) GB5.out:Below w0.heap.size w0 w8));have n2_:=Aside0.mk (Kept.of_grown (S:=(fun k_=>P0_ k_)) hg zhq (fun k_ e_=>(HO_0.out.1 k_ e_)));clear HO_0;clear HB;clear HK;have HO_0:=n0_;have HB:=n1_;have HK:=n2_;clear n0_ n1_ n2_;clear hg hw hp_))
     go_roundg k1
     case measure=>have:=HK1.out;omega
     case rel=>exact ⟨(y132),(wrap64 (x1_1 + 1)),(wrap64 (x5_1 + 1)),(by first|rfl|(rw [HR_.out];first|done|rfl)|(simp;done)|(simp [*];done)),(by first|rfl|(rw [HR_.out];first|done|rfl)|(simp;done)|(simp [*];done)),H',⟨by have:=HK1.out;omega⟩,⟨by (with_reducible repeat (first|apply Kd.R_alloc|apply Kd.R_drewN|apply Kd.R_drew));exact HO_0.out⟩,⟨zhq⟩,⟨zhb⟩⟩
    ·rw [if_neg c4] at H
     exact absurd H (by simp)
   ·rw [if_neg c3] at H
    have c3b0:decide (x5_1 < (x0_1.length:Int))=false:=decide_eq_false c3
    clear c3
    simp only [Option.some.injEq,Prod.mk.injEq] at H
    obtain ⟨rfl,rfl⟩:=H
    obtain ⟨Ao9,co9,eo9⟩:=Kd.R_slice HO_0.out
    subst eo9
    go_wp2
    go_ret
    exact ⟨by first|rfl|(rw [HR_.out];first|done|rfl)|(simp [errW_none,errW_some] <;> rfl)|(simp [*,errW_none,errW_some] <;> rfl),by (with_reducible repeat (first|apply Kd.R_alloc|apply Kd.R_drewN|apply Kd.R_drew));exact HO_0.out,zhb,zhq⟩

/-! ### laws_heldIntS: function 30 -/
def laws_heldIntS.l0:Nat→List Int→Int→Int→Option (Int)
 | 0,_,_,_=>none
 | k + 1,x0,x1,x5=>if x5 < (x0.length:Int) then (if 0≤x5 then (if (rd x0 x5)=x1 then (laws_heldIntS.l0 k x0 (wrap64 (x1 + 1)) (wrap64 (x5 + 1))) else (some (-1))) else (none)) else (some x1)
def laws_heldIntS.f (k:Nat) (l0:List Int) (a1:Int):Option (Int):=laws_heldIntS.l0 k l0 a1 0
theorem laws_heldIntS.mono_l : ∀ k,(∀ y0 y1 y2,LeO (laws_heldIntS.l0 k y0 y1 y2) (laws_heldIntS.l0 (k + 1) y0 y1 y2))
 | 0=>fun _ _ _ r h=>by simp [laws_heldIntS.l0] at h
 | k + 1=>by
  have ih0:=laws_heldIntS.mono_l k
  ·intro y0 y1 y2
   unfold laws_heldIntS.l0
   repeat' first
   | (with_reducible exact ih0 _ _ _)
   | (with_reducible exact LeO.refl _)
   | (with_reducible exact LeO.none _)
   | (with_reducible refine LeO.ite ?_ ?_)
   | (with_reducible refine LeO.bind ?_ (fun _=>?_))
   | exact LeO.none _
   | refine LeO.ite ?_ ?_
   | refine LeO.bind ?_ (fun _=>?_)
theorem laws_heldIntS.mono : ∀ a0 a1 k,LeO (laws_heldIntS.f k a0 a1) (laws_heldIntS.f (k + 1) a0 a1):=by
 intro a0 a1 k
 have ih0:=laws_heldIntS.mono_l k
 unfold laws_heldIntS.f
 repeat' first
   | (with_reducible exact ih0 _ _ _)
   | (with_reducible exact LeO.refl _)
   | (with_reducible exact LeO.none _)
   | (with_reducible refine LeO.ite ?_ ?_)
   | (with_reducible refine LeO.bind ?_ (fun _=>?_))
   | exact LeO.none _
   | refine LeO.ite ?_ ?_
   | refine LeO.bind ?_ (fun _=>?_)
set_option maxHeartbeats 8000000 in
set_option maxRecDepth 100000 in
theorem laws_heldIntS.calls (k:Nat) (A0:Option Addr) (c0:Nat) (l0:List Int) (a1:Int) (r:Int) (w:World) (hr0:Kd.C (Kd.int .i64) w A0 l0.length l0) (hc0:l0.length≤c0) (h:laws_heldIntS.f k l0 a1=some r) :
  Calls Tryd.prog 30 #[.slice A0 l0.length c0,.int .i64 a1] w fun e w'=>e=.returned (.int .i64 r)∧Drawn0 w w':=by
 have HR0:=Aside0.mk hr0
 have HC0:=Aside0.mk hc0
 clear hr0 hc0
 have H:(laws_heldIntS.l0 k l0 a1 0)=some r:=h
 clear h
 have H':=Aside0.mk H
 clear H
 go_enter Tryd.func30,Tryd.ntmps30
 go_wp2
 go_loopg [1,5] k (fun kq v1 v5 w'=>∃ (x1_1:Int) (x5_1:Int),v1=.int .i64 x1_1∧v5=.int .i64 x5_1∧Aside0 (laws_heldIntS.l0 kq l0 x1_1 x5_1=some r)∧Aside0 (kq≤k)∧Drawn0 w w')
 case atStart=>exact ⟨(a1),(0),(by first|rfl|(rw [HR_.out];first|done|rfl)|(simp;done)|(simp [*];done)),(by first|rfl|(rw [HR_.out];first|done|rfl)|(simp;done)|(simp [*];done)),H',⟨Nat.le_refl _⟩,zdw⟩
 case round =>
  clear H'
  try clear p2
  obtain ⟨x1_1,x5_1,rfl,rfl,HA,HK1,⟨m1,rfl⟩⟩:=hrel
  cases gk with
  | zero=>exact absurd HA.out (by simp [laws_heldIntS.l0])
  | succ k1 =>
   have H:=HA.out
   clear HA
   simp only [laws_heldIntS.l0] at H
   by_cases c3:x5_1 < (l0.length:Int)
   ·rw [if_pos c3] at H
    have c3b0:decide (x5_1 < (l0.length:Int))=true:=decide_eq_true c3
    clear c3
    by_cases c4:0≤x5_1
    ·rw [if_pos c4] at H
     have c4b0:decide (0≤x5_1)=true:=decide_eq_true c4
     clear c4
     by_cases c5:(rd l0 x5_1)=x1_1
     ·rw [if_pos c5] at H
      have c5b0:((rd l0 x5_1) == x1_1)=true:=beq_iff_eq.mpr c5
      have c5b1:((rd l0 x5_1) != x1_1)=false:=bne_eq_false_iff_eq.mpr c5
      clear c5
      have H':=Aside0.mk H
      clear H
      have p133:0≤(x5_1:Int):=zod
      have q133:x5_1 < (l0.length:Int):=zod
      obtain ⟨ad133,e133,hx133_0⟩:=Kd.at_int HR0.out x5_1 p133 q133
      cases e133
      replace p133:=eq_true p133
      replace q133:=eq_true q133
      go_wp2
      go_roundg k1
      case measure=>have:=HK1.out;omega
      case rel=>exact ⟨(wrap64 (x1_1 + 1)),(wrap64 (x5_1 + 1)),(by first|rfl|(rw [HR_.out];first|done|rfl)|(simp;done)|(simp [*];done)),(by first|rfl|(rw [HR_.out];first|done|rfl)|(simp;done)|(simp [*];done)),H',⟨by have:=HK1.out;omega⟩,zdw⟩
     ·rw [if_neg c5] at H
      have c5b0:((rd l0 x5_1) == x1_1)=false:=beq_eq_false_iff_ne.mpr c5
      have c5b1:((rd l0 x5_1) != x1_1)=true:=bne_iff_ne.mpr c5
      obtain rfl:=Option.some.inj H
      have p133:0≤(x5_1:Int):=zod
      have q133:x5_1 < (l0.length:Int):=zod
      obtain ⟨ad133,e133,hx133_0⟩:=Kd.at_int HR0.out x5_1 p133 q133
      cases e133
      replace p133:=eq_true p133
      replace q133:=eq_true q133
      go_wp2
      go_ret
      exact ⟨by first|rfl|(rw [HR_.out];first|done|rfl)|(simp;done)|(simp [*];done),zdw⟩
    ·rw [if_neg c4] at H
     exact absurd H (by simp)
   ·rw [if_neg c3] at H
    have c3b0:decide (x5_1 < (l0.length:Int))=false:=decide_eq_false c3
    clear c3
    obtain rfl:=Option.some.inj H
    go_wp2
    go_ret
    exact ⟨by first|rfl|(rw [HR_.out];first|done|rfl)|(simp;done)|(simp [*];done),zdw⟩

/-! ### laws_FnExactRowRead: function 7 -/
def laws_FnExactRowRead.f (k:Nat) (a0:ByteArray):Option (Bool):=if (a0.size:Int) > 1048576 then (some true) else ((spec_RowRead.f k a0).bind fun bt134=>((impl_RowRead.f k a0).bind fun bt138=>((laws_eqIntS.f k bt138.1 bt134.1).bind fun t142=>(if t142=true then (if (bt138.2 != bt134.2)=true then (some false) else ((laws_markIntS.f k bt138.1 1).bind fun bt143=>((laws_heldIntS.f k bt143.2 1).bind fun t145=>(if t145 < 0 then (some false) else (if t145=bt143.1 then ((impl_RowRead.f k a0).bind fun bt146=>((laws_eqIntS.f k bt146.1 bt134.1).bind fun t150=>(if t150=true then (if (bt146.2 != bt134.2)=true then (some false) else ((laws_heldIntS.f k bt143.2 1).bind fun t151=>(if t151 < 0 then (some false) else (if t151=bt143.1 then (some true) else (some false))))) else (some false)))) else (some false)))))) else (some false)))))
theorem laws_FnExactRowRead.mono : ∀ a0 k,LeO (laws_FnExactRowRead.f k a0) (laws_FnExactRowRead.f (k + 1) a0):=by
 intro a0 k
 unfold laws_FnExactRowRead.f
 repeat' first
   | (with_reducible exact impl_RowRead.mono _ _)
   | (with_reducible exact laws_eqIntS.mono _ _ _)
   | (with_reducible exact laws_heldIntS.mono _ _ _)
   | (with_reducible exact laws_markIntS.mono _ _ _)
   | (with_reducible exact spec_RowRead.mono _ _)
   | (with_reducible exact LeO.refl _)
   | (with_reducible exact LeO.none _)
   | (with_reducible refine LeO.ite ?_ ?_)
   | (with_reducible refine LeO.bind ?_ (fun _=>?_))
   | exact LeO.none _
   | refine LeO.ite ?_ ?_
   | refine LeO.bind ?_ (fun _=>?_)
set_option maxHeartbeats 8000000 in
set_option maxRecDepth 100000 in
theorem laws_FnExactRowRead.calls (k:Nat) (a0:ByteArray) (r:Bool) (w:World) (h:laws_FnExactRowRead.f k a0=some r) (hr_:r=true) (hT:TxtW w:=by exact TxtW.on HT0.out zhb) :
  Calls Tryd.prog 7 #[.string a0] w fun e w'=>e=.returned (.bool r)∧Below w.heap.size w w':=by
 have HT0:=Aside0.mk hT
 clear hT
 have HR_:=Aside0.mk hr_
 clear hr_
 have HB:=Aside0.mk (Below.refl w.heap.size w)
 have H:(if (a0.size:Int) > 1048576 then (some true) else ((spec_RowRead.f k a0).bind fun bt134=>((impl_RowRead.f k a0).bind fun bt138=>((laws_eqIntS.f k bt138.1 bt134.1).bind fun t142=>(if t142=true then (if (bt138.2 != bt134.2)=true then (some false) else ((laws_markIntS.f k bt138.1 1).bind fun bt143=>((laws_heldIntS.f k bt143.2 1).bind fun t145=>(if t145 < 0 then (some false) else (if t145=bt143.1 then ((impl_RowRead.f k a0).bind fun bt146=>((laws_eqIntS.f k bt146.1 bt134.1).bind fun t150=>(if t150=true then (if (bt146.2 != bt134.2)=true then (some false) else ((laws_heldIntS.f k bt143.2 1).bind fun t151=>(if t151 < 0 then (some false) else (if t151=bt143.1 then (some true) else (some false))))) else (some false)))) else (some false)))))) else (some false))))))=some r:=h
 clear h
 by_cases c2:(a0.size:Int) > 1048576
 ·rw [if_pos c2] at H
  have c2b0:decide (1048576 < (a0.size:Int))=true:=decide_eq_true c2
  have c2b1:decide (1048576 < a0.size)=true:=decide_eq_true (by omega)
  clear c2
  obtain rfl:=Option.some.inj H
  go_enter Tryd.func7,Tryd.ntmps7
  go_wp2
  go_ret
  exact ⟨by first|rfl|(rw [HR_.out];first|done|rfl)|(simp [errW_none,errW_some] <;> rfl)|(simp [*,errW_none,errW_some] <;> rfl),zhb⟩
 ·rw [if_neg c2] at H
  have c2b0:decide (1048576 < (a0.size:Int))=false:=decide_eq_false c2
  have c2b1:decide (1048576 < a0.size)=false:=decide_eq_false (by omega)
  clear c2
  replace H:=Option.bind_eq_some_iff.mp H
  obtain ⟨⟨t134,t135⟩,A30,H⟩:=H
  (try dsimp only at H)
  have A3:=Aside0.mk A30
  clear A30
  replace H:=Option.bind_eq_some_iff.mp H
  obtain ⟨⟨t138,t139⟩,A40,H⟩:=H
  (try dsimp only at H)
  have A4:=Aside0.mk A40
  clear A40
  replace H:=Option.bind_eq_some_iff.mp H
  obtain ⟨t142,A50,H⟩:=H
  (try dsimp only at H)
  have A5:=Aside0.mk A50
  clear A50
  by_cases c6:t142=true
  ·subst c6
   have H1:(if (t139 != t135)=true then (some false) else ((laws_markIntS.f k t138 1).bind fun bt143=>((laws_heldIntS.f k bt143.2 1).bind fun t145=>(if t145 < 0 then (some false) else (if t145=bt143.1 then ((impl_RowRead.f k a0).bind fun bt146=>((laws_eqIntS.f k bt146.1 t134).bind fun t150=>(if t150=true then (if (bt146.2 != t135)=true then (some false) else ((laws_heldIntS.f k bt143.2 1).bind fun t151=>(if t151 < 0 then (some false) else (if t151=bt143.1 then (some true) else (some false))))) else (some false)))) else (some false))))))=some r:=by rw [if_pos rfl] at H;exact H
   clear H
   have H:=H1
   clear H1
   by_cases c7:(t139 != t135)=true
   ·rw [if_pos c7] at H
    have c7b0:(t139 != t135)=true:=c7
    (try (have c7b1:decide (t139=t135)=false:=by simpa using c7))
    (try (have c7b2:(t139 == t135)=false:=by simpa using c7))
    (try (have c7b3 : ¬ (t139=t135):=by simpa using c7))
    clear c7
    exact absurd ((Option.some.inj H).trans HR_.out) (by decide)
   ·rw [if_neg c7] at H
    have c7b0:(t139 != t135)=false:=by simpa using c7
    (try (have c7b1:decide (t139=t135)=true:=by simpa using c7))
    (try (have c7b2:(t139 == t135)=true:=by simpa using c7))
    clear c7
    replace H:=Option.bind_eq_some_iff.mp H
    obtain ⟨⟨t143,t144⟩,A80,H⟩:=H
    (try dsimp only at H)
    have A8:=Aside0.mk A80
    clear A80
    replace H:=Option.bind_eq_some_iff.mp H
    obtain ⟨t145,A90,H⟩:=H
    (try dsimp only at H)
    have A9:=Aside0.mk A90
    clear A90
    by_cases c10:t145 < 0
    ·rw [if_pos c10] at H
     have c10b0:decide (t145 < 0)=true:=decide_eq_true c10
     clear c10
     exact absurd ((Option.some.inj H).trans HR_.out) (by decide)
    ·rw [if_neg c10] at H
     have c10b0:decide (t145 < 0)=false:=decide_eq_false c10
     clear c10
     by_cases c11:t145=t143
     ·rw [if_pos c11] at H
      have c11b0:(t145 == t143)=true:=beq_iff_eq.mpr c11
      have c11b1:(t145 != t143)=false:=bne_eq_false_iff_eq.mpr c11
      clear c11
      replace H:=Option.bind_eq_some_iff.mp H
      obtain ⟨⟨t146,t147⟩,A120,H⟩:=H
      (try dsimp only at H)
      have A12:=Aside0.mk A120
      clear A120
      replace H:=Option.bind_eq_some_iff.mp H
      obtain ⟨t150,A130,H⟩:=H
      (try dsimp only at H)
      have A13:=Aside0.mk A130
      clear A130
      by_cases c14:t150=true
      ·subst c14
       have H1:(if (t147 != t135)=true then (some false) else ((laws_heldIntS.f k t144 1).bind fun t151=>(if t151 < 0 then (some false) else (if t151=t143 then (some true) else (some false)))))=some r:=by rw [if_pos rfl] at H;exact H
       clear H
       have H:=H1
       clear H1
       by_cases c15:(t147 != t135)=true
       ·rw [if_pos c15] at H
        have c15b0:(t147 != t135)=true:=c15
        (try (have c15b1:decide (t147=t135)=false:=by simpa using c15))
        (try (have c15b2:(t147 == t135)=false:=by simpa using c15))
        (try (have c15b3 : ¬ (t147=t135):=by simpa using c15))
        clear c15
        exact absurd ((Option.some.inj H).trans HR_.out) (by decide)
       ·rw [if_neg c15] at H
        have c15b0:(t147 != t135)=false:=by simpa using c15
        (try (have c15b1:decide (t147=t135)=true:=by simpa using c15))
        (try (have c15b2:(t147 == t135)=true:=by simpa using c15))
        clear c15
        replace H:=Option.bind_eq_some_iff.mp H
        obtain ⟨t151,A160,H⟩:=H
        (try dsimp only at H)
        have A16:=Aside0.mk A160
        clear A160
        by_cases c17:t151 < 0
        ·rw [if_pos c17] at H
         have c17b0:decide (t151 < 0)=true:=decide_eq_true c17
         clear c17
         exact absurd ((Option.some.inj H).trans HR_.out) (by decide)
        ·rw [if_neg c17] at H
         have c17b0:decide (t151 < 0)=false:=decide_eq_false c17
         clear c17
         by_cases c18:t151=t143
         ·rw [if_pos c18] at H
          have c18b0:(t151 == t143)=true:=beq_iff_eq.mpr c18
          have c18b1:(t151 != t143)=false:=bne_eq_false_iff_eq.mpr c18
          clear c18
          obtain rfl:=Option.some.inj H
          go_enter Tryd.func7,Tryd.ntmps7
          go_wp2_with (first|((with_reducible refine gate_callee (f:=27) rfl ?_);refine goesL_ (some 16) rfl rfl Tryd.func27 (by kernel_rfl) rfl #[.string a0] rfl zar ?_;(with_reducible refine (spec_RowRead.calls k a0 t134 t135 _ A3.out).mono ?_);rintro e w19 ⟨v136,rfl,ho0,hb⟩;refine ⟨_,rfl,?_⟩;have n0_:=Aside0.mk (Kd.R_lower ho0 (below_size zhb));have n1_:=Aside0.mk (below_step zhb hb);clear HB;have HO137:=n0_;have HB:=n1_;clear n0_ n1_;(try clear hb);(try clear hb2);(try clear hk);(try clear hi);(try clear ho0))|((with_reducible refine gate_callee (f:=28) rfl ?_);refine goesL_ (some 21) rfl rfl Tryd.func28 (by kernel_rfl) rfl #[.string a0] rfl zar ?_;(with_reducible refine (impl_RowRead.calls k a0 t138 t139 _ A4.out).mono ?_);rintro e w20 ⟨v140,rfl,ho0,hb⟩;refine ⟨_,rfl,?_⟩;have n0_:=Aside0.mk (Kd.R_elder' (by (with_reducible repeat (first|apply Kd.R_alloc|apply Kd.R_drewN|apply Kd.R_drew));exact HO137.out) (Kd.R_base ho0) hb);have n1_:=Aside0.mk (Kd.R_lower (Kd.R_new' ho0 (Kd.R_lt (by (with_reducible repeat (first|apply Kd.R_alloc|apply Kd.R_drewN|apply Kd.R_drew));exact HO137.out))) (below_size zhb));have n2_:=Aside0.mk (below_step zhb hb);clear HO137;clear HB;have HO137:=n0_;have HO141:=n1_;have HB:=n2_;clear n0_ n1_ n2_;(try clear hb);(try clear hb2);(try clear hk);(try clear hi);(try clear ho0);obtain ⟨Ao21,co21,eo21⟩:=Kd.R_slice HO141.out;subst eo21;obtain ⟨Ao22,co22,eo22⟩:=Kd.R_slice HO137.out;subst eo22)|((with_reducible refine gate_callee (f:=17) rfl ?_);refine goesL_ (some 26) rfl rfl Tryd.func17 (by kernel_rfl) rfl #[.slice Ao21 t138.length co21,.slice Ao22 t134.length co22] rfl zar ?_;(with_reducible refine (laws_eqIntS.calls k _ _ t138 _ _ t134 true _ ?side1 ?side2 ?side3 ?side4 A5.out).mono ?_);(case side1=>repeat (first|exact (Kd.R_reads' HO141.out).2.2|(with_reducible refine Kd.C_alloc ?_ _)|(with_reducible refine Kd.C_drewN ?_ _)|(with_reducible refine Kd.C_drew ?_)));(case side2=>exact (Kd.R_reads' HO141.out).2.1);(case side3=>repeat (first|exact (Kd.R_reads' HO137.out).2.2|(with_reducible refine Kd.C_alloc ?_ _)|(with_reducible refine Kd.C_drewN ?_ _)|(with_reducible refine Kd.C_drew ?_)));(case side4=>exact (Kd.R_reads' HO137.out).2.1);rintro e w' ⟨rfl,⟨nd,rfl⟩⟩;refine ⟨_,rfl,?_⟩)|((with_reducible refine gate_callee (f:=29) rfl ?_);refine goesL_ (some 35) rfl rfl Tryd.func29 (by kernel_rfl) rfl #[.slice Ao21 t138.length co21,.int .i64 1] rfl zar ?_;(with_reducible refine (laws_markIntS.calls k (fun k_=>some k_=(.slice Ao21 t138.length co21:Value).ownBlock) (.slice Ao21 t138.length co21) t138 1 t143 t144 w _ ?side1 ?side2 A8.out).mono ?_);(case side1=>exact zhb);(case side2=>exact Kd.R_tight rfl HO141.out);rintro e w23 ⟨rfl,hy0,hb,hkp⟩;refine ⟨_,rfl,?_⟩;have n0_:=Aside0.mk (Kd.R_mono (ok':=fun k_=>some k_≠(.slice Ao21 t138.length co21:Value).ownBlock) (Kd.R_keptB (HO137.out) hkp (fun k_ hk_ hs_=>(hk_.2) hs_)) (fun k_ hk_=>hk_.1.2));have n1_:=Aside0.mk (Kd.R_reok rfl hy0 (fun k_ e_=>HO141.out.1 k_ e_));have n2_:=Aside0.mk (hb);clear HO137;clear HO141;clear HB;have HO137:=n0_;have HO141:=n1_;have HB:=n2_;clear n0_ n1_ n2_;(try clear hb);(try clear hkp);(try clear hy0))|((with_reducible refine gate_callee (f:=30) rfl ?_);refine goesL_ (some 38) rfl rfl Tryd.func30 (by kernel_rfl) rfl #[.slice Ao21 t144.length co21,.int .i64 1] rfl (by (try simp only [List.map_toArray,List.map_cons,List.map_nil]);first|done|(rw [show t144.length=t138.length from (Kd.R_reads' HO141.out).1.symm] <;> rfl)|rfl|(simp only [List.length_drop,List.length_take];rfl)) ?_;(with_reducible refine (laws_heldIntS.calls k _ _ t144 1 t145 _ ?side1 ?side2 A9.out).mono ?_);(case side1=>repeat (first|exact (Kd.R_reads' HO141.out).2.2|(with_reducible refine Kd.C_alloc ?_ _)|(with_reducible refine Kd.C_drewN ?_ _)|(with_reducible refine Kd.C_drew ?_)));(case side2=>rw [show t144.length=t138.length from (Kd.R_reads' HO141.out).1.symm];exact (Kd.R_reads' HO141.out).2.1);rintro e w' ⟨rfl,⟨nd,rfl⟩⟩;refine ⟨_,rfl,?_⟩)|((with_reducible refine gate_callee (f:=28) rfl ?_);refine goesL_ (some 46) rfl rfl Tryd.func28 (by kernel_rfl) rfl #[.string a0] rfl zar ?_;(with_reducible refine (impl_RowRead.calls k a0 t146 t147 _ A12.out).mono ?_);rintro e w24 ⟨v148,rfl,ho0,hb⟩;refine ⟨_,rfl,?_⟩;have n0_:=Aside0.mk (Kd.R_elder' (by (with_reducible repeat (first|apply Kd.R_alloc|apply Kd.R_drewN|apply Kd.R_drew));exact HO137.out) (Kd.R_base ho0) hb);have n1_:=Aside0.mk (Kd.R_elder' (by (with_reducible repeat (first|apply Kd.R_alloc|apply Kd.R_drewN|apply Kd.R_drew));exact HO141.out) (Kd.R_base ho0) hb);have n2_:=Aside0.mk (Kd.R_lower (Kd.R_new' (Kd.R_new' ho0 (Kd.R_lt (by (with_reducible repeat (first|apply Kd.R_alloc|apply Kd.R_drewN|apply Kd.R_drew));exact HO137.out))) (Kd.R_lt (by (with_reducible repeat (first|apply Kd.R_alloc|apply Kd.R_drewN|apply Kd.R_drew));exact HO141.out))) (below_size zhb));have n3_:=Aside0.mk (below_step zhb hb);clear HO137;clear HO141;clear HB;have HO137:=n0_;have HO141:=n1_;have HO149:=n2_;have HB:=n3_;clear n0_ n1_ n2_ n3_;(try clear hb);(try clear hb2);(try clear hk);(try clear hi);(try clear ho0);obtain ⟨Ao25,co25,eo25⟩:=Kd.R_slice HO149.out;subst eo25)|((with_reducible refine gate_callee (f:=17) rfl ?_);refine goesL_ (some 51) rfl rfl Tryd.func17 (by kernel_rfl) rfl #[.slice Ao25 t146.length co25,.slice Ao22 t134.length co22] rfl zar ?_;(with_reducible refine (laws_eqIntS.calls k _ _ t146 _ _ t134 true _ ?side1 ?side2 ?side3 ?side4 A13.out).mono ?_);(case side1=>repeat (first|exact (Kd.R_reads' HO149.out).2.2|(with_reducible refine Kd.C_alloc ?_ _)|(with_reducible refine Kd.C_drewN ?_ _)|(with_reducible refine Kd.C_drew ?_)));(case side2=>exact (Kd.R_reads' HO149.out).2.1);(case side3=>repeat (first|exact (Kd.R_reads' HO137.out).2.2|(with_reducible refine Kd.C_alloc ?_ _)|(with_reducible refine Kd.C_drewN ?_ _)|(with_reducible refine Kd.C_drew ?_)));(case side4=>exact (Kd.R_reads' HO137.out).2.1);rintro e w' ⟨rfl,⟨nd,rfl⟩⟩;refine ⟨_,rfl,?_⟩)|((with_reducible refine gate_callee (f:=30) rfl ?_);refine goesL_ (some 60) rfl rfl Tryd.func30 (by kernel_rfl) rfl #[.slice Ao21 t144.length co21,.int .i64 1] rfl (by (try simp only [List.map_toArray,List.map_cons,List.map_nil]);first|done|(rw [show t144.length=t138.length from (Kd.R_reads' HO141.out).1.symm] <;> rfl)|rfl|(simp only [List.length_drop,List.length_take];rfl)) ?_;(with_reducible refine (laws_heldIntS.calls k _ _ t144 1 t151 _ ?side1 ?side2 A16.out).mono ?_);(case side1=>repeat (first|exact (Kd.R_reads' HO141.out).2.2|(with_reducible refine Kd.C_alloc ?_ _)|(with_reducible refine Kd.C_drewN ?_ _)|(with_reducible refine Kd.C_drew ?_)));(case side2=>rw [show t144.length=t138.length from (Kd.R_reads' HO141.out).1.symm];exact (Kd.R_reads' HO141.out).2.1);rintro e w' ⟨rfl,⟨nd,rfl⟩⟩;refine ⟨_,rfl,?_⟩))
          go_ret
          exact ⟨by first|rfl|(rw [HR_.out];first|done|rfl)|(simp [errW_none,errW_some] <;> rfl)|(exact absurd ((Option.some.inj (A4.out.symm.trans A12.out)).trans HR_.out) (by decide))|(exact absurd ((Option.some.inj (A9.out.symm.trans A16.out)).trans HR_.out) (by decide))|(simp [*,errW_none,errW_some] <;> rfl),zhb⟩
         ·rw [if_neg c18] at H
          have c18b0:(t151 == t143)=false:=beq_eq_false_iff_ne.mpr c18
          have c18b1:(t151 != t143)=true:=bne_iff_ne.mpr c18
          exact absurd ((Option.some.inj H).trans HR_.out) (by decide)
      ·replace c14:=Bool.eq_false_iff.mpr c14
       subst c14
       have H1:(some false)=some r:=by rw [if_neg (show ¬ (false=true) by decide)] at H;exact H
       clear H
       have H:=H1
       clear H1
       exact absurd ((Option.some.inj H).trans HR_.out) (by decide)
     ·rw [if_neg c11] at H
      have c11b0:(t145 == t143)=false:=beq_eq_false_iff_ne.mpr c11
      have c11b1:(t145 != t143)=true:=bne_iff_ne.mpr c11
      exact absurd ((Option.some.inj H).trans HR_.out) (by decide)
  ·replace c6:=Bool.eq_false_iff.mpr c6
   subst c6
   have H1:(some false)=some r:=by rw [if_neg (show ¬ (false=true) by decide)] at H;exact H
   clear H
   have H:=H1
   clear H1
   exact absurd ((Option.some.inj H).trans HR_.out) (by decide)

/-- THE ONE PURE STATEMENT of laws_FnExactRowRead: yours. -/
def laws_FnExactRowRead.Pure:Prop:=∀ (a0:ByteArray),a0.size≤140737488351232→∃ k,laws_FnExactRowRead.f k a0=some true
theorem laws_FnExactRowRead.walk (P:laws_FnExactRowRead.Pure) (a0:ByteArray) (w:World) (w0:a0.size≤140737488351232) (hT:TxtW w) :
  Calls Tryd.prog 7 #[.string a0] w fun e w'=>e=.returned (.bool true)∧Below w.heap.size w w':=by
 obtain ⟨k,h⟩:=P a0 w0
 refine (laws_FnExactRowRead.calls k a0 true w h rfl hT).mono ?_
 rintro e w' ⟨rfl,hd⟩
 exact ⟨rfl,hd⟩

end Go.Proofs.YtgcplipimcbhlaaDoor.PFnExactRowRead
